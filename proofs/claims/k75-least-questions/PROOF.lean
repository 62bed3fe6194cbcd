import PyProof.Rows.All
import Wide.All
import OpenK.AllK
import Wide.FinOn
import HandS.ForMost
import HandS.IsInst
import HandS.TupAny
import HandS.SetKeys
import HandS.Deep
import HandS.Codes
import HandS.Defaults
import PySem.Challenge.RW_anyworth_k75_whole_equal_questions_alike
import KE.DataFind
import KE.KDictKeyed
import KE.KeyNested
import KE.KDictList
import HandS.Conv
import HandS.DictComp
import HandS.DictTup
import HandS.Lambda
import KE.KMinKey
import HandS.Iter
import HandS.SortKw
import KE.SortKeyHeap
import HandS.Sort
import HandS.TupSets
import KE.KStateDown
import Lean
import HandS.Ends
import HandS.More
import HandS.Words
import HandS.WordsExc
import HandS.Head0
import HandS.Head1
import HandS.Head2
import HandS.HeadEnd
import HandS.HeadHook1
import HandS.HeadHook2
import HandS.HeadHook3
import HandS.HeadHook4
import HandS.HeadWalk
import HandS.EndTab
set_option Elab.async false
set_option linter.all false
set_option maxRecDepth 100000
set_option maxHeartbeats 0
/-! A1: data made of ints, texts and tuples; how values stand for them in a heap; what is kept. -/
namespace Aw
open PySem PySem.Spec PyProof.Rows L2

inductive T where
  | int (i : Int)
  | str (s : Str)
  | tup (l : List T)

mutual
def T.py : T → PyData
  | .int i => .int i
  | .str s => .str s
  | .tup l => .tuple (T.pys l)
def T.pys : List T → List PyData
  | [] => []
  | d :: l => T.py d :: T.pys l
end
mutual
def T.dp : T → Nat
  | .int _ => 0
  | .str _ => 0
  | .tup l => T.dps l + 1
def T.dps : List T → Nat
  | [] => 0
  | d :: l => Nat.max (T.dp d) (T.dps l)
end
mutual
theorem T.py_depth : ∀ d : T, d.py.depth ≤ d.dp
  | .int _ => by simp [T.py, PyData.depth]
  | .str _ => by simp [T.py, PyData.depth]
  | .tup l => by
    have h := T.pys_depth l
    simp only [T.py, PyData.depth, T.dp]
    omega
theorem T.pys_depth : ∀ l : List T, PyData.depthAll (T.pys l) ≤ T.dps l
  | [] => by simp [T.pys, PyData.depthAll]
  | d :: l => by
    have h1 := T.py_depth d
    have h2 := T.pys_depth l
    have e : T.dps (d :: l) = max (T.dp d) (T.dps l) := rfl
    simp only [T.pys, PyData.depthAll, e]
    omega
end
mutual
theorem T.eqv_iff : ∀ d e : T, PyData.eqv d.py e.py = true ↔ d = e
  | .int i, .int j => by simp [T.py, PyData.eqv]
  | .str x, .str y => by simp [T.py, PyData.eqv]
  | .tup l, .tup m => by
    have h := T.eqvs_iff l m
    simp only [T.py, PyData.eqv, h, T.tup.injEq]
  | .int _, .str _ => by simp [T.py, PyData.eqv]
  | .int _, .tup _ => by simp [T.py, PyData.eqv]
  | .str _, .int _ => by simp [T.py, PyData.eqv]
  | .str _, .tup _ => by simp [T.py, PyData.eqv]
  | .tup _, .int _ => by simp [T.py, PyData.eqv]
  | .tup _, .str _ => by simp [T.py, PyData.eqv]
theorem T.eqvs_iff : ∀ l m : List T, PyData.eqvAll (T.pys l) (T.pys m) = true ↔ l = m
  | [], [] => by simp [T.pys, PyData.eqvAll]
  | [], _ :: _ => by simp [T.pys, PyData.eqvAll]
  | _ :: _, [] => by simp [T.pys, PyData.eqvAll]
  | d :: l, e :: m => by
    have h1 := T.eqv_iff d e
    have h2 := T.eqvs_iff l m
    simp only [T.pys, PyData.eqvAll, Bool.and_eq_true, h1, h2, List.cons.injEq]
end
theorem T.eqv_dec {d e : T} [Decidable (d = e)] : PyData.eqv d.py e.py = decide (d = e) := by
  by_cases h : d = e
  · rw [decide_eq_true h]
    exact (T.eqv_iff d e).mpr h
  · rw [decide_eq_false h]
    cases q : PyData.eqv d.py e.py with
    | false => rfl
    | true => exact absurd ((T.eqv_iff d e).mp q) h
theorem T.pys_map {α : Type} (f : α → T) : ∀ l : List α, T.pys (l.map f) = l.map fun x => (f x).py
  | [] => rfl
  | x :: l => by
    show (f x).py :: T.pys (l.map f) = (f x).py :: l.map fun x => (f x).py
    rw [T.pys_map f l]
theorem T.dps_le {l : List T} {n : Nat} (h : ∀ d ∈ l, d.dp ≤ n) : T.dps l ≤ n := by
  induction l with
  | nil => exact Nat.zero_le _
  | cons d l ih =>
    have h1 := h d List.mem_cons_self
    have h2 := ih fun e he => h e (List.mem_cons_of_mem _ he)
    exact Nat.max_le.mpr ⟨h1, h2⟩

/-! ### values that stand for data -/
/-- a tuple without a dict of its own -/
def Tq (H : Hp) (a : Addr) (xs : List V) : Prop := ∃ o : Obj, o.dict = none ∧ H a = some (.frz o (.tup xs))
theorem Tq.seq {K : PySem.W.Frag} {H : Hp} {a : Addr} {xs : List V} (h : Tq H a xs) : SqT K H a xs := by
  obtain ⟨o, _, h⟩ := h
  exact .inl (.inr ⟨o, h⟩)
theorem Tq.same {H H' : Hp} {a : Addr} {xs : List V} (e : Same H H') (h : Tq H a xs) : Tq H' a xs := by
  obtain ⟨o, h1, h⟩ := h
  exact ⟨o, h1, e _ _ h⟩
theorem Tq.upd_ {H : Hp} {a p : Addr} {xs : List V} {o : HO} (h : Tq H a xs) (n : p ≠ a) : Tq (upd H p o) a xs := by
  obtain ⟨u, h1, h⟩ := h
  exact ⟨u, h1, by rw [upd_ne n.symm]; exact h⟩
mutual
inductive Tp (H : Hp) : V → T → Prop
  | int (i : Int) : Tp H (.int i) (.int i)
  | str (x : Str) (h : PyData.strOk x = true) : Tp H (.str x) (.str x)
  | tup {a : Addr} {xs : List V} {ds : List T} : Tq H a xs → Tps H xs ds → Tp H (.ref a) (.tup ds)
inductive Tps (H : Hp) : List V → List T → Prop
  | nil : Tps H [] []
  | cons {v : V} {vs : List V} {d : T} {ds : List T} : Tp H v d → Tps H vs ds → Tps H (v :: vs) (d :: ds)
end
/-- tuples stay -/
def Tx (H H' : Hp) : Prop := ∀ a xs, Tq H a xs → Tq H' a xs
theorem Tx.refl (H : Hp) : Tx H H := fun _ _ h => h
theorem Tx.trans {H H1 H2 : Hp} (a : Tx H H1) (b : Tx H1 H2) : Tx H H2 := fun x xs h => b x xs (a x xs h)
mutual
theorem Tp.mono {H H' : Hp} (e : Tx H H') : ∀ {d : T} {v : V}, Tp H v d → Tp H' v d
  | .int _, _, .int i => .int i
  | .str _, _, .str x h => .str x h
  | .tup _, _, .tup h r => .tup (e _ _ h) (Tps.mono e r)
theorem Tps.mono {H H' : Hp} (e : Tx H H') : ∀ {ds : List T} {vs : List V}, Tps H vs ds → Tps H' vs ds
  | [], _, .nil => .nil
  | _ :: _, _, .cons h r => .cons (Tp.mono e h) (Tps.mono e r)
end
mutual
theorem Tp.dp_ {K : PySem.W.Frag} {H : Hp} : ∀ {d : T} {v : V}, Tp H v d → Dp K H v d.py
  | .int _, _, .int i => .int i
  | .str _, _, .str x _ => .str x
  | .tup _, _, .tup h r => .tup h.seq (Tps.dps_ r)
theorem Tps.dps_ {K : PySem.W.Frag} {H : Hp} : ∀ {ds : List T} {vs : List V}, Tps H vs ds → DpAll K H vs (T.pys ds)
  | [], _, .nil => .nil
  | _ :: _, _, .cons h r => .cons (Tp.dp_ h) (Tps.dps_ r)
end
mutual
theorem Tp.lay {H : Hp} : ∀ {d : T} {v : V}, Tp H v d → d.py.canLay0 = true
  | .int _, _, .int i => by simp [T.py, PyData.canLay0]
  | .str _, _, .str x h => by simp [T.py, PyData.canLay0, h]
  | .tup l, _, .tup h r => by simp [T.py, PyData.canLay0, Tps.lay r]
theorem Tps.lay {H : Hp} : ∀ {ds : List T} {vs : List V}, Tps H vs ds → PyData.canLayAll0 (T.pys ds) = true
  | [], _, .nil => by simp [T.pys, PyData.canLayAll0]
  | d :: l, _, .cons h r => by simp [T.pys, PyData.canLayAll0, Tp.lay h, Tps.lay r]
end
theorem Tp.shaped {H : Hp} {v : V} {d : T} (r : Tp H v d) (h : d.dp ≤ 64) : SeqAt.shaped d.py = true := by
  show (d.py.canLay0 && decide (d.py.depth ≤ 64)) = true
  rw [r.lay, Bool.true_and]
  exact decide_eq_true (Nat.le_trans (T.py_depth d) h)
section
variable {H : Hp} {xs ys : List V} {ds es : List T} {v : V} {d : T}
theorem Tps.length : ∀ {xs : List V} {ds : List T}, Tps H xs ds → xs.length = ds.length
  | _, _, .nil => rfl
  | _, _, .cons _ r => congrArg (· + 1) r.length
theorem Tps.get : ∀ {xs : List V} {ds : List T}, Tps H xs ds → ∀ {i : Nat} {v : V}, xs[i]? = some v → ∃ d, ds[i]? = some d ∧ Tp H v d
  | _, _, .nil, i, v, h => by simp at h
  | _, _, .cons h r, 0, v, e => ⟨_, rfl, by cases e; exact h⟩
  | _, _, .cons h r, i + 1, v, e => r.get (i := i) (by simpa using e)
theorem Tps.at_ : ∀ {xs : List V} {ds : List T}, Tps H xs ds → ∀ {i : Nat} {d : T}, ds[i]? = some d → ∃ v, xs[i]? = some v ∧ Tp H v d
  | _, _, .nil, i, v, h => by simp at h
  | _, _, .cons h r, 0, v, e => ⟨_, rfl, by cases e; exact h⟩
  | _, _, .cons h r, i + 1, v, e => r.at_ (i := i) (by simpa using e)
theorem Tps.append : ∀ {xs ys : List V} {ds es : List T}, Tps H xs ds → Tps H ys es → Tps H (xs ++ ys) (ds ++ es)
  | _, _, _, _, .nil, s => s
  | _, _, _, _, .cons h r, s => .cons h (r.append s)
theorem Tps.one (h : Tp H v d) : Tps H [v] [d] := .cons h .nil
theorem Tps.snoc (r : Tps H xs ds) (h : Tp H v d) : Tps H (xs ++ [v]) (ds ++ [d]) := r.append (.one h)
theorem Tps.take : ∀ {xs : List V} {ds : List T} (n : Nat), Tps H xs ds → Tps H (xs.take n) (ds.take n)
  | _, _, 0, _ => by simp; exact .nil
  | _, _, _ + 1, .nil => .nil
  | _, _, n + 1, .cons h r => .cons h (r.take n)
theorem Tps.drop : ∀ {xs : List V} {ds : List T} (n : Nat), Tps H xs ds → Tps H (xs.drop n) (ds.drop n)
  | _, _, 0, r => r
  | _, _, _ + 1, .nil => .nil
  | _, _, n + 1, .cons _ r => r.drop n
theorem Tps.insertAt : ∀ {xs : List V} {ds : List T} (n : Nat), Tps H xs ds → Tp H v d → Tps H (xs.take n ++ v :: xs.drop n) (ds.take n ++ d :: ds.drop n) := fun n r h => (r.take n).append (.cons h (r.drop n))
theorem Tps.eraseIdx : ∀ {xs : List V} {ds : List T} (n : Nat), Tps H xs ds → Tps H (xs.eraseIdx n) (ds.eraseIdx n)
  | _, _, _, .nil => .nil
  | _, _, 0, .cons _ r => r
  | _, _, n + 1, .cons h r => .cons h (r.eraseIdx n)
theorem Tps.reverse : ∀ {xs : List V} {ds : List T}, Tps H xs ds → Tps H xs.reverse ds.reverse
  | _, _, .nil => .nil
  | _, _, .cons h r => by
    rw [List.reverse_cons, List.reverse_cons]
    exact r.reverse.snoc h
theorem Tps.mem : ∀ {xs : List V} {ds : List T}, Tps H xs ds → ∀ {v : V}, v ∈ xs → ∃ d, d ∈ ds ∧ Tp H v d
  | _, _, .nil, v, h => by cases h
  | _, _, .cons h r, v, e => by
    rcases List.mem_cons.mp e with rfl | e
    · exact ⟨_, List.mem_cons_self, h⟩
    · obtain ⟨d, h1, h2⟩ := r.mem e
      exact ⟨d, List.mem_cons_of_mem _ h1, h2⟩
/-- a value that stands for the data made by f of a list's item -/
theorem Tps.getM {α : Type} {f : α → T} {l : List α} (r : Tps H xs (l.map f)) {i : Nat} {v : V} (h : xs[i]? = some v) : ∃ x, l[i]? = some x ∧ Tp H v (f x) := by
  obtain ⟨d, h1, h2⟩ := r.get h
  rw [List.getElem?_map] at h1
  cases q : l[i]? with
  | none =>
    rw [q] at h1
    cases h1
  | some x =>
    rw [q] at h1
    cases h1
    exact ⟨x, rfl, h2⟩
theorem Tps.atM {α : Type} {f : α → T} {l : List α} (r : Tps H xs (l.map f)) {i : Nat} {x : α} (h : l[i]? = some x) : ∃ v, xs[i]? = some v ∧ Tp H v (f x) :=
  r.at_ (by rw [List.getElem?_map, h]; rfl)
/-- a tuple's value -/
theorem Tp.tupE {v : V} {ds : List T} (h : Tp H v (.tup ds)) : ∃ a xs, v = .ref a ∧ Tq H a xs ∧ Tps H xs ds := by
  cases h with
  | tup h r => exact ⟨_, _, rfl, h, r⟩
theorem Tp.strE {v : V} {s : Str} (h : Tp H v (.str s)) : v = .str s := by
  cases h
  rfl
theorem Tp.intE {v : V} {i : Int} (h : Tp H v (.int i)) : v = .int i := by
  cases h
  rfl
/-- pairs -/
theorem Tps.two {a b : T} (h : Tps H xs [a, b]) : ∃ u v, xs = [u, v] ∧ Tp H u a ∧ Tp H v b := by
  cases h with
  | cons h1 r =>
    cases r with
    | cons h2 r => cases r; exact ⟨_, _, rfl, h1, h2⟩
end

/-! ### what a step keeps -/
/-- the drawn numbers that are left stand at d -/
def Dr (H : Hp) (d : Addr) : Prop := ∃ ns : List Int, H d = some (.lst (ns.map V.int))
/-- all is kept but the drawn numbers at d, of which some are left -/
structure Kd (d : Addr) (H H' : Hp) : Prop where
  ob : ∀ a o, a ≠ d → H a = some o → H' a = some o
  dr : Dr H' d
theorem Kd.same {d : Addr} {H H' : Hp} (e : Same H H') (h : Dr H d) : Kd d H H' := by
  obtain ⟨ns, h⟩ := h
  exact ⟨fun a o _ q => e a o q, ns, e _ _ h⟩
theorem Kd.refl {d : Addr} {H : Hp} (h : Dr H d) : Kd d H H := ⟨fun _ _ _ q => q, h⟩
theorem Kd.trans {d : Addr} {H H1 H2 : Hp} (a : Kd d H H1) (b : Kd d H1 H2) : Kd d H H2 := ⟨fun x o n q => b.ob x o n (a.ob x o n q), b.dr⟩
theorem Kd.then_ {d : Addr} {H H1 H2 : Hp} (a : Kd d H H1) (b : Same H1 H2) : Kd d H H2 := a.trans (.same b a.dr)
theorem Kd.tx {d : Addr} {H H' : Hp} (k : Kd d H H') (h : Dr H d) : Tx H H' := fun a xs ⟨o, q1, q⟩ => ⟨o, q1, k.ob a _ (fun z => by
  obtain ⟨ns, h⟩ := h
  rw [z, h] at q
  cases q) q⟩
theorem Same.tx {H H' : Hp} (e : Same H H') : Tx H H' := fun a xs q => q.same e
theorem same_new {H : Hp} {p : Addr} {o : HO} (h : H p = none) : Same H (upd H p o) := fun b u e => by
  rw [upd_ne (ne_of_none e h)]
  exact e
/-- an object that H does not know may change -/
theorem same_mut {H H' : Hp} {p : Addr} {o : HO} (e : Same H H') (h : H p = none) : Same H (upd H' p o) := fun b u q => by
  rw [upd_ne (ne_of_none q h)]
  exact e b u q
theorem tx_lst {H : Hp} {p : Addr} {o : HO} {xs : List V} (h : H p = some (.lst xs)) : Tx H (upd H p o) := fun b ys q => q.upd_ fun z => by
  obtain ⟨u, _, q⟩ := q
  rw [← z, h] at q
  cases q
theorem tx_dct {H : Hp} {p : Addr} {o : HO} {kvs : List (Key × V)} (h : H p = some (.dK kvs)) : Tx H (upd H p o) := fun b ys q => q.upd_ fun z => by
  obtain ⟨u, _, q⟩ := q
  rw [← z, h] at q
  cases q
theorem tx_new {H : Hp} {p : Addr} {o : HO} (h : H p = none) : Tx H (upd H p o) := Same.tx (same_new h)
theorem kd_new {d : Addr} {H : Hp} {p : Addr} {o : HO} (h : H p = none) (hd : Dr H d) : Kd d H (upd H p o) := .same (same_new h) hd
theorem dr_ne {d p : Addr} {H : Hp} (h : H p = none) (hd : Dr H d) : p ≠ d := fun z => by
  obtain ⟨ns, hd⟩ := hd
  rw [← z, h] at hd
  cases hd
end Aw

/-! A2: terms, atoms, joins, questions, maps and their data. -/
namespace Aw
open PySem PySem.Spec PyProof.Rows L2

inductive Tm where
  | var (s : Str)
  | val (k : Key)
  deriving DecidableEq
abbrev Atm := Str × List Tm
abbrev Jn := List Tm × List Atm
abbrev Mp := List (Str × Tm)
def sVar : Str := "var"
def sVal : Str := "value"
def Tm.tag : Tm → Str
  | .var _ => "var"
  | .val _ => "value"
def Tm.pay : Tm → V
  | .var s => .str s
  | .val k => kV k
def encK : Key → T
  | .inl i => .int i
  | .inr s => .str s
def encP : Tm → T
  | .var s => .str s
  | .val k => encK k
def encTm (t : Tm) : T := .tup [.str t.tag, encP t]
def encAt (a : Atm) : T := .tup [.str a.1, .tup (a.2.map encTm)]
def encJn (j : Jn) : T := .tup [.tup (j.1.map encTm), .tup (j.2.map encAt)]
def encPr (p : Str × Tm) : T := .tup [.str p.1, encTm p.2]
def encMp (m : Mp) : T := .tup (m.map encPr)
def encQn (q : Int × List Jn) : T := .tup [.int q.1, .tup (q.2.map encJn)]

theorem tag_ne : ¬ ("var" : Str) = "value" := by decide +kernel
theorem encK_inj {a b : Key} (h : encK a = encK b) : a = b := by
  cases a with
  | inl i => cases b with
    | inl j => exact congrArg Sum.inl (T.int.inj h)
    | inr s => exact nomatch h
  | inr r => cases b with
    | inl j => exact nomatch h
    | inr s => exact congrArg Sum.inr (T.str.inj h)
theorem encTm_inj {a b : Tm} (h : encTm a = encTm b) : a = b := by
  have h1 : ([.str a.tag, encP a] : List T) = [.str b.tag, encP b] := T.tup.inj h
  have h2 : a.tag = b.tag := T.str.inj (List.cons.inj h1).1
  have h3 : encP a = encP b := (List.cons.inj (List.cons.inj h1).2).1
  cases a with
  | var s => cases b with
    | var r => exact congrArg Tm.var (T.str.inj h3)
    | val k => exact absurd h2 tag_ne
  | val k => cases b with
    | var r => exact absurd h2.symm tag_ne
    | val l => exact congrArg Tm.val (encK_inj h3)
theorem map_inj {α β : Type} {f : α → β} (hf : ∀ a b, f a = f b → a = b) : ∀ {l m : List α}, l.map f = m.map f → l = m
  | [], [], _ => rfl
  | [], _ :: _, h => nomatch h
  | _ :: _, [], h => nomatch h
  | a :: l, b :: m, h => by
    have h1 := List.cons.inj h
    rw [hf _ _ h1.1, map_inj hf h1.2]
theorem encAt_inj {a b : Atm} (h : encAt a = encAt b) : a = b := by
  have h1 := List.cons.inj (T.tup.inj h)
  have h2 := T.str.inj h1.1
  have h3 := T.tup.inj (List.cons.inj h1.2).1
  exact Prod.ext h2 (map_inj (fun _ _ => encTm_inj) h3)
theorem encPr_inj {a b : Str × Tm} (h : encPr a = encPr b) : a = b := by
  have h1 := List.cons.inj (T.tup.inj h)
  exact Prod.ext (T.str.inj h1.1) (encTm_inj (List.cons.inj h1.2).1)
theorem eqv_of {α : Type} [DecidableEq α] {f : α → T} (hf : ∀ a b, f a = f b → a = b) (x y : α) : PyData.eqv (f x).py (f y).py = decide (x = y) := by
  by_cases h : x = y
  · rw [decide_eq_true h, h]
    exact (T.eqv_iff _ _).mpr rfl
  · rw [decide_eq_false h]
    cases q : PyData.eqv (f x).py (f y).py with
    | false => rfl
    | true => exact absurd (hf _ _ ((T.eqv_iff _ _).mp q)) h
theorem eqv_tm (x y : Tm) : PyData.eqv (encTm x).py (encTm y).py = decide (x = y) := eqv_of (fun _ _ => encTm_inj) x y
theorem eqv_at (x y : Atm) : PyData.eqv (encAt x).py (encAt y).py = decide (x = y) := eqv_of (fun _ _ => encAt_inj) x y

/-! ### depths -/
theorem dp_K (k : Key) : (encK k).dp = 0 := by cases k <;> rfl
theorem dp_tm (t : Tm) : (encTm t).dp ≤ 1 := by
  cases t with
  | var s => exact Nat.le_refl _
  | val k =>
    have h := dp_K k
    show Nat.max 0 (Nat.max (encK k).dp 0) + 1 ≤ 1
    rw [h]
    exact Nat.le_refl _
theorem dp_tms (l : List Tm) : T.dps (l.map encTm) ≤ 1 := T.dps_le fun d hd => by
  obtain ⟨t, _, rfl⟩ := List.mem_map.mp hd
  exact dp_tm t
theorem dp_at (a : Atm) : (encAt a).dp ≤ 3 := by
  have h := dp_tms a.2
  show Nat.max 0 (Nat.max (T.dps (a.2.map encTm) + 1) 0) + 1 ≤ 3
  have h1 : Nat.max (T.dps (a.2.map encTm) + 1) 0 ≤ 2 := Nat.max_le.mpr ⟨Nat.succ_le_succ h, Nat.zero_le _⟩
  have h2 : Nat.max 0 (Nat.max (T.dps (a.2.map encTm) + 1) 0) ≤ 2 := Nat.max_le.mpr ⟨Nat.zero_le _, h1⟩
  exact Nat.succ_le_succ h2
theorem dp_ats (l : List Atm) : T.dps (l.map encAt) ≤ 3 := T.dps_le fun d hd => by
  obtain ⟨t, _, rfl⟩ := List.mem_map.mp hd
  exact dp_at t
theorem dp_pr (p : Str × Tm) : (encPr p).dp ≤ 2 := by
  have h := dp_tm p.2
  show Nat.max 0 (Nat.max (encTm p.2).dp 0) + 1 ≤ 2
  have h1 : Nat.max (encTm p.2).dp 0 ≤ 1 := Nat.max_le.mpr ⟨h, Nat.zero_le _⟩
  have h2 : Nat.max 0 (Nat.max (encTm p.2).dp 0) ≤ 1 := Nat.max_le.mpr ⟨Nat.zero_le _, h1⟩
  exact Nat.succ_le_succ h2

/-! ### such data in a heap -/
/-- the texts in it are of signs -/
def okS (s : Str) : Prop := PyData.strOk s = true
def Tm.ok : Tm → Prop
  | .var s => okS s
  | .val (.inl _) => True
  | .val (.inr s) => okS s
theorem ok_var : okS "var" := by unfold okS; decide +kernel
theorem ok_value : okS "value" := by unfold okS; decide +kernel
theorem ok_tag (t : Tm) : okS t.tag := by
  cases t with
  | var _ => exact ok_var
  | val _ => exact ok_value
section
variable {H : Hp} {v : V}
theorem tp_pay {t : Tm} (h : t.ok) : Tp H t.pay (encP t) := by
  cases t with
  | var s => exact .str s h
  | val k => cases k with
    | inl i => exact .int i
    | inr s => exact .str s h
theorem pay_of {t : Tm} (h : Tp H v (encP t)) : v = t.pay ∧ t.ok := by
  cases t with
  | var s => cases h with | str _ h => exact ⟨rfl, h⟩
  | val k => cases k with
    | inl i => cases h; exact ⟨rfl, trivial⟩
    | inr s => cases h with | str _ h => exact ⟨rfl, h⟩
theorem tmE {t : Tm} (h : Tp H v (encTm t)) : ∃ a, v = .ref a ∧ Tq H a [.str t.tag, t.pay] ∧ t.ok := by
  obtain ⟨a, xs, rfl, h1, h2⟩ := h.tupE
  obtain ⟨u, w, rfl, h3, h4⟩ := h2.two
  obtain ⟨rfl, h5⟩ := pay_of h4
  rw [h3.strE] at h1
  exact ⟨a, rfl, h1, h5⟩
theorem tmI {t : Tm} {a : Addr} (h : Tq H a [.str t.tag, t.pay]) (o : t.ok) : Tp H (.ref a) (encTm t) := .tup h (.cons (.str _ (ok_tag t)) (.cons (tp_pay o) .nil))
theorem atE {a : Atm} (h : Tp H v (encAt a)) : ∃ p q xs, v = .ref p ∧ Tq H p [.str a.1, .ref q] ∧ Tq H q xs ∧ Tps H xs (a.2.map encTm) ∧ okS a.1 := by
  obtain ⟨p, xs, rfl, h1, h2⟩ := h.tupE
  obtain ⟨u, w, rfl, h3, h4⟩ := h2.two
  obtain ⟨q, ys, rfl, h5, h6⟩ := h4.tupE
  cases h3 with
  | str _ h3 => exact ⟨p, q, ys, rfl, h1, h5, h6, h3⟩
theorem atI' {a : Atm} {p q : Addr} {xs : List V} (h : Tq H p [.str a.1, .ref q]) (h2 : Tq H q xs) (h3 : Tps H xs (a.2.map encTm)) (o : okS a.1) : Tp H (.ref p) (encAt a) :=
  .tup h (.cons (.str _ o) (.cons (.tup h2 h3) .nil))
theorem jnE {j : Jn} (h : Tp H v (encJn j)) : ∃ p a b xs ys, v = .ref p ∧ Tq H p [.ref a, .ref b] ∧ Tq H a xs ∧ Tps H xs (j.1.map encTm) ∧ Tq H b ys ∧ Tps H ys (j.2.map encAt) := by
  obtain ⟨p, zs, rfl, h1, h2⟩ := h.tupE
  obtain ⟨u, w, rfl, h3, h4⟩ := h2.two
  obtain ⟨a, xs, rfl, h5, h6⟩ := h3.tupE
  obtain ⟨b, ys, rfl, h7, h8⟩ := h4.tupE
  exact ⟨p, a, b, xs, ys, rfl, h1, h5, h6, h7, h8⟩
theorem jnI {j : Jn} {p a b : Addr} {xs ys : List V} (h : Tq H p [.ref a, .ref b]) (h1 : Tq H a xs) (h2 : Tps H xs (j.1.map encTm)) (h3 : Tq H b ys) (h4 : Tps H ys (j.2.map encAt)) : Tp H (.ref p) (encJn j) :=
  .tup h (.cons (.tup h1 h2) (.cons (.tup h3 h4) .nil))
theorem qnE {q : Int × List Jn} (h : Tp H v (encQn q)) : ∃ p b ys, v = .ref p ∧ Tq H p [.int q.1, .ref b] ∧ Tq H b ys ∧ Tps H ys (q.2.map encJn) := by
  obtain ⟨p, zs, rfl, h1, h2⟩ := h.tupE
  obtain ⟨u, w, rfl, h3, h4⟩ := h2.two
  obtain ⟨b, ys, rfl, h7, h8⟩ := h4.tupE
  rw [h3.intE] at h1
  exact ⟨p, b, ys, rfl, h1, h7, h8⟩
theorem qnI {q : Int × List Jn} {p b : Addr} {ys : List V} (h : Tq H p [.int q.1, .ref b]) (h3 : Tq H b ys) (h4 : Tps H ys (q.2.map encJn)) : Tp H (.ref p) (encQn q) :=
  .tup h (.cons (.int _) (.cons (.tup h3 h4) .nil))
theorem prE {p : Str × Tm} (h : Tp H v (encPr p)) : ∃ a w, v = .ref a ∧ Tq H a [.str p.1, w] ∧ Tp H w (encTm p.2) ∧ okS p.1 := by
  obtain ⟨a, zs, rfl, h1, h2⟩ := h.tupE
  obtain ⟨u, w, rfl, h3, h4⟩ := h2.two
  cases h3 with
  | str _ h3 => exact ⟨a, w, rfl, h1, h4, h3⟩
theorem prI {p : Str × Tm} {a : Addr} {w : V} (h : Tq H a [.str p.1, w]) (h1 : Tp H w (encTm p.2)) (o : okS p.1) : Tp H (.ref a) (encPr p) := .tup h (.cons (.str _ o) (.cons h1 .nil))
end
end Aw

/-! A3: the defs' places, built-ins' names, the frame of a def's proof, comprehensions over data. -/
namespace Aw
open PySem PySem.Spec PyProof.Rows L2
open C8 (Cal pe_c)

def top (i : Nat) : Stmt := PySem.Challenge.pw_anyworth_k75_whole_equal_questions_alike.main.body.getD i (.Pass ⟨0, 0, 0, 0⟩)
abbrev st_value_key : Stmt := top 1
abbrev st_put_term : Stmt := top 3
abbrev st_put_terms : Stmt := top 4
abbrev st_extended : Stmt := top 6
abbrev st_ordered_atoms : Stmt := top 7
abbrev st_term_key : Stmt := top 8
abbrev st_map_key : Stmt := top 9
abbrev st_matchings : Stmt := top 10
abbrev st_image : Stmt := top 11
abbrev st_is_part : Stmt := top 12
abbrev st_is_turn : Stmt := top 13
abbrev st_fits : Stmt := top 14
abbrev st_covers : Stmt := top 15
abbrev st_cover_of : Stmt := top 17
abbrev st_entry_of : Stmt := top 18
abbrev st_distinct : Stmt := top 20
abbrev st_smaller : Stmt := top 21
abbrev st_core_of : Stmt := top 22
abbrev st_least_question : Stmt := top 23
abbrev st_l_draws : Stmt := top 25
abbrev st_l_take : Stmt := top 26
abbrev st_l_pick : Stmt := top 27
abbrev st_l_same : Stmt := top 28
abbrev st_l_pool : Stmt := top 29
abbrev st_l_values : Stmt := top 30
abbrev st_l_value : Stmt := top 31
abbrev st_l_world : Stmt := top 32
abbrev st_l_term : Stmt := top 33
abbrev st_l_atom : Stmt := top 34
abbrev st_l_join : Stmt := top 35
abbrev st_l_question : Stmt := top 36
abbrev st_l_put : Stmt := top 37
abbrev st_l_put_join : Stmt := top 38
abbrev st_l_join_variables : Stmt := top 39
abbrev st_l_turned_join : Stmt := top 40
abbrev st_l_near_join : Stmt := top 41
abbrev st_l_near_question : Stmt := top 42
abbrev st_l_bound : Stmt := top 43
abbrev st_l_distinct : Stmt := top 44
abbrev st_l_matchings : Stmt := top 45
abbrev st_l_image : Stmt := top 46
abbrev st_l_fits : Stmt := top 47
abbrev st_l_good_maps : Stmt := top 48
abbrev st_l_entries : Stmt := top 49
abbrev st_l_cover : Stmt := top 50
abbrev st_l_half_of : Stmt := top 51
abbrev st_l_paper : Stmt := top 52
abbrev st_l_width : Stmt := top 53
abbrev st_l_weaker : Stmt := top 54
abbrev st_l_equal : Stmt := top 55
abbrev st_l_near : Stmt := top 56
abbrev st_l_two : Stmt := top 57
abbrev st_l_two_long : Stmt := top 58
abbrev st_l_is_term : Stmt := top 59
abbrev st_l_are_terms : Stmt := top 60
abbrev st_l_is_join : Stmt := top 61
abbrev st_l_is_question : Stmt := top 62
abbrev st_l_law : Stmt := top 63


/-! ### built-ins -/
structure Bt (mg : Str → Option Value) : Prop where
  isinstance_ : mg "isinstance" = none
  str_ : mg "str" = none
  tuple_ : mg "tuple" = none
  len_ : mg "len" = none
  dict_ : mg "dict" = none
  range_ : mg "range" = none
  list_ : mg "list" = none
  min_ : mg "min" = none
  sorted_ : mg "sorted" = none
  all_ : mg "all" = none
  set_ : mg "set" = none
  any_ : mg "any" = none
  enumerate_ : mg "enumerate" = none
  int_ : mg "int" = none
  bool_ : mg "bool" = none
theorem bt_isinstance : bootBuiltins "isinstance" = some (.builtin "isinstance") := by decide +kernel
theorem bt_str : bootBuiltins "str" = some (.type "str") := by decide +kernel
theorem bt_tuple : bootBuiltins "tuple" = some (.type "tuple") := by decide +kernel
theorem bt_len : bootBuiltins "len" = some (.builtin "len") := by decide +kernel
theorem bt_dict : bootBuiltins "dict" = some (.type "dict") := by decide +kernel
theorem bt_list : bootBuiltins "list" = some (.type "list") := by decide +kernel
theorem bt_min : bootBuiltins "min" = some (.builtin "min") := by decide +kernel
theorem bt_sorted : bootBuiltins "sorted" = some (.builtin "sorted") := by decide +kernel
theorem bt_all : bootBuiltins "all" = some (.builtin "all") := by decide +kernel
theorem bt_set : bootBuiltins "set" = some (.type "set") := by decide +kernel
theorem bt_any : bootBuiltins "any" = some (.builtin "any") := by decide +kernel
theorem bt_int : bootBuiltins "int" = some (.type "int") := by decide +kernel
theorem bt_bool : bootBuiltins "bool" = some (.type "bool") := by decide +kernel

/-! ### a def -/
abbrev FnP (K : PySem.W.Frag) (x : Str) (st : Stmt) (f : Addr) (fd : FuncData) : Prop := FunD K x x (defArgs st) (defBody st) (defScope st) [] [] f fd
/-- what the head tells of a def -/
structure Def' (K : PySem.W.Frag) (mg : Str → Option Value) (x : Str) (st : Stmt) : Prop where
  ex : ∃ (f : Addr) (fd : FuncData), FnP K x st f fd ∧ mg x = some (.ref f)
section
variable {P : Program} {w : World} {K : PySem.W.Frag} {mg : Str → Option Value} {base : Heap}
theorem cal_mk {x : Str} {st : Stmt} {N ps : List Str} {k : Nat} {sp : Sp} (F : Def' K mg x st) (S : FnScope N ps (defScope st))
    (hb : ∀ (kV doc pm : Value) (an : Option Addr) (cdv ct : Value) (us : List Value), us.length = ps.length → bindArgs (PySem.W.fnOf x x (defArgs st) (defBody st) (defScope st) .none kV doc pm an cdv ct) ⟨us, []⟩ = pure (ps.zip us))
    (len : ∀ vs H Q E, sp vs H Q E → vs.length = ps.length)
    (hbody : ∀ (f : Addr) (cdv : Value) (A : Around) (outer : List Env) (s : Shared) (H : Hp) (vs : List V) (Q : VK) (E : XK), Room k (A.deeper (envOfC x (defScope st) s.heap.objs.size f cdv)) → sp vs H Q E →
      ∃ t, PSs (cxOf CX0 P w K mg base N x (defScope st) f cdv A outer s H E).nox (defBody st) t ∧ t { nx := fun _ H' => Q .non H', rt := Q } (start N vs) H) : Cal P w K mg base (k + 1) x sp [] := by
  obtain ⟨f, fd, F, hm⟩ := F.ex
  refine ⟨f, fd, ps, [], F.ok S len fun cdv A outer s H vs Q E hr h => ?_, hm, F.kp, F.bindsN hb, .nil⟩
  obtain ⟨t, h1, h2⟩ := hbody f cdv A outer s H vs Q E hr h
  exact ⟨t, h1.nox, h2⟩
theorem hu64 {A : Around} {k : Nat} (hr : Room k A) : A.units + 64 < cLine := by
  have h := hr.un
  omega
theorem hu65 {A : Around} {k : Nat} (hr : Room k A) : A.units + 65 < cLine := by
  have h := hr.un
  omega
end
/-- what is never come to -/
theorem pe_never {X : Cx} {e : Expr} : PE X e (fun _ _ _ => False) := ⟨fun _ _ _ _ _ _ h => h.elim⟩

theorem szl {n : Nat} (h : n ≤ 100000) : n ≤ sizeLine := Nat.le_trans h (by decide)
theorem szt {n : Nat} (h : n ≤ 100000) : n < sizeLine := Nat.lt_of_le_of_lt h (by decide)

theorem iteD {p : Prop} [Decidable p] {A B : Prop} (h1 : p → A) (h2 : ¬ p → B) : if decide p = true then A else B := by
  by_cases h : p
  · rw [decide_eq_true h, if_pos rfl]
    exact h1 h
  · rw [decide_eq_false h, if_neg Bool.false_ne_true]
    exact h2 h
theorem iteN {p : Prop} [Decidable p] {A B : Prop} (h1 : ¬ p → A) (h2 : p → B) : if (!decide p) = true then A else B := by
  by_cases h : p
  · rw [decide_eq_true h, Bool.not_true, if_neg Bool.false_ne_true]
    exact h2 h
  · rw [decide_eq_false h, Bool.not_false, if_pos rfl]
    exact h1 h
theorem iteB {b : Bool} {A B : Prop} (h1 : b = true → A) (h2 : b = false → B) : if b = true then A else B := by
  cases b with
  | true => exact iteT (h1 rfl)
  | false => exact iteF (h2 rfl)
theorem yesI {A R : Hp → Prop} {σ : L2.St} {H : Hp} (h : A H) : tYes σ H (fun b H3 => if b = true then A H3 else R H3) := by
  show if true = true then A H else R H
  exact iteT h
theorem str_inj {x y : Str} (h : V.str x = V.str y) : x = y := V.str.inj h

theorem sz0 : 0 ≤ sizeLine := by decide
theorem sz1 : 1 ≤ sizeLine := by decide
theorem sz2 : 2 ≤ sizeLine := by decide
theorem sz3 : 3 ≤ sizeLine := by decide
/-! ### classes of values -/
section
variable {K : PySem.W.Frag} {H : Hp}
theorem ty_int {i : Int} : TyX K H (.int i) (.type "int") := .base (.int i)
theorem ty_str {i : Str} : TyX K H (.str i) (.type "str") := .base (.str i)
theorem ty_bl {b : Bool} : TyX K H (.bl b) (.type "bool") := .base (.bl b)
theorem ty_non : TyX K H .non (.type "NoneType") := .base .non
theorem ty_tup {a : Addr} {xs : List V} (h : Tq H a xs) : TyX K H (.ref a) (.type "tuple") := by
  obtain ⟨o, _, h⟩ := h
  exact .fTuple h
theorem ty_lst {a : Addr} {xs : List V} (h : H a = some (.lst xs)) : TyX K H (.ref a) (.type "list") := .base (.lst h)
theorem kit {K : PySem.W.Frag} {a b : String} {r : Bool} (h : kitB a b = some r) : PySem.W.kitOne K (.type a) (.type b) = some r := kit_ty h
theorem kit_is : kitB "int" "str" = some false := by decide +kernel
theorem kit_ss : kitB "str" "str" = some true := by decide +kernel
end
/-! ### comprehensions over data -/
section
variable {K : PySem.W.Frag} {α : Type} {l : List α} {ea f : α → T} {c : α → Bool} {a : Addr} {xs : List V} {g : TG} {tt : TT} {te : TE} {vs : List Nat} {σ : L2.St} {H : Hp} {Q : Addr → Hp → Prop}
/-- what a turn gives -/
abbrev LcTurn (g : TG) (tt : TT) (te : TE) (vs : List Nat) (σ : L2.St) (c : Bool) (H : Hp) (v : V) (Py : V → Hp → Prop) : Prop :=
  ∀ (R : Hp → Prop) (Qy : V → Hp → Prop), (c = false → ∀ H2, Same H H2 → R H2) → (c = true → ∀ y H2, Same H H2 → Py y H2 → Qy y H2) →
    g v (wipe σ vs) H fun σ2 H2 => wipe σ2 vs = wipe σ vs ∧ tt σ2 H2 fun b H3 => if b = true then te σ2 H3 Qy else R H3
theorem filter_take_yes {α : Type} {c : α → Bool} {l : List α} {i : Nat} {x : α} (h : l[i]? = some x) (hc : c x = true) : (l.take (i + 1)).filter c = (l.take i).filter c ++ [x] := by
  rw [List.take_add_one, h, List.filter_append]
  simp [hc]
theorem filter_take_no {α : Type} {c : α → Bool} {l : List α} {i : Nat} {x : α} (h : l[i]? = some x) (hc : c x = false) : (l.take (i + 1)).filter c = (l.take i).filter c := by
  rw [List.take_add_one, h, List.filter_append]
  simp [hc]
theorem filter_take_len {α : Type} {c : α → Bool} {l : List α} {i : Nat} : ((l.take i).filter c).length ≤ l.length :=
  Nat.le_trans (List.length_filter_le _ _) (by rw [List.length_take]; exact Nat.min_le_right _ _)
/-- the word of such a loop: D holds what is made so far -/
def LcW (H : Hp) (l : List α) (c : α → Bool) (f : α → T) (D : Addr) (i : Nat) (H' : Hp) : Prop := ∃ ys, Same H H' ∧ H D = none ∧ H' D = some (.lst ys) ∧ Tps H' ys (((l.take i).filter c).map f)
theorem lcw_turn {D : Addr} {i : Nat} {H' : Hp} {x : α} {v : V} (w : LcW H l c f D i H') (hi : l[i]? = some x) (hn : l.length ≤ 100000)
    (st : LcTurn g tt te vs σ (c x) H' v (fun y H2 => Tp H2 y (f x))) :
    g v (wipe σ vs) H' fun σ2 H2 => wipe σ2 vs = wipe σ vs ∧ tt σ2 H2 fun b H3 =>
      if b = true then te σ2 H3 fun y H4 => ∃ acc, H4 D = some (.lst acc) ∧ acc.length < sizeLine ∧ LcW H l c f D (i + 1) (upd H4 D (.lst (acc ++ [y]))) else LcW H l c f D (i + 1) H3 := by
  obtain ⟨ys, e, n, h, r⟩ := w
  refine st _ _ (fun hc H2 e2 => ?_) (fun hc y H2 e2 hy => ?_)
  · exact ⟨ys, e.trans e2, n, e2 _ _ h, by rw [filter_take_no hi hc]; exact r.mono (Same.tx e2)⟩
  · have h2 := e2 _ _ h
    refine ⟨ys, h2, szt (by rw [r.length, List.length_map]; exact Nat.le_trans filter_take_len hn), ys ++ [y], same_mut (e.trans e2) n, n, upd_same, ?_⟩
    rw [filter_take_yes hi hc, List.map_append]
    exact ((r.mono (Same.tx e2)).snoc hy).mono (tx_lst h2)
/-- [e for x in tuple if t] -/
theorem lc_t (ha : Tq H a xs) (hx : Tps H xs (l.map ea)) (hn : l.length ≤ 100000)
    (step : ∀ x ∈ l, ∀ v H', Same H H' → Tp H' v (ea x) → LcTurn g tt te vs σ (c x) H' v (fun y H2 => Tp H2 y (f x)))
    (k : ∀ p ys H', H p = none → Same H H' → H' p = some (.lst ys) → Tps H' ys ((l.filter c).map f) → Q p H') :
    ∀ D, H D = none → ∃ W : Nat → Nat → Hp → Prop, (∃ m, W 0 m (upd H D (.lst []))) ∧ ∀ i m H', W i m H' →
      ((Itt K a).stop i H' ∧ Q D H') ∨ ((Itt K a).go i H' ∧ ∃ Nx : Hp → Prop, (∀ H2, Nx H2 → ∃ m', m' < m ∧ W (i + 1) m' H2) ∧ ∀ x H2, (Itt K a).yld i H' x H2 → g x (wipe σ vs) H2 fun σ2 H2 => wipe σ2 vs = wipe σ vs ∧ tt σ2 H2 fun b H3 =>
        if b = true then te σ2 H3 fun y H4 => ∃ acc, H4 D = some (.lst acc) ∧ acc.length < sizeLine ∧ Nx (upd H4 D (.lst (acc ++ [y]))) else Nx H3) := fun D hD => by
  have hlen : xs.length = l.length := by rw [hx.length, List.length_map]
  refine lc_tup (K := K) (a := a) (xs := xs) (Qd := fun H' => Q D H') (LcW H l c f D) ⟨[], same_new hD, hD, upd_same, .nil⟩ (fun i H' _ w => ?_) (fun i x H' hi w => ?_) (fun H' w => ?_)
  · obtain ⟨ys, e, _⟩ := w
    exact (ha.same e).seq
  · obtain ⟨z, hz, hv⟩ := hx.getM hi
    obtain ⟨_, e, _⟩ := id w
    exact lcw_turn w hz hn (step z (List.mem_of_getElem? hz) x H' e (hv.mono (Same.tx e)))
  · obtain ⟨ys, e, n, h, r⟩ := w
    rw [hlen, List.take_length] at r
    exact k D ys H' n e h r
/-- [e for x in list if t] -/
theorem lc_l (ha : H a = some (.lst xs)) (hx : Tps H xs (l.map ea)) (hn : l.length ≤ 100000)
    (step : ∀ x ∈ l, ∀ v H', Same H H' → Tp H' v (ea x) → LcTurn g tt te vs σ (c x) H' v (fun y H2 => Tp H2 y (f x)))
    (k : ∀ p ys H', H p = none → Same H H' → H' p = some (.lst ys) → Tps H' ys ((l.filter c).map f) → Q p H') :
    ∀ D, H D = none → ∃ W : Nat → Nat → Hp → Prop, (∃ m, W 0 m (upd H D (.lst []))) ∧ ∀ i m H', W i m H' →
      ((Itl K a).stop i H' ∧ Q D H') ∨ ((Itl K a).go i H' ∧ ∃ Nx : Hp → Prop, (∀ H2, Nx H2 → ∃ m', m' < m ∧ W (i + 1) m' H2) ∧ ∀ x H2, (Itl K a).yld i H' x H2 → g x (wipe σ vs) H2 fun σ2 H2 => wipe σ2 vs = wipe σ vs ∧ tt σ2 H2 fun b H3 =>
        if b = true then te σ2 H3 fun y H4 => ∃ acc, H4 D = some (.lst acc) ∧ acc.length < sizeLine ∧ Nx (upd H4 D (.lst (acc ++ [y]))) else Nx H3) := fun D hD => by
  have hlen : xs.length = l.length := by rw [hx.length, List.length_map]
  refine lc_list (K := K) (a := a) (xs := xs) (Qd := fun H' => Q D H') (LcW H l c f D) ⟨[], same_new hD, hD, upd_same, .nil⟩ (fun i H' _ w => ?_) (fun i x H' hi w => ?_) (fun H' w => ?_)
  · obtain ⟨ys, e, _⟩ := w
    exact SqL.of (e _ _ ha)
  · obtain ⟨z, hz, hv⟩ := hx.getM hi
    obtain ⟨_, e, _⟩ := id w
    exact lcw_turn w hz hn (step z (List.mem_of_getElem? hz) x H' e (hv.mono (Same.tx e)))
  · obtain ⟨ys, e, n, h, r⟩ := w
    rw [hlen, List.take_length] at r
    exact k D ys H' n e h r
theorem filter_yes {α : Type} (l : List α) : l.filter (fun _ => true) = l := List.filter_eq_self.mpr fun _ _ => rfl
end
end Aw

/-! R1: the layer's rules over tuples without a dict of their own; what a new object keeps told by Same. -/
namespace Aw
open PySem PySem.Spec PyProof.Rows L2
open C8 (Cal pe_c)

theorem OpR.imp {X : Cx} {f : Value → Value → Sem Value} {r r' : R2} (h : OpR X f r) (i : ∀ x y H Q, r' x y H Q → r x y H Q) : OpR X f r' := fun pins s σ H x y v u Q I rx ry q => h pins s σ H x y v u Q I rx ry (i _ _ _ _ q)
theorem IxR.imp {X : Cx} {r r' : R2} (h : IxR X r) (i : ∀ x y H Q, r' x y H Q → r x y H Q) : IxR X r' := fun a b pins s σ H x y v u Q I rx ry q hs => h a b pins s σ H x y v u Q I rx ry (i _ _ _ _ q) hs
theorem CallR.imp {X : Cx} {f : Value} {r r' : List V → Hp → VK → Prop} (h : CallR X f r) (i : ∀ xs H Q, r' xs H Q → r xs H Q) : CallR X f r' := fun pins s σ H xs us Q I rx q => h pins s σ H xs us Q I rx (i _ _ _ q)
theorem SlR.imp {X : Cx} {r r' : V → Option Int → Option Int → Hp → VK → Prop} (h : SlR X r) (i : ∀ x lo hi H Q, r' x lo hi H Q → r x lo hi H Q) : SlR X r' :=
  fun pins s σ H x v vl vu lo hi sl Q I rx hs pl pu q => h pins s σ H x v vl vu lo hi sl Q I rx hs pl pu (i _ _ _ _ _ q)
/-- a new list, a new tuple -/
abbrev NewL (xs : List V) (H : Hp) (Q : VK) : Prop := ∀ p H2, H p = none → Same H H2 → H2 p = some (.lst xs) → Q (.ref p) H2
abbrev NewT (xs : List V) (H : Hp) (Q : VK) : Prop := ∀ p H2, H p = none → Same H H2 → Tq H2 p xs → Q (.ref p) H2
theorem NewL.to {xs : List V} {H : Hp} {Q : VK} (h : NewL xs H Q) : ∀ p, H p = none → Q (.ref p) (upd H p (.lst xs)) := fun p n => h p _ n (same_new n) upd_same
section
variable {X : Cx} {pins : List (Addr × Obj)} {σ : L2.St} {H : Hp} {s : Shared}
/-- a new tuple is laid -/
theorem laid_tq {p : Addr} {us : List Value} {xs : List V} {h' : Heap} {t' : Nat} {n : Nat} {Q : VK} (I : Inv X pins σ H s) (k : ∀ b u, s.heap.get? b = some u → h'.get? b = some u) (hp : s.heap.objs.size ≤ p)
    (e : h'.get? p = some { cls := .type "tuple", data := .seq us.toArray n }) (hz : xs.length ≤ sizeLine) (r : Vals xs us) (q : NewT xs H Q) : EP X pins σ Q (.ref p) { s with heap := h', toks := t' } := by
  have n0 : H p = none := I.hok.fresh hp
  have J := I.laid (a := p) (o := .frz { cls := .type "tuple", data := .seq us.toArray n } (.tup xs)) (h' := h') (t' := t') k hp ⟨e, hz, us, r, ⟨_, e, rfl, n, rfl⟩⟩
  exact ⟨.ref p, _, J, rfl, q p _ n0 (same_new n0) ⟨_, rfl, upd_same⟩⟩
theorem Inv.tq {a : Addr} {xs : List V} (I : Inv X pins σ H s) (h : Tq H a xs) : ∃ (its : List Value) (n : Nat) (sl : Array (Option Value)), Vals xs its ∧ xs.length ≤ sizeLine ∧ s.heap.get? a = some { cls := .type "tuple", dict := none, data := .seq its.toArray n, slots := sl } := by
  obtain ⟨⟨oc, od, dt, sl⟩, hd, h⟩ := h
  obtain ⟨h1, hz, its, r, o', h2, hc, n, hdt⟩ := I.hok a _ h
  rw [h1] at h2
  cases h2
  have e1 : od = none := hd
  have e2 : oc = .type "tuple" := hc
  have e3 : dt = .seq its.toArray n := hdt
  subst e1 e2 e3
  exact ⟨its, n, sl, r, hz, h1⟩

/-! ### displays -/
def tTq (t : TA) : TE := fun σ H Q => t σ H fun xs H1 => xs.length ≤ sizeLine ∧ NewT xs H1 Q
def tLq (t : TA) : TE := fun σ H Q => t σ H fun xs H1 => xs.length ≤ sizeLine ∧ NewL xs H1 Q
variable {e e1 : Expr} {es : List Expr} {t : TA} {te te1 : TE} {pos : Pos}
theorem peT {x1} (h : PA X es t) : PE X (.Tuple es x1 pos) (tTq t) := by
  refine ⟨fun pins s σ H Q I hq => ?_⟩
  refine wpAny_Tuple_spliced (thn (h.run pos pins s σ H _ I hq) fun us s1 ⟨xs, H1, I1, r, z, q⟩ => ⟨by rw [← r.length]; exact z, ?_⟩)
  exact laid_tq (t' := s1.toks) (n := 0) I1 (fun b u e => Heap.get?_push_of_some _ e) (Nat.le_refl _) (Heap.get?_push_size _ rfl) z r q
theorem peL (h : PA X es t) : PE X (.List es pos) (tLq t) := by
  refine ⟨fun pins s σ H Q I hq => ?_⟩
  refine wpAny_List_spliced (thn (h.run pos pins s σ H _ I hq) fun us s1 ⟨xs, H1, I1, r, z, q⟩ => ⟨by rw [← r.length]; exact z, ?_⟩)
  have hf : H1 s1.heap.objs.size = none := I1.hok.fresh (Nat.le_refl _)
  refine ⟨.ref s1.heap.objs.size, _, I1.laid (t' := s1.toks) (o := .lst xs) (fun b u e => Heap.get?_push_of_some _ e) (Nat.le_refl _) ⟨z, us, 0, r, Heap.get?_push_size _ rfl⟩, rfl, q.to _ hf⟩

/-! ### rules with the written part as a letter -/
variable {K : PySem.W.Frag}
theorem pgT {es : List Expr} {k : Nat} {t : TGs} {n : Nat} (hK : X.K = K) (hc : X.calm = true) (h : PGs X es t)
    (hn : (assignEach es X.env).length = n := by rfl) (hst : (assignEach es X.env).findIdx? (·.1) = none := by rfl) : PG X (.Tuple es k pos) (gTup K n t) := by
  subst hK
  exact pg_tup hc h hn hst
theorem piT {l tg : Expr} {tl : TE} (hK : X.K = K) (hl : PE X l tl) : PI X tg l (iTup K tl) := by
  subst hK
  exact pi_tup hl
theorem piL {l tg : Expr} {tl : TE} (hK : X.K = K) (hl : PE X l tl) : PI X tg l (iList K tl) := by
  subst hK
  exact pi_list hl
theorem piE {e : Expr} {ta : TA} {p pos tpos : Pos} {elts : List Expr} {kk : Nat} (hK : X.K = K) (hg : Gl X "enumerate") (hm : X.mg "enumerate" = none) (ha : PA X [e] ta) (hs : starEach [e] X.env = [(false, eval e X.env)] := by rfl) :
    PI X (.Tuple elts kk tpos) (.Call (.Name "enumerate" p) [e] [] pos) (iEnum K ta) := by
  subst hK
  exact pi_enum hg hm ha hs
variable {o : Expr} {to : TE} {name : Str} {apos cpos : Pos} {id : String} {r : V → List V → Hp → VK → Prop}
/-- a list's method -/
def tLM0 (r : V → List V → Hp → VK → Prop) (to : TE) : TE := fun σ H Q => to σ H fun x H1 => (∃ a xs, x = .ref a ∧ H1 a = some (.lst xs)) ∧ r x [] H1 Q
def tLM (r : V → List V → Hp → VK → Prop) (to : TE) (t : TA) : TE := fun σ H Q => to σ H fun x H1 => (∃ a xs, x = .ref a ∧ H1 a = some (.lst xs)) ∧ t σ H1 fun xs H2 => r x xs H2 Q
theorem peLM0 (slot : Slot "list" name id) (hty : typeOf (.builtin id) = pure (.type "method_descriptor")) (hm : MtR X id r) (ho : PE X o to)
    (hbase : attributeBase o name X.env (eval o X.env) = eval o X.env := by rfl) (hline : (apos.endLine == cpos.line) = true := by rfl) : PE X (.Call (.Attribute o name apos) [] [] cpos) (tLM0 r to) := by
  refine ⟨fun pins s σ H Q I h => ?_⟩
  refine wpAny_Call_method0_late hbase hline (thn (ho.run pins s σ H _ I h) fun v s1 ⟨x, H1, I1, r1, ⟨a, xs, e, ha⟩, q1⟩ => ?_)
  subst e
  obtain ⟨h1, h2⟩ := tyV_is (T := "list") I1 r1 (.inl ⟨rfl, xs, SqL.of ha⟩)
  exact ⟨"list", id, PySem.F.plainAttrs_list, slot, hty, h1, h2, Calls.callWith_builtin rfl (PySem.evalArgs_none (hm pins s1 σ H1 _ [] v [] Q I1 r1 .nil q1))⟩
theorem peLM (slot : Slot "list" name id) (hty : typeOf (.builtin id) = pure (.type "method_descriptor")) (hm : MtR X id r) (ho : PE X o to) (ha : PA X (e :: es) t)
    (hbase : attributeBase o name X.env (eval o X.env) = eval o X.env := by rfl)
    (hfew : ((backTo cpos (starEach (e :: es) X.env)).all (fun x => !x.1) && (backToKw cpos (keywordEach [] X.env)).all (fun x => x.1.isSome) && decide ((e :: es).length + ([] : List Keyword).length + (if ([] : List Keyword).isEmpty then 0 else 1) < 30)) = true := by rfl)
    (hline : (apos.endLine == cpos.line) = true := by rfl) (hs : starEach (e :: es) X.env = (false, eval e X.env) :: starEach es X.env := by rfl) (hplain : (backTo cpos (starEach es X.env)).any (·.1) = false := by rfl) :
    PE X (.Call (.Attribute o name apos) (e :: es) [] cpos) (tLM r to t) := by
  refine ⟨fun pins s σ H Q I h => ?_⟩
  refine wpAny_Call_method_late hbase hfew hline rfl (thn (ho.run pins s σ H _ I h) fun v s1 ⟨x, H1, I1, r1, ⟨a, xs, ee, hla⟩, q1⟩ => ?_)
  subst ee
  obtain ⟨h1, h2⟩ := tyV_is (T := "list") I1 r1 (.inl ⟨rfl, xs, SqL.of hla⟩)
  refine ⟨"list", id, PySem.F.plainAttrs_list, slot, hty, h1, h2, ?_⟩
  have hA := ha.run cpos pins s1 σ H1 _ I1 q1
  rw [hs] at hA ⊢
  refine Calls.callWith_builtin (by show (false || (backTo cpos (starEach es X.env)).any (·.1)) = false; rw [hplain] <;> rfl) (Calls.evalArgs_plain ?_)
  exact thn hA fun us s2 ⟨vs, H2, I2, r2, q2⟩ => hm pins s2 σ H2 _ vs v us Q I2 r1 r2 q2
/-- a tuple's method of one argument -/
def tTM (r : V → List V → Hp → VK → Prop) (to : TE) (t : TA) : TE := fun σ H Q => to σ H fun x H1 => (∃ a xs, x = .ref a ∧ Tq H1 a xs) ∧ t σ H1 fun xs H2 => r x xs H2 Q
theorem peTM (slot : Slot "tuple" name id) (hty : typeOf (.builtin id) = pure (.type "method_descriptor")) (hm : MtR X id r) (ho : PE X o to) (ha : PA X (e :: es) t)
    (hbase : attributeBase o name X.env (eval o X.env) = eval o X.env := by rfl)
    (hfew : ((backTo cpos (starEach (e :: es) X.env)).all (fun x => !x.1) && (backToKw cpos (keywordEach [] X.env)).all (fun x => x.1.isSome) && decide ((e :: es).length + ([] : List Keyword).length + (if ([] : List Keyword).isEmpty then 0 else 1) < 30)) = true := by rfl)
    (hline : (apos.endLine == cpos.line) = true := by rfl) (hs : starEach (e :: es) X.env = (false, eval e X.env) :: starEach es X.env := by rfl) (hplain : (backTo cpos (starEach es X.env)).any (·.1) = false := by rfl) :
    PE X (.Call (.Attribute o name apos) (e :: es) [] cpos) (tTM r to t) := by
  refine ⟨fun pins s σ H Q I h => ?_⟩
  refine wpAny_Call_method_late hbase hfew hline rfl (thn (ho.run pins s σ H _ I h) fun v s1 ⟨x, H1, I1, r1, ⟨a, xs, ee, hta⟩, q1⟩ => ?_)
  subst ee
  obtain ⟨its, n, sl, rv, hz, hob⟩ := Inv.tq I1 hta
  cases (show v = Value.ref a from r1)
  refine ⟨"tuple", id, PySem.F.plainAttrs_tuple, slot, hty, ⟨_, hob, rfl⟩, fun b eb => ?_, ?_⟩
  · cases eb
    exact ⟨_, hob, rfl⟩
  · have hA := ha.run cpos pins s1 σ H1 _ I1 q1
    rw [hs] at hA ⊢
    refine Calls.callWith_builtin (by show (false || (backTo cpos (starEach es X.env)).any (·.1)) = false; rw [hplain] <;> rfl) (Calls.evalArgs_plain ?_)
    exact thn hA fun us s2 ⟨vs, H2, I2, r2, q2⟩ => hm pins s2 σ H2 _ vs _ us Q I2 r1 r2 q2
end
section
variable {X : Cx}
/-! ### by values -/
def rIxQ : R2 := fun x y H Q => ∃ p xs i v, x = .ref p ∧ y = .int i ∧ Tq H p xs ∧ atI xs i = some v ∧ Q v H
theorem ixT : IxR X rIxQ := IxR.imp ix_tup fun x y H Q ⟨p, xs, i, v, h1, h2, h3, h4, q⟩ => ⟨p, xs, i, v, h1, h2, h3.seq, h4, q⟩
def rIxP : R2 := fun x y H Q => ∃ p xs i v, x = .ref p ∧ y = .int i ∧ H p = some (.lst xs) ∧ atI xs i = some v ∧ Q v H
theorem ixL : IxR X rIxP := IxR.imp ix_list fun x y H Q ⟨p, xs, i, v, h1, h2, h3, h4, q⟩ => ⟨p, xs, i, v, h1, h2, SqL.of h3, h4, q⟩
/-- what may be counted, copied: a list or a tuple -/
def Sq (H : Hp) (p : Addr) (xs : List V) : Prop := H p = some (.lst xs) ∨ Tq H p xs
theorem Sq.seq {K : PySem.W.Frag} {H : Hp} {p : Addr} {xs : List V} (h : Sq H p xs) : SqL K H p xs ∨ SqT K H p xs := h.imp SqL.of Tq.seq
def rLen : List V → Hp → VK → Prop := fun xs H Q => ∃ p ys, xs = [.ref p] ∧ Sq H p ys ∧ Q (.int ys.length) H
theorem lenS : CallR X (.builtin "len") rLen := CallR.imp call_len_seq fun xs H Q ⟨p, ys, h1, h2, q⟩ => ⟨p, ys, h1, h2.seq, q⟩
def rLst : List V → Hp → VK → Prop := fun xs H Q => ∃ p ys, xs = [.ref p] ∧ Sq H p ys ∧ NewL ys H Q
theorem listOf : CallR X (.type "list") rLst := CallR.imp call_list_of fun xs H Q ⟨p, ys, h1, h2, q⟩ => ⟨p, ys, h1, h2.seq, q.to⟩
def rTup : List V → Hp → VK → Prop := fun xs H Q => ∃ p ys, xs = [.ref p] ∧ H p = some (.lst ys) ∧ NewT ys H Q
theorem tupOf : CallR X (.type "tuple") rTup := by
  intro pins s σ H xs us Q I r h
  obtain ⟨p, ys, rfl, hq, q⟩ := h
  obtain ⟨u, rfl, rx⟩ := vals1 r
  cases rx
  obtain ⟨its, r', pl, hz⟩ := I.list (SqL.of (K := X.K) hq)
  have hlen := r'.length
  refine call_tuple_list pl.isList (fun h' kp => ?_) (by simp only [List.size_toArray] <;> omega)
  have I1 : Inv X pins σ H { s with heap := h' } := I.kept (t' := s.toks) kp
  exact laid_tq (s := { s with heap := h' }) (t' := s.toks) (n := 0) I1 (fun b o e => Heap.get?_push_of_some _ e) (Nat.le_refl _) (Heap.get?_push_size _ rfl) hz r' q
def rInF (neg : Bool) : R2 := fun x y H Q => ∃ p xs, y = .ref p ∧ Sq H p xs ∧ flatV x = true ∧ xs.all flatV = true ∧ Q (.bl (if neg then !inV x xs else inV x xs)) H
theorem inS : OpR X (compareOp .In) (rInF false) := OpR.imp op_in_seq fun x y H Q ⟨p, xs, h1, h2, q⟩ => ⟨p, xs, h1, h2.seq, q⟩
theorem notInS : OpR X (compareOp .NotIn) (rInF true) := OpR.imp op_notIn_seq fun x y H Q ⟨p, xs, h1, h2, q⟩ => ⟨p, xs, h1, h2.seq, q⟩
/-- terms -/
def rEqTm : R2 := fun x y H Q => ∃ a b : Tm, Tp H x (encTm a) ∧ Tp H y (encTm b) ∧ Q (.bl (decide (a = b))) H
def rNeTm : R2 := fun x y H Q => ∃ a b : Tm, Tp H x (encTm a) ∧ Tp H y (encTm b) ∧ Q (.bl (!decide (a = b))) H
theorem eqTm (hu : X.A.units + 64 < cLine) : OpR X (compareOp .Eq) rEqTm := OpR.imp (op_eqD hu) fun x y H Q ⟨a, b, h1, h2, q⟩ =>
  ⟨_, _, h1.dp_, h2.dp_, h1.shaped (Nat.le_trans (dp_tm a) (by decide)), h2.shaped (Nat.le_trans (dp_tm b) (by decide)), by rw [eqv_tm]; exact q⟩
theorem neTm (hu : X.A.units + 64 < cLine) : OpR X (compareOp .NotEq) rNeTm := OpR.imp (op_neD hu) fun x y H Q ⟨a, b, h1, h2, q⟩ =>
  ⟨_, _, h1.dp_, h2.dp_, h1.shaped (Nat.le_trans (dp_tm a) (by decide)), h2.shaped (Nat.le_trans (dp_tm b) (by decide)), by rw [eqv_tm]; exact q⟩
/-- an atom among atoms -/
theorem dps_map {α : Type} {f : α → T} {n : Nat} (h : ∀ x, (f x).dp ≤ n) (l : List α) : T.dps (l.map f) ≤ n := T.dps_le fun d hd => by
  obtain ⟨t, _, rfl⟩ := List.mem_map.mp hd
  exact h t
theorem lst_dp {K : PySem.W.Frag} {H : Hp} {p : Addr} {ys : List V} {ds : List T} (h : H p = some (.lst ys)) (r : Tps H ys ds) : Dp K H (.ref p) (.list (T.pys ds)) := .lst (SqL.of h) r.dps_
theorem lst_shaped {H : Hp} {ys : List V} {ds : List T} (r : Tps H ys ds) (h : T.dps ds ≤ 60) : SeqAt.shaped (.list (T.pys ds)) = true := by
  show (PyData.canLay0 (.list (T.pys ds)) && decide (PyData.depth (.list (T.pys ds)) ≤ 64)) = true
  have h1 := T.pys_depth ds
  have h2 : PyData.depth (.list (T.pys ds)) ≤ 64 := by
    simp only [PyData.depth]
    omega
  rw [Bool.and_eq_true]
  exact ⟨by simp only [PyData.canLay0]; exact r.lay, decide_eq_true h2⟩
theorem any_iff {α : Type} [DecidableEq α] {f : α → T} (hf : ∀ a b, PyData.eqv (f a).py (f b).py = decide (a = b)) (a : α) : ∀ l : List α, ((T.pys (l.map f)).any fun z => PyData.eqv z (f a).py) = true ↔ a ∈ l
  | [] => by simp [T.pys]
  | b :: l => by
    show (PyData.eqv (f b).py (f a).py || (T.pys (l.map f)).any fun z => PyData.eqv z (f a).py) = true ↔ a ∈ b :: l
    rw [Bool.or_eq_true, any_iff hf a l, hf, decide_eq_true_eq, List.mem_cons]
    exact ⟨fun h => h.imp Eq.symm _root_.id, fun h => h.imp Eq.symm _root_.id⟩
theorem any_eqv {α : Type} [DecidableEq α] {f : α → T} (hf : ∀ a b, PyData.eqv (f a).py (f b).py = decide (a = b)) (a : α) (l : List α) [Decidable (a ∈ l)] : ((T.pys (l.map f)).any fun z => PyData.eqv z (f a).py) = decide (a ∈ l) := by
  have h := any_iff hf a l
  by_cases q : a ∈ l
  · rw [h.mpr q, decide_eq_true q]
  · rw [decide_eq_false q]
    exact Bool.eq_false_iff.mpr fun z => q (h.mp z)
def rNotInAt : R2 := fun x y H Q => ∃ (a : Atm) (l : List Atm) (p : Addr) (ys : List V), Tp H x (encAt a) ∧ y = .ref p ∧ H p = some (.lst ys) ∧ Tps H ys (l.map encAt) ∧ Q (.bl (!decide (a ∈ l))) H
theorem notInAt (hu : X.A.units + 65 < cLine) : OpR X (compareOp .NotIn) rNotInAt := OpR.imp (op_notInD hu) fun x y H Q ⟨a, l, p, ys, h1, h2, h3, h4, q⟩ => by
  subst h2
  refine ⟨_, _, h1.dp_, lst_dp h3 h4, h1.shaped (Nat.le_trans (dp_at a) (by decide)), lst_shaped h4 (Nat.le_trans (dps_map dp_at l) (by decide)), ?_⟩
  rw [any_eqv eqv_at]
  exact q
def rAllB : List V → Hp → VK → Prop := fun vs H Q => ∃ (a : Addr) (bs : List Bool), vs = [V.ref a] ∧ H a = some (.lst (bs.map V.bl)) ∧ Q (.bl (bs.all _root_.id)) H
theorem allB (hc : X.calm = true) : CallR X (.builtin "all") rAllB := CallR.imp (cr_all hc) fun xs H Q ⟨a, bs, h1, h2, q⟩ => ⟨a, bs, h1, SqL.of h2, q⟩
/-- classes -/
inductive Ty0 (H : Hp) : V → String → Prop
  | int (i : Int) : Ty0 H (.int i) "int"
  | str (x : Str) : Ty0 H (.str x) "str"
  | bl (b : Bool) : Ty0 H (.bl b) "bool"
  | non : Ty0 H .non "NoneType"
  | tup {a : Addr} {xs : List V} : Tq H a xs → Ty0 H (.ref a) "tuple"
  | lst {a : Addr} {xs : List V} : H a = some (.lst xs) → Ty0 H (.ref a) "list"
theorem Ty0.x {K : PySem.W.Frag} {H : Hp} {v : V} {n : String} (h : Ty0 H v n) : TyX K H v (.type n) := by
  cases h with
  | int i => exact ty_int
  | str i => exact ty_str
  | bl i => exact ty_bl
  | non => exact ty_non
  | tup h => exact ty_tup h
  | lst h => exact ty_lst h
def rIsi0 : List V → Hp → VK → Prop := fun xs H Q => ∃ (x : V) (a b : String) (r : Bool), xs = [x, .ty b] ∧ Ty0 H x a ∧ kitB a b = some r ∧ Q (.bl r) H
theorem isi : CallR X (.builtin "isinstance") rIsi0 := CallR.imp call_isi fun xs H Q ⟨x, a, b, r, h1, h2, h3, q⟩ => ⟨x, _, _, _, r, h1, .ty b, h2.x, kit_ty h3, q⟩
/-- of none of these classes -/
def rIsiT0 : List V → Hp → VK → Prop := fun xs H Q => ∃ (x : V) (tp : Addr) (a : String) (cs : List String), xs = [x, .ref tp] ∧ H tp = some (.tup (cs.map V.ty)) ∧ Ty0 H x a ∧ (∀ c ∈ cs, kitB a c = some false) ∧ Q (.bl false) H
theorem isiT : CallR X (.builtin "isinstance") rIsiT0 := CallR.imp call_isiT fun xs H Q ⟨x, tp, a, cs, h1, h2, h3, h4, q⟩ => by
  refine ⟨x, tp, cs.map V.ty, _, cs.map Value.type, false, h1, h2, ?_, h3.x, ?_, q⟩
  · clear h1 h2 h4
    induction cs with
    | nil => exact .nil
    | cons c cs ih => exact .cons (.ty c) ih
  · clear h1 h2
    induction cs with
    | nil => exact kitAny_nil
    | cons c cs ih => exact kitAny_cons (kit_ty (h4 c List.mem_cons_self)) (fun _ => ih fun d hd => h4 d (List.mem_cons_of_mem _ hd)) (fun z => by cases z)
/-- slices, sums -/
def rSlP : V → Option Int → Option Int → Hp → VK → Prop := fun x lo hi H Q => ∃ a xs, x = .ref a ∧ H a = some (.lst xs) ∧ NewL (cutV xs lo hi) H Q
theorem slL : SlR X rSlP := SlR.imp sl_list fun x lo hi H Q ⟨a, xs, h1, h2, q⟩ => ⟨a, xs, h1, SqL.of h2, q.to⟩
def rSlQ : V → Option Int → Option Int → Hp → VK → Prop := fun x lo hi H Q => ∃ a xs, x = .ref a ∧ Tq H a xs ∧ ∀ p H2, Same H H2 → Tq H2 p (cutV xs lo hi) → Q (.ref p) H2
theorem cut_whole {xs : List V} {lo hi : Option Int} (h : HT.sIx xs.length 0 lo = 0 ∧ HT.sIx xs.length xs.length hi = xs.length) : cutV xs lo hi = xs := by
  unfold cutV
  rw [h.1, h.2]
  simp
theorem slT : SlR X rSlQ := by
  intro pins s σ H x v vl vu lo hi sl Q I rx hs pl pu h
  obtain ⟨a, xs, rfl, hx, q⟩ := h
  cases rx
  obtain ⟨its, r, ht, hz⟩ := I.tuple (hx.seq (K := X.K))
  have hlen : its.toArray.size = xs.length := by rw [List.size_toArray]; exact r.length.symm
  refine ⟨"tuple", _, PyProof.Rows.slot_tuple_getitem.lookup, ht.typeIs, ?_⟩
  by_cases hw : HT.sIx xs.length 0 lo = 0 ∧ HT.sIx xs.length xs.length hi = xs.length
  · refine getItem_tuple_whole ht hs pl pu (by rw [hlen]; exact hw) ⟨.ref a, H, I, rfl, q a H (Same.refl H) ?_⟩
    rw [cut_whole hw]
    exact hx
  · refine HT.getItem_tuple_cut ht hs pl pu (by rw [hlen]; exact hw) ?_ (by rw [hlen]; exact hz)
    rw [hlen]
    exact laid_tq (t' := s.toks) (n := 0) (xs := cutV xs lo hi) I (fun b ob q => Heap.get?_push_of_some _ q) (Nat.le_refl _) (Heap.get?_push_size _ rfl) (Nat.le_trans (cutV_length xs lo hi) hz)
      ((r.drop (HT.sIx xs.length 0 lo)).take (HT.sIx xs.length xs.length hi - HT.sIx xs.length 0 lo)) (fun p H2 _ e h2 => q p H2 e h2)
def rCatQ : R2 := fun x y H Q => ∃ a b xs ys, x = .ref a ∧ y = .ref b ∧ Tq H a xs ∧ Tq H b ys ∧ xs.length + ys.length ≤ sizeLine ∧ ∀ p H2, Same H H2 → Tq H2 p (xs ++ ys) → Q (.ref p) H2
theorem catT : OpR X (binaryOp .Add) rCatQ := by
  intro pins s σ H x y v u Q I rx ry h
  obtain ⟨a, b, xs, ys, rfl, rfl, ha, hb, hz, q⟩ := h
  cases rx
  cases ry
  obtain ⟨its, r1, p1, _⟩ := I.tuple (ha.seq (K := X.K))
  obtain ⟨its2, r2, p2, _⟩ := I.tuple (hb.seq (K := X.K))
  by_cases hx : xs = []
  · subst hx
    cases r1
    exact cat_tup0 p1 p2 ⟨.ref b, H, I, rfl, q b H (Same.refl H) hb⟩
  · refine HT.cat_tup p1 p2 (fun z => hx (r1.nil_iff.mp z)) (fun z => ⟨.ref a, H, I, rfl, q a H (Same.refl H) ?_⟩) (fun z => ?_) (by rw [← r1.length, ← r2.length]; exact hz)
    · rw [r2.nil_iff.mp z, List.append_nil]
      exact ha
    · exact laid_tq (t' := s.toks) (n := 0) (xs := xs ++ ys) I (fun b ob q => Heap.get?_push_of_some _ q) (Nat.le_refl _) (Heap.get?_push_size _ rfl) (by rw [List.length_append]; exact hz) (r1.append r2) (fun p H2 _ e h2 => q p H2 e h2)
def rCatP : R2 := fun x y H Q => ∃ l b xs zs, x = .ref l ∧ y = .ref b ∧ H l = some (.lst xs) ∧ H b = some (.lst zs) ∧ xs.length + zs.length ≤ sizeLine ∧ NewL (xs ++ zs) H Q
theorem catL : OpR X (binaryOp .Add) rCatP := OpR.imp op_cat fun x y H Q ⟨l, b, xs, zs, h1, h2, h3, h4, h5, q⟩ => ⟨l, b, xs, zs, h1, h2, h3, h4, h5, q.to⟩
/-- tuple.count of an atom -/
def rCntAt : V → List V → Hp → VK → Prop := fun x vs H Q => ∃ (a : Atm) (l : List Atm) (p : Addr) (ys : List V) (y : V), x = .ref p ∧ vs = [y] ∧ Tq H p ys ∧ Tps H ys (l.map encAt) ∧ Tp H y (encAt a) ∧ Q (.int ((l.count a : Nat) : Int)) H
theorem countP_reads {h : Heap} {a : Atm} : ∀ {l : List Atm} {its : List Value} {as : List Addr}, ReadsAll h its (T.pys (l.map encAt)) as → PyData.canLayAll0 (T.pys (l.map encAt)) = true →
    its.countP (fun u => PyData.eqv (SeqAt.readOf h u) (encAt a).py) = l.count a := by
  intro l its as r hl
  have e := SeqAt.readsAll_map _ its as hl r
  have e2 : its.countP (fun u => PyData.eqv (SeqAt.readOf h u) (encAt a).py) = (its.map (SeqAt.readOf h)).countP fun z => PyData.eqv z (encAt a).py := by
    rw [List.countP_map]
    rfl
  rw [e2, e]
  clear e e2 r hl
  induction l with
  | nil => rfl
  | cons b l ih =>
    show List.countP _ ((encAt b).py :: T.pys (l.map encAt)) = _
    rw [List.countP_cons, ih, List.count_cons, eqv_at]
    by_cases hb : b = a
    · simp [hb]
    · simp [hb]
theorem at_room {A : Around} {l : List Atm} {a : Atm} (hu : A.units + 65 < cLine) : A.units + 1 + min (PyData.depthAll (T.pys (l.map encAt))) (encAt a).py.depth < cLine := by
  have h1 := T.py_depth (encAt a)
  have h2 := dp_at a
  omega
theorem mt_countT (hu : X.A.units + 65 < cLine) : MtR X "tuple.count" rCntAt := by
  intro pins s σ H x vs v us Q I rx rv h
  obtain ⟨a, l, p, ys, y, rfl, rfl, hp, hy, ha, q⟩ := h
  cases rx
  obtain ⟨u, rfl, ru⟩ := vals1 rv
  obtain ⟨its, n, sl, r, hz, hob⟩ := Inv.tq I hp
  obtain ⟨as, r1⟩ := Dp.readsAll I _ _ its (hy.dps_ (K := X.K)) r
  obtain ⟨bs, r2⟩ := Dp.reads I _ _ u (ha.dp_ (K := X.K)) ru
  refine call_meets PySem.F.slot_tuple_count ⟨_, hob, rfl⟩ PySem.F.entry_tuple_count (PySem.F.args_tuple_count_2 _ _)
    (SeqAt.tuple_countAt p its.toArray n none sl u (fun w => PyData.eqv (SeqAt.readOf s.heap w) (encAt a).py)) ⟨hob, SeqAt.items_eqAt (vs := its.toArray) (show ReadsAll s.heap its.toArray.toList _ as from r1) r2 hy.lay ha.lay (at_room hu), ?_⟩
  refine ⟨.int _, H, I.tok _, ⟨_, rfl⟩, ?_⟩
  rw [show its.toArray.toList = its from rfl, countP_reads r1 hy.lay]
  exact q
/-- list.remove of an atom that is there -/
def rRemAt : V → List V → Hp → VK → Prop := fun x vs H Q => ∃ (a : Atm) (l : List Atm) (p : Addr) (ys : List V) (y : V), x = .ref p ∧ vs = [y] ∧ H p = some (.lst ys) ∧ Tps H ys (l.map encAt) ∧ Tp H y (encAt a) ∧ a ∈ l ∧
  ∀ j : Nat, l[j]? = some a → Q .non (upd H p (.lst (ys.eraseIdx j)))
theorem firstOf {α : Type} [DecidableEq α] {a : α} : ∀ {l : List α}, a ∈ l → ∃ j : Nat, l[j]? = some a ∧ ∀ (m : Nat) (z : α), m < j → l[m]? = some z → z ≠ a
  | [], h => by cases h
  | b :: l, h => by
    by_cases e : b = a
    · exact ⟨0, by rw [e]; rfl, fun m z hm _ => by omega⟩
    · have h2 : a ∈ l := by
        rcases List.mem_cons.mp h with z | z
        · exact absurd z.symm e
        · exact z
      obtain ⟨j, h3, h4⟩ := firstOf h2
      refine ⟨j + 1, by simpa using h3, fun m z hm hz => ?_⟩
      cases m with
      | zero =>
        have : b = z := by simpa using hz
        rw [← this]
        exact e
      | succ m => exact h4 m z (by omega) (by simpa using hz)
theorem vals_erase : ∀ {xs : List V} {us : List Value}, Vals xs us → ∀ j : Nat, Vals (xs.eraseIdx j) (us.eraseIdx j)
  | _, _, .nil, _ => .nil
  | _, _, .cons _ r, 0 => r
  | _, _, .cons h r, j + 1 => .cons h (vals_erase r j)
theorem mt_removeD (hu : X.A.units + 65 < cLine) : MtR X "list.remove" rRemAt := by
  intro pins s σ H x vs v us Q I rx rv h
  obtain ⟨a, l, p, ys, y, rfl, rfl, hp, hy, ha, hin, q⟩ := h
  cases rx
  obtain ⟨u, rfl, ru⟩ := vals1 rv
  obtain ⟨hz, its, n, r, hlen, hob⟩ := I.lstM hp
  obtain ⟨as, r1⟩ := Dp.readsAll I _ _ its (hy.dps_ (K := X.K)) r
  obtain ⟨bs, r2⟩ := Dp.reads I _ _ u (ha.dp_ (K := X.K)) ru
  have hmap : its.map (SeqAt.readOf s.heap) = T.pys (l.map encAt) := SeqAt.readsAll_map _ its as hy.lay r1
  have hl2 : its.length = l.length := by
    have h1 := congrArg List.length hmap
    rw [List.length_map, T.pys_map, List.length_map] at h1
    exact h1
  have at_ : ∀ (m : Nat) (hm : m < its.length) (z : Atm), l[m]? = some z → SeqAt.readOf s.heap its[m] = (encAt z).py := by
    intro m hm z hzz
    have h1 : (its.map (SeqAt.readOf s.heap))[m]? = (T.pys (l.map encAt))[m]? := by rw [hmap]
    rw [T.pys_map, List.getElem?_map, List.getElem?_map, hzz, List.getElem?_eq_getElem hm] at h1
    exact Option.some.inj h1
  obtain ⟨j, hj, hno⟩ := firstOf hin
  have hjl : j < its.length := by
    rw [hl2]
    exact (List.getElem?_eq_some_iff.mp hj).1
  refine call_meets PySem.F.slot_list_remove ⟨_, hob, rfl⟩ PySem.F.entry_list_remove (PySem.F.args_list_remove_2 _ _)
    (SeqAt.list_removeAt p its.toArray n none #[] u (fun w => PyData.eqv (SeqAt.readOf s.heap w) (encAt a).py) j (by simpa using hjl) ?_ ?_ (by rw [List.size_toArray]; omega))
    ⟨hob, SeqAt.items_eqAt (vs := its.toArray) (show ReadsAll s.heap its.toArray.toList _ as from r1) r2 hy.lay ha.lay (at_room hu), ?_⟩
  · show PyData.eqv (SeqAt.readOf s.heap its.toArray[j]) (encAt a).py = true
    rw [show its.toArray[j] = its[j] by simp, at_ j hjl a hj, eqv_at]
    exact decide_eq_true rfl
  · intro m hm hmj
    have hml : m < its.length := by simpa using hm
    have hz' : l[m]? = some (l[m]'(by omega)) := List.getElem?_eq_getElem _
    show PyData.eqv (SeqAt.readOf s.heap its.toArray[m]) (encAt a).py = false
    rw [show its.toArray[m] = its[m] by simp, at_ m hml _ hz', eqv_at]
    exact decide_eq_false (hno m _ hmj hz')
  · refine ⟨.non, _, I.lset (its' := its.eraseIdx j) hp hob ?_ (vals_erase r j) ?_, rfl, q j hj⟩
    · simp
    · rw [List.length_eraseIdx]
      split <;> omega
end
end Aw

/-! A4: value_key, put_term, put_terms. -/
namespace Aw
open PySem PySem.Spec PyProof.Rows L2
open C8 (Cal pe_c)

/-! ### maps -/
/-- the first thing said of a name -/
def lk (m : Mp) (s : Str) : Option Tm := (m.find? fun p => decide (p.1 = s)).map (·.2)
def subT (m : Mp) : Tm → Tm
  | .var s => (lk m s).getD (.var s)
  | .val k => .val k
def subA (m : Mp) (a : Atm) : Atm := (a.1, a.2.map (subT m))
def subB (m : Mp) (b : List Atm) : List Atm := b.map (subA m)
def subJ (m : Mp) (j : Jn) : Jn := (j.1.map (subT m), subB m j.2)
/-- a dict of terms by names -/
inductive DicE (H : Hp) : List (Key × V) → Mp → Prop
  | nil : DicE H [] []
  | cons {s : Str} {v : V} {t : Tm} {kvs : List (Key × V)} {m : Mp} : Tp H v (encTm t) → DicE H kvs m → DicE H ((.inr s, v) :: kvs) ((s, t) :: m)
theorem DicE.mono {H H' : Hp} (e : Tx H H') : ∀ {kvs : List (Key × V)} {m : Mp}, DicE H kvs m → DicE H' kvs m
  | _, _, .nil => .nil
  | _, _, .cons h r => .cons (h.mono e) (r.mono e)
theorem DicE.length {H : Hp} : ∀ {kvs : List (Key × V)} {m : Mp}, DicE H kvs m → kvs.length = m.length
  | _, _, .nil => rfl
  | _, _, .cons h r => congrArg (· + 1) r.length
theorem DicE.get {H : Hp} (s : Str) : ∀ {kvs : List (Key × V)} {m : Mp}, DicE H kvs m → (valV kvs (.inr s) = none ∧ lk m s = none) ∨ ∃ v t, valV kvs (.inr s) = some v ∧ lk m s = some t ∧ Tp H v (encTm t)
  | _, _, .nil => .inl ⟨rfl, rfl⟩
  | _, _, @DicE.cons _ r v t kvs m h q => by
    by_cases e : r = s
    · subst e
      exact .inr ⟨v, t, valV_pos rfl, by simp [lk], h⟩
    · have e2 : ¬ (Sum.inr r : Key) = Sum.inr s := fun z => e (Sum.inr.inj z)
      have e3 : lk ((r, t) :: m) s = lk m s := by simp [lk, List.find?_cons, e]
      rw [valV_neg (p := ((.inr r : Key), v)) e2, e3]
      exact q.get s
def Dic (H : Hp) (v : V) (m : Mp) : Prop := ∃ a kvs, v = .ref a ∧ H a = some (.dK kvs) ∧ DicE H kvs m
theorem Dic.same {H H' : Hp} {v : V} {m : Mp} (e : Same H H') (h : Dic H v m) : Dic H' v m := by
  obtain ⟨a, kvs, rfl, h1, h2⟩ := h
  exact ⟨a, kvs, rfl, e _ _ h1, h2.mono (Same.tx e)⟩

/-! ### promises -/
def encVk : Key → T
  | .inl i => .tup [.int 0, .int i, .str ""]
  | .inr s => .tup [.int 1, .int 0, .str s]
def okK : Key → Prop
  | .inl _ => True
  | .inr s => okS s
theorem ok_empty : okS "" := by unfold okS; decide +kernel
def spVk : Sp := fun vs H Q _ => ∃ k, vs = [kV k] ∧ okK k ∧ ∀ w H', Same H H' → Tp H' w (encVk k) → Q w H'
def spPt : Sp := fun vs H Q _ => ∃ v u t m, vs = [v, u] ∧ Tp H v (encTm t) ∧ Dic H u m ∧ ∀ w, Tp H w (encTm (subT m t)) → Q w H
def Szs (j : Jn) : Prop := j.1.length ≤ 100000 ∧ j.2.length ≤ 100000 ∧ ∀ a ∈ j.2, a.2.length ≤ 100000
def spPts : Sp := fun vs H Q _ => ∃ v u j m, vs = [v, u] ∧ Tp H v (encJn j) ∧ Dic H u m ∧ Szs j ∧ ∀ w H', Same H H' → Tp H' w (encJn (subJ m j)) → Q w H'

section
variable {P : Program} {w : World} {K : PySem.W.Frag} {mg : Str → Option Value} {base : Heap}
theorem sc_value_key : FnScope ["value"] ["value"] (defScope st_value_key) := ⟨rfl, rfl, rfl, by decide +kernel, rfl, by decide +kernel, by decide +kernel⟩
-- slots: 0 value
theorem ok_value_key (F : Def' K mg "value_key" st_value_key) (B : Bt mg) : Cal P w K mg base 1 "value_key" spVk [] := by
  refine cal_mk F sc_value_key (fun _ _ _ _ _ _ us hl => match us, hl with | [_], _ => rfl) (fun vs H Q E h => ?_) (fun f cdv A outer s H vs Q E hr h => ?_)
  · obtain ⟨k, rfl, _⟩ := h
    rfl
  · obtain ⟨k, rfl, o, h⟩ := h
    have nd := sc_value_key.nd
    refine ⟨_, (pss_cons (ps_if (pt_val (pe_callB isi rfl B.isinstance_ bt_isinstance (pa_cons (pv 0) (pa_cons (pe_bltn (v := .ty "str") rfl B.str_ bt_str rfl) pa_nil))))
      (pss_one (ps_ret (peT (pa_cons pe_int (pa_cons pe_int (pa_cons (pv 0) pa_nil))))))
      pss_nil)
      (pss_one (ps_ret (peT (pa_cons pe_int (pa_cons (pv 0) (pa_cons pe_str pa_nil))))))), ?_⟩
    cases k with
    | inl i =>
      refine ⟨_, rfl, _, "int", "str", false, rfl, .int i, kit_is, false, rfl, iteF ?_⟩
      exact ⟨_, rfl, sz3, fun p H2 _ e t => h _ _ e (.tup t (.cons (.int _) (.cons (.int _) (.cons (.str _ ok_empty) .nil))))⟩
    | inr s =>
      refine ⟨_, rfl, _, "str", "str", true, rfl, .str s, kit_ss, true, rfl, iteT ?_⟩
      exact ⟨_, rfl, sz3, fun p H2 _ e t => h _ _ e (.tup t (.cons (.int _) (.cons (.int _) (.cons (.str _ o) .nil))))⟩
theorem sc_put_term : FnScope ["term", "terms"] ["term", "terms"] (defScope st_put_term) := ⟨rfl, rfl, rfl, by decide +kernel, rfl, by decide +kernel, by decide +kernel⟩
-- slots: 0 term, 1 terms
theorem ok_put_term (F : Def' K mg "put_term" st_put_term) (B : Bt mg) : Cal P w K mg base 1 "put_term" spPt [] := by
  refine cal_mk F sc_put_term (fun _ _ _ _ _ _ us hl => match us, hl with | [_, _], _ => rfl) (fun vs H Q E h => ?_) (fun f cdv A outer s H vs Q E hr h => ?_)
  · obtain ⟨v, u, t, m, rfl, _⟩ := h
    rfl
  · obtain ⟨v, u, t, m, rfl, ht, ⟨d, kvs, rfl, hd, hk⟩, h⟩ := h
    have nd := sc_put_term.nd
    have hu := hu_of hr
    refine ⟨_, (pss_cons (ps_if (pt_cmpR op_eq (pe_ix ixT (pv 0) pe_int (fun _ _ => rfl)) pe_str (nomark _))
      (pss_one (ps_ret (pe_dget2 hu (pv 1) (pe_ix ixT (pv 0) pe_int (fun _ _ => rfl)) (pv 0) ⟨rfl, rfl, rfl, rfl⟩)))
      pss_nil)
      (pss_one (ps_ret (pv 0)))), ?_⟩
    obtain ⟨a, rfl, ha, ho⟩ := tmE ht
    refine ⟨_, rfl, a, _, 0, .str t.tag, rfl, rfl, ha, rfl, rfl, _, rfl, ?_⟩
    cases t with
    | val k =>
      exact iteD (fun z => absurd (V.str.inj z).symm tag_ne) (fun _ => ⟨_, rfl, h _ ht⟩)
    | var s =>
      refine iteD (fun _ => ⟨_, rfl, d, rfl, .inl ⟨kvs, .inl hd⟩, _, rfl, a, _, 1, .str s, rfl, rfl, ha, rfl, .ref a, rfl, valV kvs (.inr s), DGet.k (k := Sum.inr s) hd, ?_⟩) (fun z => absurd rfl z)
      rcases hk.get s with ⟨e1, e2⟩ | ⟨v, t, e1, e2, e3⟩
      · rw [e1]
        refine h _ ?_
        show Tp H (.ref a) (encTm ((lk m s).getD (.var s)))
        rw [e2]
        exact ht
      · rw [e1]
        refine h _ ?_
        show Tp H v (encTm ((lk m s).getD (.var s)))
        rw [e2]
        exact e3
theorem sc_put_terms : FnScope ["join", "terms", "head", "body", "atoms", "term", "name", "row"] ["join", "terms"] (defScope st_put_terms) := ⟨rfl, rfl, rfl, by decide +kernel, rfl, by decide +kernel, by decide +kernel⟩
-- slots: 0 join, 1 terms, 2 head, 3 body, 4 atoms, 5 term, 6 name, 7 row
theorem ok_put_terms (F : Def' K mg "put_terms" st_put_terms) (B : Bt mg) (C_put_term : Cal P w K mg base 1 "put_term" spPt []) : Cal P w K mg base 2 "put_terms" spPts [] := by
  refine cal_mk F sc_put_terms (fun _ _ _ _ _ _ us hl => match us, hl with | [_, _], _ => rfl) (fun vs H Q E h => ?_) (fun f cdv A outer s H vs Q E hr h => ?_)
  · obtain ⟨v, u, j, m, rfl, _⟩ := h
    rfl
  · obtain ⟨v, u, j, m, rfl, hj, hm, ⟨n1, n2, n3⟩, k⟩ := h
    have nd := sc_put_terms.nd
    refine ⟨_, (pss_cons (ps_asg (pv 0) (pgT (K := K) (n := 2) rfl rfl (pgs_cons (pg_name (i := 2) nd rfl (.inl rfl)) (pgs_cons (pg_name (i := 3) nd rfl (.inl rfl)) pgs_nil))))
      (pss_cons (ps_setLc (i := 4) (own := [("name", 6), ("row", 7)]) (tt := tYes) rfl nd rfl rfl (sw_true rfl rfl rfl (by kernel_rfl)) (piT (K := K) rfl (pv 3)) (blkOk_by (by kernel_rfl)) (fun _ _ _ _ _ => (pgT (K := K) (n := 2) rfl rfl (pgs_cons (pg_name (i := 6) nd rfl (.inl rfl)) (pgs_cons (pg_name (i := 7) nd rfl (.inl rfl)) pgs_nil)))) (fun _ _ _ _ _ => pts_nil) (fun _ _ _ _ _ => (peT (pa_cons (pv 6) (pa_cons (pe_callTy tupOf rfl B.tuple_ bt_tuple (pa_cons (pe_lc (own := [("term", 5)]) (g := (gName 5)) (tt := tYes) rfl nd (piT (K := K) rfl (pv 7)) (blkOk_by (by kernel_rfl)) (fun _ _ _ _ _ => (pg_name (i := 5) nd rfl (.inl rfl))) (fun _ _ _ _ _ => pts_nil) (fun _ _ _ _ _ => (pe_c C_put_term hr (by decide) rfl (pa_cons (pv 5) (pa_cons (pv 1) pa_nil))))) pa_nil)) pa_nil)))))
      (pss_one (ps_ret (peT (pa_cons (pe_callTy tupOf rfl B.tuple_ bt_tuple (pa_cons (pe_lc (own := [("term", 5)]) (g := (gName 5)) (tt := tYes) rfl nd (piT (K := K) rfl (pv 2)) (blkOk_by (by kernel_rfl)) (fun _ _ _ _ _ => (pg_name (i := 5) nd rfl (.inl rfl))) (fun _ _ _ _ _ => pts_nil) (fun _ _ _ _ _ => (pe_c C_put_term hr (by decide) rfl (pa_cons (pv 5) (pa_cons (pv 1) pa_nil))))) pa_nil)) (pa_cons (pe_callTy tupOf rfl B.tuple_ bt_tuple (pa_cons (pv 4) pa_nil)) pa_nil))))))), ?_⟩
    obtain ⟨p, a, b, xs, ys, rfl, hp, ha, hxs, hb, hys⟩ := jnE hj
    refine ⟨_, rfl, p, _, rfl, hp.seq, rfl, _, _, rfl, _, _, rfl, rfl, ?_⟩
    refine ⟨_, rfl, b, rfl, ⟨_, hb.seq⟩, lc_t (l := j.2) (ea := encAt) (f := fun x => encAt (subA m x)) (c := fun _ => true) hb hys n2 (fun x hx v H1 e1 hv R Qy _ kY => ?_) (fun q zs H1 _ e1 hq rz => ?_)⟩
    · obtain ⟨p', q', ws, rfl, h1, h2, h3, h4⟩ := atE hv
      refine ⟨p', _, rfl, h1.seq, rfl, _, _, rfl, _, _, rfl, rfl, rfl, yesI ?_⟩
      refine ⟨_, rfl, ⟨_, rfl, q', rfl, ⟨_, h2.seq⟩, lc_t (l := x.2) (ea := encTm) (f := fun t => encTm (subT m t)) (c := fun _ => true) h2 h3 (n3 x hx) (fun t ht v H2 e2 hv R2 Qy2 _ kY2 => ?_) (fun q2 zs2 H2 _ e2 hq2 rz2 => ?_)⟩⟩
      · refine ⟨rfl, yesI ⟨_, rfl, _, rfl, v, u, t, m, rfl, hv, (hm.same e1).same e2, fun w hw => ?_⟩⟩
        exact kY2 rfl w H2 (Same.refl _) hw
      · refine ⟨q2, zs2, rfl, hq2, fun r H3 _ e3 h5 => ⟨sz2, fun r2 H4 _ e4 h6 => ?_⟩⟩
        rw [filter_yes] at rz2
        refine kY rfl _ _ ((e2.trans e3).trans e4) (atI' (a := subA m x) (q := r) (xs := zs2) h6 (h5.same e4) ?_ h4)
        rw [show (subA m x).2.map encTm = x.2.map fun t => encTm (subT m t) from List.map_map ..]
        exact (rz2.mono (Same.tx e3)).mono (Same.tx e4)
    · rw [filter_yes] at rz
      refine ⟨_, rfl, a, rfl, ⟨_, (ha.same e1).seq⟩, lc_t (l := j.1) (ea := encTm) (f := fun t => encTm (subT m t)) (c := fun _ => true) (ha.same e1) (hxs.mono (Same.tx e1)) n1 (fun t ht v H2 e2 hv R2 Qy2 _ kY2 => ?_) (fun q2 zs2 H2 _ e2 hq2 rz2 => ?_)⟩
      · refine ⟨rfl, yesI ⟨_, rfl, _, rfl, v, u, t, m, rfl, hv, (hm.same e1).same e2, fun w hw => ?_⟩⟩
        exact kY2 rfl w H2 (Same.refl _) hw
      · rw [filter_yes] at rz2
        refine ⟨q2, zs2, rfl, hq2, fun r H3 _ e3 h5 => ?_⟩
        refine ⟨_, rfl, q, zs, rfl, e3 _ _ (e2 _ _ hq), fun r2 H4 _ e4 h6 => ⟨sz2, fun r3 H5 _ e5 h7 => ?_⟩⟩
        refine k _ _ (((e1.trans e2).trans e3).trans (e4.trans e5)) ?_
        refine jnI (j := subJ m j) (a := r) (b := r2) (xs := zs2) (ys := zs) h7 ((h5.same e4).same e5) ?_ (h6.same e5) ?_
        · rw [show (subJ m j).1.map encTm = j.1.map fun t => encTm (subT m t) from List.map_map ..]
          exact rz2.mono (Same.tx (e3.trans (e4.trans e5)))
        · rw [show (subJ m j).2.map encAt = j.2.map fun x => encAt (subA m x) from List.map_map ..]
          exact rz.mono (Same.tx (e2.trans (e3.trans (e4.trans e5))))
end
end Aw

/-! R2: dicts whose keys are data (atoms, terms): made, stored, asked, listed; made by a comprehension. -/
namespace Aw
open PySem PySem.Spec PyProof.Rows L2
open C8 (Cal pe_c)

mutual
def T.key : T → NestedKey
  | .int i => .num i
  | .str s => .text s
  | .tup l => .tup (T.keys l)
def T.keys : List T → List NestedKey
  | [] => []
  | d :: l => T.key d :: T.keys l
end
mutual
theorem T.key_inj : ∀ {d e : T}, d.key = e.key → d = e
  | .int i, .int j, h => by cases h; rfl
  | .str i, .str j, h => by cases h; rfl
  | .tup l, .tup m, h => by
    have h1 : T.keys l = T.keys m := NestedKey.tup.inj h
    rw [T.keys_inj h1]
  | .int _, .str _, h => nomatch h
  | .int _, .tup _, h => nomatch h
  | .str _, .int _, h => nomatch h
  | .str _, .tup _, h => nomatch h
  | .tup _, .int _, h => nomatch h
  | .tup _, .str _, h => nomatch h
theorem T.keys_inj : ∀ {l m : List T}, T.keys l = T.keys m → l = m
  | [], [], _ => rfl
  | [], _ :: _, h => nomatch h
  | _ :: _, [], h => nomatch h
  | d :: l, e :: m, h => by
    have h1 := List.cons.inj h
    rw [T.key_inj h1.1, T.keys_inj h1.2]
end
mutual
theorem T.key_depth : ∀ d : T, d.key.depth ≤ d.dp
  | .int _ => by simp [T.key, NestedKey.depth]
  | .str _ => by simp [T.key, NestedKey.depth]
  | .tup l => by
    have h := T.keys_depth l
    simp only [T.key, NestedKey.depth, T.dp]
    omega
theorem T.keys_depth : ∀ l : List T, NestedKey.depthAll (T.keys l) ≤ T.dps l
  | [] => by simp [T.keys, NestedKey.depthAll]
  | d :: l => by
    have h1 := T.key_depth d
    have h2 := T.keys_depth l
    have e : T.dps (d :: l) = max (T.dp d) (T.dps l) := rfl
    simp only [T.keys, NestedKey.depthAll, e]
    omega
end
section
variable {X : Cx} {pins : List (Addr × Obj)} {σ : L2.St} {H : Hp} {s : Shared}
mutual
theorem Tp.nested (I : Inv X pins σ H s) : ∀ {d : T} {v : V} {u : Value}, Tp H v d → L2.RelV v u → NestedIs s.heap d.key u
  | .int _, _, _, .int i, r => by
    obtain ⟨t, rfl⟩ := r
    exact .int i t
  | .str _, _, _, .str x _, r => by
    obtain ⟨t, rfl⟩ := r
    exact .text x t
  | .tup l, _, u, .tup (a := a) h q, r => by
    cases (show u = Value.ref a from r)
    obtain ⟨its, n, sl, rv, _, hob⟩ := Inv.tq I h
    exact .tup hob rfl rfl (Tps.nested I q (show Vals _ its.toArray.toList from rv))
theorem Tps.nested (I : Inv X pins σ H s) : ∀ {ds : List T} {vs : List V} {us : List Value}, Tps H vs ds → Vals vs us → NestedAll s.heap (T.keys ds) us
  | [], _, _, .nil, r => by
    cases r
    exact .nil
  | _ :: _, _, _, .cons h q, r => by
    cases r with
    | cons r1 r2 => exact .cons (Tp.nested I h r1) (Tps.nested I q r2)
end
end
/-- a dict as it stands -/
def RawO (d : Addr) (es : Array DictEntry) (ep : Nat) : HO := .ext fun h => DT.Raw h d es ep
theorem raw_ok {P : Program} {w : World} {H : Hp} {h : Heap} {d : Addr} {es : Array DictEntry} {ep : Nat} (r : DT.Raw h d es ep) : ObjOk P w H h d (RawO d es ep) := by
  obtain ⟨o, h1, h2, h3⟩ := r
  exact ⟨⟨o, h1, h2, h3⟩, ⟨o, h1⟩, fun g1 g2 r2 k => r2.at' k⟩
abbrev nk (P : Program) (w : World) := nestedKind P w
def triple (z : T × Addr) : NestedKey × Addr × Value := (z.1.key, z.2, Value.bool true)
noncomputable def putN (ts : List T) (t : T) : List T := by classical exact if t ∈ ts then ts else ts ++ [t]
theorem putN_in {ts : List T} {t : T} (h : t ∈ ts) : putN ts t = ts := if_pos h
theorem putN_out {ts : List T} {t : T} (h : ¬ t ∈ ts) : putN ts t = ts ++ [t] := if_neg h
/-- at d a dict whose keys are the data ts, in order; under each True -/
def KD (P : Program) (w : World) (H : Hp) (d : Addr) (ts : List T) : Prop := ∃ (es : Array DictEntry) (ep : Nat) (as : List Addr), H d = some (RawO d es ep) ∧ (d == sysModules) = false ∧ as.length = ts.length ∧ es.toList = (ts.zip as).map (fun z => entryOfKey (nk P w) (triple z)) ∧
  Tps H (as.map V.ref) ts ∧ ts.Nodup ∧ (∀ t ∈ ts, t.dp ≤ 8) ∧ ∃ h : Heap, DT.Raw h d es ep
section
variable {P : Program} {w : World} {H H' : Hp} {d : Addr} {ts : List T} {t : T}
theorem KD.same (e : Same H H') (k : KD P w H d ts) : KD P w H' d ts := by
  obtain ⟨es, ep, as, h1, h2, h3, h4, h5, h6, h7⟩ := k
  exact ⟨es, ep, as, e _ _ h1, h2, h3, h4, h5.mono (Same.tx e), h6, h7⟩
theorem KD.move (k : KD P w H d ts) (e : H' d = H d) (tx : Tx H H') : KD P w H' d ts := by
  obtain ⟨es, ep, as, h1, h2, h3, h4, h5, h6, h7⟩ := k
  exact ⟨es, ep, as, e.trans h1, h2, h3, h4, h5.mono tx, h6, h7⟩
theorem KD.some (k : KD P w H d ts) : ∃ es ep, H d = some (RawO d es ep) := by
  obtain ⟨es, ep, as, h1, _⟩ := k
  exact ⟨es, ep, h1⟩
theorem tx_raw {o : HO} {es : Array DictEntry} {ep : Nat} (h : H d = some (RawO d es ep)) : Tx H (upd H d o) := fun b ys q => q.upd_ fun z => by
  obtain ⟨u, _, q⟩ := q
  rw [← z, h] at q
  cases q
end
section
variable {X : Cx} {pins : List (Addr × Obj)} {σ : L2.St} {H : Hp} {s : Shared} {d : Addr} {ts : List T} {t : T}
theorem zip_fst {α β : Type} : ∀ {l : List α} {m : List β}, m.length = l.length → (l.zip m).map (·.1) = l
  | [], _, _ => rfl
  | _ :: _, [], h => by simp at h
  | a :: l, b :: m, h => by
    show a :: (l.zip m).map (·.1) = a :: l
    rw [zip_fst (by simpa using h)]
theorem zip_snd {α β : Type} : ∀ {l : List α} {m : List β}, m.length = l.length → (l.zip m).map (·.2) = m
  | [], [], _ => rfl
  | [], _ :: _, h => by simp at h
  | _ :: _, [], h => by simp at h
  | a :: l, b :: m, h => by
    show b :: (l.zip m).map (·.2) = b :: m
    rw [zip_snd (by simpa using h)]
theorem nodup_keys {ts : List T} (h : ts.Nodup) : (ts.map T.key).Nodup := by
  induction h with
  | nil => exact .nil
  | cons hn _ ih =>
    refine .cons (fun k hk => ?_) ih
    obtain ⟨e, he, rfl⟩ := List.mem_map.mp hk
    exact fun z => hn e he (T.key_inj z)
theorem zip_key {ts : List T} {as : List Addr} (h : as.length = ts.length) : ((ts.zip as).map triple).map (·.1) = ts.map T.key := by
  have e : ((ts.zip as).map triple).map (·.1) = ((ts.zip as).map (·.1)).map T.key := by rw [List.map_map, List.map_map]; rfl
  rw [e, zip_fst h]
theorem zip_tp : ∀ {ts : List T} {as : List Addr}, Tps H (as.map V.ref) ts → ∀ z ∈ ts.zip as, Tp H (.ref z.2) z.1
  | [], _, _, z, hz => by simp at hz
  | _ :: _, [], r, z, hz => by simp at hz
  | t :: ts, a :: as, r, z, hz => by
    cases r with
    | cons h r =>
      rcases List.mem_cons.mp hz with rfl | hz
      · exact h
      · exact zip_tp r z hz
/-- what the library's rules ask -/
theorem KD.of (I : Inv X pins σ H s) (k : KD X.prog X.w H d ts) : ∃ as : List Addr, as.length = ts.length ∧ Tps H (as.map V.ref) ts ∧ s.heap.DictOfH (nk X.prog X.w) d ((ts.zip as).map triple) := by
  obtain ⟨es, ep, as, h1, h2, h3, h4, h5, h6, h7⟩ := k
  obtain ⟨⟨o, g1, g2, g3⟩, _, _⟩ := I.hok d _ h1
  refine ⟨as, h3, h5, o, es, ep, g1, g2, g3, by rw [h4, List.map_map]; rfl, fun x hx => ?_, by rw [zip_key h3]; exact nodup_keys h6⟩
  obtain ⟨z, hz, rfl⟩ := List.mem_map.mp hx
  have hm : z.1 ∈ ts := by
    have h8 : z.1 ∈ (ts.zip as).map (·.1) := List.mem_map.mpr ⟨z, hz, rfl⟩
    rw [zip_fst h3] at h8
    exact h8
  exact ⟨Tp.nested I (zip_tp h5 z hz) rfl, Nat.le_trans (T.key_depth _) (h7.1 _ hm)⟩
theorem KD.low (k : KD X.prog X.w H d ts) : (d == sysModules) = false := by
  obtain ⟨es, ep, as, h1, h2, _⟩ := k
  exact h2
theorem at_key {ts : List T} {as : List Addr} (h3 : as.length = ts.length) (t : T) : (atKey ((ts.zip as).map triple) t.key).isSome = true ↔ t ∈ ts := by
  unfold atKey
  rw [Option.isSome_map, List.find?_isSome]
  constructor
  · rintro ⟨x, hx, hk⟩
    obtain ⟨z, hz, rfl⟩ := List.mem_map.mp hx
    have e : z.1 = t := T.key_inj (of_decide_eq_true hk)
    have h8 : z.1 ∈ (ts.zip as).map (·.1) := List.mem_map.mpr ⟨z, hz, rfl⟩
    rw [zip_fst h3, e] at h8
    exact h8
  · intro h
    rw [← zip_fst (m := as) h3] at h
    obtain ⟨z, hz, rfl⟩ := List.mem_map.mp h
    exact ⟨triple z, List.mem_map.mpr ⟨z, hz, rfl⟩, decide_eq_true rfl⟩
theorem room8 {A : Around} (hu : A.units + 65 < cLine) : A.units + 8 < cLine := by omega
/-- a key's value: a tuple -/
theorem tup_ref {v : V} {l : List T} (h : Tp H v (.tup l)) : ∃ a, v = .ref a := by
  cases h with
  | tup h r => exact ⟨_, rfl⟩
theorem key_is {a : Addr} (I : Inv X pins σ H s) (h : Tp H (.ref a) t) (hd : t.dp ≤ 8) : (nk X.prog X.w).is s.heap t.key a := ⟨Tp.nested I h rfl, Nat.le_trans (T.key_depth _) hd⟩
/-- behind a store -/
theorem KD.stored {a : Addr} {h' : Heap} {tk : Nat} {Q : Hp → Prop} (I : Inv X pins σ H s) (k : KD X.prog X.w H d ts) (ht : Tp H (.ref a) t) (hd : t.dp ≤ 8) {as : List Addr} (h3 : as.length = ts.length) (h5 : Tps H (as.map V.ref) ts)
    (D : h'.DictOfH (nk X.prog X.w) d (storedH ((ts.zip as).map triple) t.key a (.bool true))) (sb : Heap.SameBut d s.heap h') (q : ∀ o, KD X.prog X.w (upd H d o) d (putN ts t) → Q (upd H d o)) :
    ∃ H', Inv X pins σ H' { s with heap := h', toks := tk } ∧ Q H' := by
  obtain ⟨es0, ep0, as0, h1, h2, _, _, _, h6, h7⟩ := id k
  obtain ⟨o, es, ep, g1, g2, g3, g4, _, _⟩ := D
  have raw : DT.Raw h' d es ep := ⟨o, g1, g2, g3⟩
  refine ⟨upd H d (RawO d es ep), I.write (x := d) (e := d) (by rw [h1]; exact True.intro) (.inl rfl) (fun b u hb e => (sb.2 b hb).trans e) ⟨o, g1⟩ (raw_ok raw), q _ ?_⟩
  have tx := tx_raw (o := RawO d es ep) h1
  by_cases hin : t ∈ ts
  · rw [putN_in hin]
    refine ⟨es, ep, as, upd_same, h2, h3, ?_, h5.mono tx, h6, h7.1, h', raw⟩
    obtain ⟨p, hp⟩ := Option.isSome_iff_exists.mp ((at_key h3 t).mpr hin)
    rw [storedH_old hp, List.map_map] at g4
    rw [g4, List.map_map]
    refine List.map_congr_left fun z _ => ?_
    show entryOfKey (nk X.prog X.w) (putAt t.key (.bool true) (triple z)) = entryOfKey (nk X.prog X.w) (triple z)
    unfold putAt
    split <;> rfl
  · rw [putN_out hin]
    have hno : atKey ((ts.zip as).map triple) t.key = none := by
      cases e : atKey ((ts.zip as).map triple) t.key with
      | none => rfl
      | some p => exact absurd ((at_key h3 t).mp (by rw [e]; rfl)) hin
    refine ⟨es, ep, as ++ [a], upd_same, h2, by rw [List.length_append, List.length_append, h3]; rfl, ?_, ?_, ?_, ?_, h', raw⟩
    · rw [storedH_new hno] at g4
      rw [g4, List.zip_append h3.symm, List.map_append, List.map_append, List.map_map]
      rfl
    · rw [List.map_append]
      exact (h5.mono tx).snoc (ht.mono tx)
    · exact List.nodup_append.mpr ⟨h6, by simp, fun x hx y hy => by
        rw [List.mem_singleton] at hy
        subst hy
        exact fun z => hin (z ▸ hx)⟩
    · intro u hu
      rcases List.mem_append.mp hu with hu | hu
      · exact h7.1 u hu
      · rw [List.mem_singleton] at hu
        rw [hu]
        exact hd
end
section
variable {X : Cx}
/-- {} -/
def tNewN (P : Program) (w : World) : TE := fun _ H Q => ∀ p H', H p = none → Same H H' → KD P w H' p [] → Q (.ref p) H'
theorem raw_new (h : Heap) : DT.Raw (h.push { cls := .type "dict", data := .dict #[] }) h.objs.size #[] 0 := ⟨_, Heap.get?_push_size _ rfl, ⟨rfl, rfl, rfl⟩, rfl⟩
theorem kd_new' {P : Program} {w : World} {H : Hp} {p : Addr} (hp : (p == sysModules) = false) (hr : ∃ h : Heap, DT.Raw h p #[] 0) : KD P w (upd H p (RawO p #[] 0)) p [] := ⟨#[], 0, [], upd_same, hp, rfl, rfl, .nil, .nil, (fun _ h => by cases h), hr⟩
theorem pe_newN {pos : Pos} {P : Program} {w : World} (hP : X.prog = P) (hw : X.w = w) : PE X (.Dict [] [] pos) (tNewN P w) := by
  subst hP hw
  refine ⟨fun pins s σ H Q I h => ?_⟩
  have n0 : H s.heap.objs.size = none := I.hok.fresh (Nat.le_refl _)
  refine wpAny_Dict_empty ⟨.ref s.heap.objs.size, _, I.laid (a := s.heap.objs.size) (o := RawO s.heap.objs.size #[] 0) (t' := s.toks) (fun _ _ q => Heap.get?_push_of_some _ q) (Nat.le_refl _) (raw_ok (raw_new _)), rfl, h _ _ n0 (same_new n0) (kd_new' ?_ ⟨_, raw_new _⟩)⟩
  exact beq_eq_false_iff_ne.mpr (Ne.symm (Nat.ne_of_lt I.big))
/-- d[t] = True -/
def rSetN (P : Program) (w : World) : TSet := fun o i v H Q => ∃ (d : Addr) (l : List T) (ts : List T), o = .ref d ∧ v = .bl true ∧ Tp H i (.tup l) ∧ (T.tup l).dp ≤ 8 ∧ KD P w H d ts ∧ ts.length ≤ 100000 ∧ ∀ u, KD P w (upd H d u) d (putN ts (.tup l)) → Q (upd H d u)
theorem set_N {P : Program} {w : World} (hP : X.prog = P) (hw : X.w = w) (hu : X.A.units + 65 < cLine) : PSet X (rSetN P w) := by
  subst hP hw
  intro pins s σ H o i v ov iv u Q I ro ri rv h
  obtain ⟨d, l, ts, rfl, rfl, ht, hd, k, hn, q⟩ := h
  obtain ⟨a, rfl⟩ := tup_ref ht
  cases ro
  cases ri
  cases rv
  obtain ⟨as, h3, h5, D⟩ := k.of I
  have hlen : ((ts.zip as).map triple).length ≤ sizeLine := by
    rw [List.length_map, List.length_zip, h3, Nat.min_self]
    exact szl hn
  refine wpAny_setItem_heap (show X.A.units + 1 + 8 < cLine by omega) (key_is I ht hd) D (fun h' D' sb => ?_) hlen
  exact k.stored I ht hd h3 h5 D' sb q
/-- t in d, t not in d -/
def rInN (P : Program) (w : World) (neg : Bool) : R2 := fun x y H Q => ∃ (d : Addr) (l : List T) (ts : List T), y = .ref d ∧ Tp H x (.tup l) ∧ (T.tup l).dp ≤ 8 ∧ KD P w H d ts ∧ (T.tup l ∈ ts → Q (.bl (!neg)) H) ∧ (¬ T.tup l ∈ ts → Q (.bl neg) H)
theorem notInN {P : Program} {w : World} (hP : X.prog = P) (hw : X.w = w) (hu : X.A.units + 65 < cLine) : OpR X (compareOp .NotIn) (rInN P w true) := by
  subst hP hw
  intro pins s σ H x y v u Q I rx ry h
  obtain ⟨d, l, ts, rfl, ht, hd, k, q1, q2⟩ := h
  obtain ⟨a, rfl⟩ := tup_ref ht
  cases rx
  cases ry
  obtain ⟨as, h3, h5, D⟩ := k.of I
  refine wpAny_notIn_heap (show X.A.units + 1 + 8 < cLine by omega) (key_is I ht hd) k.low D ?_
  by_cases hin : T.tup l ∈ ts
  · rw [(at_key h3 _).mpr hin]
    exact ⟨.bl false, H, I.tok _, rfl, q1 hin⟩
  · have e : (atKey ((ts.zip as).map triple) (T.tup l).key).isSome = false := Bool.eq_false_iff.mpr fun z => hin ((at_key h3 _).mp z)
    rw [e]
    exact ⟨.bl true, H, I.tok _, rfl, q2 hin⟩
/-- list(d) -/
def rListN (P : Program) (w : World) : List V → Hp → VK → Prop := fun xs H Q => ∃ (d : Addr) (ts : List T), xs = [.ref d] ∧ KD P w H d ts ∧ ts.length ≤ 100000 ∧ ∀ ys, Tps H ys ts → NewL ys H Q
theorem listN {P : Program} {w : World} (hP : X.prog = P) (hw : X.w = w) (hc : X.calm = true) : CallR X (.type "list") (rListN P w) := by
  subst hP hw
  intro pins s σ H xs us Q I r h
  obtain ⟨d, ts, rfl, k, hn, q⟩ := h
  obtain ⟨u, rfl, rx⟩ := vals1 r
  cases rx
  obtain ⟨es, ep, as, h1, h2, h3, h4, h5, h6, h7⟩ := id k
  obtain ⟨⟨o, g1, g2, g3⟩, _, _⟩ := I.hok d _ h1
  have l1 : es.size = as.length := by
    rw [← Array.length_toList, h4, List.length_map, List.length_zip, h3, Nat.min_self]
  refine PySem.W.kdl_call (kdl_raw h2 g2 g3) (I.ok.hd hc) g1 (by rw [l1, h3]; exact szl hn) fun h' tk acc' c' kp e it => ?_
  have ea : acc'.toList = as.map Value.ref := by
    have hl : acc'.toList.length = as.length := by rw [Array.length_toList, it.1]; exact l1
    apply List.ext_getElem?
    intro j
    rw [List.getElem?_map]
    cases hj : acc'.toList[j]? with
    | none =>
      have z1 := List.getElem?_eq_none_iff.mp hj
      rw [List.getElem?_eq_none (by omega)]
      rfl
    | some v =>
      obtain ⟨en, hen, hv⟩ := it.2 j v (by rw [← Array.getElem?_toList]; exact hj)
      have hjl : j < as.length := by
        have := (List.getElem?_eq_some_iff.mp hj).1
        omega
      have hzl : j < (ts.zip as).length := by rw [List.length_zip, h3, Nat.min_self]; omega
      rw [← Array.getElem?_toList, h4, List.getElem?_map, List.getElem?_eq_getElem hzl] at hen
      have e2 := Option.some.inj hen
      rw [hv, ← e2, List.getElem?_eq_getElem hjl]
      show some (Value.ref ((ts.zip as)[j]).2) = some (Value.ref as[j])
      rw [List.getElem_zip]
  have n0 : H s.heap.objs.size = none := I.hok.fresh (Nat.le_refl _)
  refine ⟨.ref s.heap.objs.size, _, I.laid (t' := tk) (o := .lst (as.map V.ref)) kp (Nat.le_refl _) ?_, rfl, q _ h5 _ _ n0 (same_new n0) upd_same⟩
  exact ⟨by rw [List.length_map, h3]; exact szl hn, acc'.toList, c', by rw [ea]; exact vals_refs _, by rw [Array.toArray_toList]; exact e⟩
end
end Aw

/-! R3: {t: True for x in xs}, t data: the walk of HandS.DictComp turned to keys that are data. -/
namespace Aw
open PySem PySem.Spec PyProof.Rows L2
open C8 (Cal pe_c)

section
variable {X : Cx}
/-- dictSet of a key that is data -/
theorem set_KD {pins : List (Addr × Obj)} {σ : L2.St} {H : Hp} {s : Shared} {E : Value → Shared → Prop} {d : Addr} {ts l : List T} {y : V} {u : Value} {Q : Hp → Prop} {R : Unit → Shared → Prop} (hu : X.A.units + 65 < cLine) (I : Inv X pins σ H s)
    (ht : Tp H y (.tup l)) (hd : (T.tup l).dp ≤ 8) (k : KD X.prog X.w H d ts) (hn : ts.length ≤ 100000) (ry : L2.RelV y u) (q : ∀ o, KD X.prog X.w (upd H d o) d (putN ts (.tup l)) → Q (upd H d o))
    (h : ∀ s', (∃ H', Inv X pins σ H' s' ∧ Q H') → R () s') : wpAny (model X.prog X.w) X.A (dictSet d u (.bool true)) R E s := by
  obtain ⟨a, rfl⟩ := tup_ref ht
  cases ry
  obtain ⟨as, h3, h5, D⟩ := k.of I
  have hlen : ((ts.zip as).map triple).length ≤ sizeLine := by
    rw [List.length_map, List.length_zip, h3, Nat.min_self]
    exact szl hn
  exact wpAny_dictSet_heap (show X.A.units + 8 < cLine by omega) (key_is I ht hd) D (fun h' D' sb => h _ (k.stored I ht hd h3 h5 D' sb q)) hlen
/-- what is asked: D the new dict -/
def tDcN (P : Program) (w : World) (wi : TI) (g : TG) (tk : TE) (vs : List Nat) : TE := fun σ H Q => wi σ H fun J H1 => ∀ D o, H1 D = none → KD P w (upd H1 D o) D [] → ∃ W : Nat → Nat → Hp → Prop, (∃ m, W 0 m (upd H1 D o)) ∧ ∀ i m H, W i m H →
  (J.stop i H ∧ Q (.ref D) H) ∨ (J.go i H ∧ ∃ Nx : Hp → Prop, (∀ H', Nx H' → ∃ m', m' < m ∧ W (i + 1) m' H') ∧ ∀ x H', J.yld i H x H' → g x (wipe σ vs) H' fun σ2 H2 => wipe σ2 vs = wipe σ vs ∧
    tk σ2 H2 fun y H4 => ∃ l ts, Tp H4 y (.tup l) ∧ (T.tup l).dp ≤ 8 ∧ KD P w H4 D ts ∧ ts.length ≤ 100000 ∧ ∀ u, KD P w (upd H4 D u) D (putN ts (.tup l)) → Nx (upd H4 D u))
theorem dcN_core {pins : List (Addr × Obj)} {s : Shared} {σ : L2.St} {H : Hp} {Q : VK} {kx tg iter : Expr} {j0 : Nat} {p0 : Pos} {scope : Scope} {own : List (Str × Nat)} {pos pos' : Pos} {wi : TI} {g : TG} {tk : TE} {use : Option (Value → Sem Unit)} {Qf : Value → Shared → Prop}
    (hu : X.A.units + 65 < cLine) (hc : X.calm = true) (hN : X.N.Nodup) (I : Inv X pins σ H s) (hi : PI X tg iter wi) (ok : BlkOk X.N X.env.scope scope own)
    (hg : ∀ (s : Shared) (H : Hp) (C : Addr) (cl : List (Str × Addr)) (fp : List Addr), PG (X.blk s H scope (compEnvC scope cl C X.env) fp) tg g)
    (hk : ∀ (s : Shared) (H : Hp) (C : Addr) (cl : List (Str × Addr)) (fp : List Addr), PE (X.blk s H scope (compEnvC scope cl C X.env) fp) kx tk) (hs : ∀ x, foldedSetIterable iter X.env x = pure x)
    (h : tDcN X.prog X.w wi g tk (own.map (·.2)) σ H Q)
    (hRR : ∀ D C s' m H', Inv X pins σ H' s' → Q (.ref D) H' → s'.heap.Ns C m → FpOk X pins H' C → compPost (model X.prog X.w) X.A X.xe use Qf (.ref D) C (.ok .next) s') :
    wpAny (model X.prog X.w) X.A (comprehension (.DictComp kx (.Constant (.bool true) j0 p0) [⟨tg, iter, [], 0⟩] scope pos) scope X.env pos' newDict false (eval iter X.env) use) Qf X.xe s := by
  have free : ∀ y ∈ scope.names, y.2 = .free → ∃ c, X.env.cells.lookup y.1 = some c := fun y hy e => (ok.free y hy e).elim (fun z => I.ok.has _ (.inl z)) fun z => I.ok.has _ (.inr z)
  refine wpAny_comprehension_free (use := use) rfl hs (closure_ok free) ok.kind (fun y hy e => by rw [ok.uniq y hy, e]) (thn (hi.run pins s σ H _ I h) fun xv s1 hx => thn hx fun itv s2 h2 => ?_)
  obtain ⟨it, fp, tn, J, H2, e, I2, T, st2, f2, q⟩ := h2
  subst e
  refine wpAny_newObj_type (newEnv_comp ?_)
  generalize hD : s2.heap.objs.size = D
  have hDn : H2 D = none := I2.hok.fresh (Nat.le_of_eq hD)
  have hlow : (D == sysModules) = false := beq_eq_false_iff_ne.mpr (by rw [← hD]; exact Ne.symm (Nat.ne_of_lt I2.big))
  obtain ⟨W, ⟨m0, w0⟩, turn⟩ := q D (RawO D #[] 0) hDn (kd_new' hlow ⟨_, by rw [← hD]; exact raw_new s2.heap⟩)
  generalize hs3 : ({ s2 with heap := s2.heap.push { cls := .type "dict", data := .dict #[] } } : Shared) = s3
  have h3 : s3.heap = s2.heap.push { cls := .type "dict", data := .dict #[] } := by rw [← hs3]
  have I3 : Inv X pins σ (upd H2 D (RawO D #[] 0)) s3 := by
    rw [← hs3]
    refine I2.laid (t' := s2.toks) (fun b o e => Heap.get?_push_of_some _ e) (Nat.le_of_eq hD) (raw_ok ?_)
    rw [← hD]
    exact raw_new s2.heap
  have sz : ∀ b ∈ fp, b < s2.heap.objs.size := fun b hb => by
    obtain ⟨o, e, _⟩ := T.obj _ _ st2 b hb
    exact Heap.lt_size e
  have f3 : ∀ b ∈ fp, FpOk X pins (upd H2 D (RawO D #[] 0)) b ∧ b < s3.heap.objs.size := fun b hb => by
    have hlt := sz b hb
    refine ⟨⟨?_, (f2 b hb).2⟩, by rw [h3, Heap.size_push]; exact Nat.lt_succ_of_lt hlt⟩
    rw [upd_ne (by rw [← hD]; exact Nat.ne_of_lt hlt)]
    exact (f2 b hb).1
  have st3 : tn 0 s3.heap := T.keep _ _ _ st2 fun b _ o e => by rw [h3]; exact Heap.get?_push_of_some _ e
  have I4 := block_start I3 ok hN f3
  have pg := hg s3 (upd H2 D (RawO D #[] 0)) s3.heap.objs.size (cellsFrom (s3.heap.objs.size + 1) scope.names (cloFrom X.env.cells scope.names [])) fp
  have pk := hk s3 (upd H2 D (RawO D #[] 0)) s3.heap.objs.size (cellsFrom (s3.heap.objs.size + 1) scope.names (cloFrom X.env.cells scope.names [])) fp
  show codeAny _ _ (.compStart (.DictComp kx (.Constant (.bool true) j0 p0) [⟨tg, iter, [], 0⟩] scope pos) 0 (.ref it) (.ref D) (compEnvC scope (cellsFrom (s3.heap.objs.size + 1) scope.names (cloFrom X.env.cells scope.names [])) s3.heap.objs.size X.env))
    (compPost (model X.prog X.w) X.A X.xe use Qf (.ref D) s3.heap.objs.size) { s3 with heap := pushCells (s3.heap.push { cls := .type "dict", data := .dict #[] }) scope.names }
  have nfp : ∀ b ∈ fp, (upd H2 D (RawO D #[] 0)) b = none := fun b hb => (f3 b hb).1.1
  generalize hce : compEnvC scope (cellsFrom (s3.heap.objs.size + 1) scope.names (cloFrom X.env.cells scope.names [])) s3.heap.objs.size X.env = ce at I4 pg pk ⊢
  have cL : ce.locals = s3.heap.objs.size := by subst hce; rfl
  generalize hH3 : upd H2 D (RawO D #[] 0) = H3 at I3 I4 pg pk w0 nfp f3
  generalize hs4 : ({ s3 with heap := pushCells (s3.heap.push { cls := .type "dict", data := .dict #[] }) scope.names } : Shared) = s4 at I4 ⊢
  have st4 : tn 0 s4.heap := T.keep _ _ _ st3 fun b _ o e => by rw [← hs4]; exact pushCells_keeps _ _ _ _ (Heap.get?_push_of_some _ e)
  have stat : ∀ {σ' : L2.St} {H' : Hp} {s' : Shared}, Inv (X.blk s3 H3 scope ce fp) [] σ' H' s' → (∀ b ∈ fp, H' b = none) → ∀ b ∈ fp, FpOk (X.blk s3 H3 scope ce fp) [] H' b := fun {σ' H' s'} I' hn b hb =>
    ⟨hn b hb, (I'.ok.exf b hb).1, I'.ok.exfs b hb, .inl hb, fun x c e => (I'.ok.exf b hb).2 x c e, fun p hp => absurd (show p ∈ ([] : List (Addr × Obj)) ++ [] from hp) (by simp)⟩
  have loop : codeAny (model X.prog X.w) X.A (.compLoop (.DictComp kx (.Constant (.bool true) j0 p0) [⟨tg, iter, [], 0⟩] scope pos) 0 (.ref it) (.ref D) ce) (compPost (model X.prog X.w) X.A X.xe use Qf (.ref D) s3.heap.objs.size) s4 := by
    refine compLoop_anyD (fun n s' => ∃ i H', Inv (X.blk s3 H3 scope ce fp) [] (wipe σ (own.map (·.2))) H' s' ∧ tn i s'.heap ∧ (∀ b ∈ fp, H' b = none) ∧ W i n H') ?_ m0 ⟨0, H3, I4, st4, nfp, w0⟩
    rintro n s5 ⟨i, H5, I5, st5, n5, w5⟩
    rcases turn i n H5 w5 with ⟨stop, qq⟩ | ⟨go, Nx, hNx, step⟩
    · refine thnF (T.done (X.blk s3 H3 scope ce fp) rfl rfl rfl hc i [] s5 _ H5 (fun _ _ => False) I5 (stat I5 n5) st5 stop) fun r s6 ⟨hr, I6⟩ => ?_
      subst hr
      have I7 : Inv X pins σ H5 s6 := I3.call' (ch := fp) I6.os I6.base I6.hok I6.bare fun b hb => ⟨(f3 b hb).1.2.2.2.1, (f3 b hb).1.2.1, (f3 b hb).1.2.2.2.2.1, (f3 b hb).1.2.2.2.2.2⟩
      have nC : H5 s3.heap.objs.size = none := by
        have z : H5 ce.locals = none := I6.free
        rw [cL] at z
        exact z
      obtain ⟨m, hn, _⟩ := I6.loc
      have hn : s6.heap.Ns ce.locals m := hn
      rw [cL] at hn
      exact hRR D s3.heap.objs.size s6 m H5 I7 qq hn (I3.fpOk (Nat.le_refl _) nC)
    · refine thnF (T.item (X.blk s3 H3 scope ce fp) rfl rfl rfl hc i [] s5 _ H5 (fun _ _ => False) I5 (stat I5 n5) st5 go) fun r s6 ⟨u, hr, h6⟩ => ?_
      subst hr
      refine thnF h6 fun _ s7 ⟨x, H7, I7, r7, y7, st7, n7⟩ => ?_
      have I7' := I7.pinned (stat I7 n7) (T.obj _ _ st7)
      refine thnF (pg.run _ s7 _ H7 x u _ I7' r7 (step x H7 y7)) fun _ s8 ⟨σ8, H8, I8, hw8, q8⟩ => ?_
      have fin : ∀ {s' : Shared} {H' : Hp}, Inv (X.blk s3 H3 scope ce fp) ([] ++ pinsAt fp s7.heap) σ8 H' s' → Nx H' → ∃ m, m < n ∧ ∃ i H', Inv (X.blk s3 H3 scope ce fp) [] (wipe σ (own.map (·.2))) H' s' ∧ tn i s'.heap ∧ (∀ b ∈ fp, H' b = none) ∧ W i m H' := fun {s' H'} I' nx => by
        obtain ⟨m', hm, w'⟩ := hNx H' nx
        have pin' : ∀ b ∈ fp, ∀ o, s7.heap.get? b = some o → s'.heap.get? b = some o ∧ H' b = none := fun b hb o e =>
          let z := I'.pin (b, o) (List.mem_append_right _ (List.mem_append_right _ (mem_pinsAt hb e)))
          ⟨z.1, z.2.1⟩
        have hl : (wipe σ (own.map (·.2))).length = σ8.length := by rw [← hw8, wipe_length]
        refine ⟨m', hm, i + 1, H', (I'.unpinned (pins := [])).weak hl (fun j v e => ?_), T.keep _ _ _ st7 fun b hb o e => (pin' b hb o e).1, fun b hb => ?_, w'⟩
        · rw [← hw8] at e
          exact (wipe_some e).1
        · obtain ⟨o, e, _⟩ := T.obj _ _ st7 b hb
          exact (pin' b hb o e).2
      refine wpAny_tests_nil ?_
      show wpAny _ _ _ _ _ _
      refine thnF (pk.run _ s8 σ8 H8 _ I8 q8) fun z s10 ⟨yk, H10, I10, r10, l, ts, t1, t2, t3, t4, nx⟩ => ?_
      refine Constant_bool ?_
      exact set_KD (X := X.blk s3 H3 scope ce fp) hu I10 t1 t2 t3 t4 r10 nx fun s12 ⟨H12, I12, n12⟩ => fin I12 n12
  exact codeAny_compStart_dict loop (T.self X.A 0 _ _ _ st4 loop)
theorem pe_dcN {kx tg iter : Expr} {j0 : Nat} {p0 : Pos} {scope : Scope} {own : List (Str × Nat)} {pos : Pos} {wi : TI} {g : TG} {tk : TE} {P : Program} {w : World} (hP : X.prog = P) (hw : X.w = w) (hu : X.A.units + 65 < cLine) (hc : X.calm = true) (hN : X.N.Nodup) (hi : PI X tg iter wi) (ok : BlkOk X.N X.env.scope scope own)
    (hg : ∀ (s : Shared) (H : Hp) (C : Addr) (cl : List (Str × Addr)) (fp : List Addr), PG (X.blk s H scope (compEnvC scope cl C X.env) fp) tg g)
    (hk : ∀ (s : Shared) (H : Hp) (C : Addr) (cl : List (Str × Addr)) (fp : List Addr), PE (X.blk s H scope (compEnvC scope cl C X.env) fp) kx tk) (hs : ∀ x, foldedSetIterable iter X.env x = pure x := by intro _; rfl) :
    PE X (.DictComp kx (.Constant (.bool true) j0 p0) [⟨tg, iter, [], 0⟩] scope pos) (tDcN P w wi g tk (own.map (·.2))) := by
  subst hP hw
  refine ⟨fun pins s σ H Q I h => ?_⟩
  rw [arm_eval_DictComp]
  refine dcN_core hu hc hN I hi ok hg hk hs h fun D C s' m H' I' q hn f => ⟨m, hn, fun h'' sb => ?_⟩
  obtain ⟨f0, f1, f2, f3, f4, f5⟩ := f
  exact ⟨.ref D, H', I'.turned (t' := s'.toks) (fun b o hb e => (sb.2 b hb).trans e) f0 f1 f3 f4 f5, rfl, q⟩
end
end Aw

/-! R4: min(xs, key=lambda a: ..): one of the items (which of them is left open). -/
namespace Aw
open PySem PySem.Spec PyProof.Rows L2
open C8 (Cal pe_c)
open LamX (CodeO TabS Tabs ExtN TabB lamEnv lam_make2)

/-! ### a lambda of one parameter -/
structure LamS1 (sc scope : Scope) (a : Str) : Prop where
  kind : scope.kind = .function
  co : scope.isCoroutine = false
  gen : scope.isGenerator = false
  nocell : ∀ y ∈ scope.names, y.2 ≠ .cell
  own : ∀ y ∈ scope.names, y.2 = .local → y.1 = a
  par : scope.names.lookup a = some .local
  free : ∀ y ∈ scope.names, y.2 = .free → sc.names.lookup y.1 = some .cell ∨ sc.names.lookup y.1 = some .free
def lamS1B (sc scope : Scope) (a : Str) : Bool :=
  decide (scope.kind = .function) && !scope.isCoroutine && !scope.isGenerator && (scope.names.all fun y => !decide (y.2 = .cell) && (!decide (y.2 = .local) || decide (y.1 = a)) && (!decide (y.2 = .free) || decide (sc.names.lookup y.1 = some .cell) || decide (sc.names.lookup y.1 = some .free))) && decide (scope.names.lookup a = some .local)
theorem lamS1_by {sc scope : Scope} {a : Str} (h : lamS1B sc scope a = true) : LamS1 sc scope a := by
  unfold lamS1B at h
  simp only [Bool.and_eq_true, Bool.or_eq_true, Bool.not_eq_true', decide_eq_true_eq, decide_eq_false_iff_not, List.all_eq_true] at h
  obtain ⟨⟨⟨⟨h1, h2⟩, h3⟩, h4⟩, h5⟩ := h
  refine ⟨h1, h2, h3, fun y hy => (h4 y hy).1.1, fun y hy e => ?_, h5, fun y hy e => ?_⟩
  · exact (h4 y hy).1.2.resolve_left fun z => z e
  · rcases (h4 y hy).2 with (z | z) | z
    · exact absurd e z
    · exact .inl z
    · exact .inr z
theorem LamS1.has {X : Cx} {scope : Scope} {a : Str} (L : LamS1 X.env.scope scope a) (ok : X.Ok) : ∀ y ∈ scope.names, y.2 = .free → ∃ c, X.env.cells.lookup y.1 = some c := fun y hy e =>
  (L.free y hy e).elim (fun k => ok.has _ (.inl k)) fun k => ok.has _ (.inr k)
/-- the lambda's body, entered at s -/
def lamC (X : Cx) (A : Around) (s : Shared) (H : Hp) (scope : Scope) (f c' : Addr) : Cx where
  prog := X.prog
  w := X.w
  K := X.K
  mg := X.mg
  base := X.base
  A := A.deeper (lamEnv X scope s.heap.objs.size f c')
  N := X.N
  s_0 := s
  H_0 := H
  env := lamEnv X scope s.heap.objs.size f c'
  outer := X.stack
  stack := lamEnv X scope s.heap.objs.size f c' :: X.stack
  ex := []
  fn := fun _ => false
  calm := true
  pn := []
  xe := fun _ _ => False
section
variable {X : Cx} {pins : List (Addr × Obj)} {σ : L2.St} {H : Hp} {s : Shared} {A : Around}
theorem lam_start1 {scope : Scope} {f c' : Addr} {h₁ : Heap} {tk i : Nat} {a : Str} {v : V} {u : Value} (I : Inv X pins σ H s) (L : LamS1 X.env.scope scope a) (hA : A.frames = some X.stack) (hd : A.handled = none) (hN : X.N.Nodup) (hi : X.N[i]? = some a) (r : L2.RelV v u)
    (hns : h₁.Ns s.heap.objs.size fun y => ([(a, u)] : List (Str × Value)).reverse.lookup y) (kp : ∀ b o, s.heap.get? b = some o → h₁.get? b = some o) :
    Inv (lamC X A s H scope f c') [] (σ.set i (some v)) H { s with heap := h₁, toks := tk } := by
  have e0 := I.env0
  have hfree := L.has I.ok
  have cm : ∀ {y c}, (cloFrom X.env.cells scope.names []).lookup y = some c → X.env.cells.lookup y = some c := fun {y c} e => by
    rcases cloFrom_mem (PySem.mem_of_lookup e) with hm | ⟨h1, h2⟩
    · cases hm
    · obtain ⟨c1, hc⟩ := hfree _ h1 rfl
      have hc : X.env.cells.lookup y = some c1 := hc
      have e2 : c = c1 := by
        rw [h2, hc] <;> rfl
      rw [e2]
      exact hc
  have look : ∀ {y}, scope.names.lookup y = some .free → ∃ c, (cloFrom X.env.cells scope.names []).lookup y = some c := fun {y} hl =>
    mem_lookup (cloFrom_has (cells := X.env.cells) (acc := []) (show (y, NameKind.free) ∈ scope.names from PySem.mem_of_lookup hl))
  have cellK : ∀ {c : Addr} {v : Option Value}, s.heap.IsCell c v → h₁.IsCell c v := fun {c v} ⟨o, ho, hd⟩ => ⟨o, kp _ _ ho, hd⟩
  have noA : ∀ b : Addr, b ∉ (lamC X A s H scope f c').ex := fun b z => absurd (show b ∈ ([] : List Addr) from z) (by simp)
  have hiσ : i < σ.length := by
    rw [I.len]
    exact (List.getElem?_eq_some_iff.mp hi).1
  refine ⟨⟨e0.mod, L.kind, rfl, rfl, Nat.le_refl _, fun y z c e1 e2 => I.ok.inj y z c (cm e1) (cm e2), fun y hy => ?_, fun y c z _ => ?_, fun _ => hd, Around.frames_deeper hA, .inr ⟨rfl, rfl⟩, fun b z => absurd z (noA b), e0.bs, e0.bsz, fun b _ _ => noA b,
      fun b z => absurd z (noA b), e0.funs, e0.frf⟩,
    rfl, e0.bare, Un.kept kp, ⟨_, hns, fun j y z e1 e2 e3 => ?_⟩, fun y c e => ?_, e0.hok.fresh (Nat.le_refl _), fun y c e => ?_, fun q hq => absurd (show q ∈ ([] : List (Addr × Obj)) ++ [] from hq) (by simp), e0.hok.kept kp, by rw [List.length_set]; exact I.len⟩
  · have hy : scope.names.lookup y = some .cell ∨ scope.names.lookup y = some .free := hy
    rcases hy with hy | hy
    · exact absurd rfl (L.nocell _ (PySem.mem_of_lookup hy))
    · exact look hy
  · have z : false = true := z
    cases z
  · have e3 : Vis scope y := e3
    rcases e3 with k | k | k
    · have ey : y = a := L.own _ (PySem.mem_of_lookup k) rfl
      subst ey
      have ej : j = i := nodup_ix hN e1 hi
      subst ej
      rw [List.getElem?_set_self hiσ] at e2
      have e4 : v = z := Option.some.inj (Option.some.inj e2)
      subst e4
      refine ⟨u, r, .inl ⟨k, ?_⟩⟩
      show List.lookup y [(y, u)] = some u
      rw [List.lookup_cons, beq_self_eq_true]
    · exact absurd rfl (L.nocell _ (PySem.mem_of_lookup k))
    · have hne : j ≠ i := fun z => by
        subst z
        have e1' : X.N[j]? = some y := e1
        rw [hi] at e1'
        have ea : a = y := Option.some.inj e1'
        rw [← ea, L.par] at k
        cases k
      rw [List.getElem?_set_ne hne.symm] at e2
      obtain ⟨m, hn, hl⟩ := I.loc
      have hvis : Vis X.env.scope y := (L.free _ (PySem.mem_of_lookup k) rfl).elim (fun k => .inr (.inl k)) (fun k => .inr (.inr k))
      obtain ⟨w', r', q⟩ := hl j y z e1 e2 hvis
      obtain ⟨c2, h2⟩ := look k
      refine ⟨w', r', .inr ⟨.inr k, c2, h2, ?_⟩⟩
      have c1 := cm h2
      rcases q with ⟨k', _⟩ | ⟨_, c3, e', z⟩
      · have k' : X.env.scope.names.lookup y = some .local := k'
        rcases L.free _ (PySem.mem_of_lookup k) rfl with k2 | k2 <;> rw [show X.env.scope.names.lookup y = _ from k2] at k' <;> cases k'
      · rw [c1] at e'
        cases e'
        exact cellK z
  · obtain ⟨w', z⟩ := I.cell y c (cm e)
    exact ⟨w', cellK z⟩
  · exact I.freeC y c (cm e)
/-- a call of the lambda, from around A -/
theorem call_lam {scope : Scope} {params : Arguments} {body : Expr} {f c' : Addr} {pm ctv : Value} {i k : Nat} {a : Str} {v : V} {u : Value} {tb : TE} {Q : VK} (hr : Room (k + 1) A) (hA : A.frames = some X.stack) (I : Inv X pins σ H s) (L : LamS1 X.env.scope scope a) (hN : X.N.Nodup) (hi : X.N[i]? = some a) (r : L2.RelV v u)
    (hf : s.heap.get? f = some (PySem.W.kla_obj "<lambda>" (X.env.qual ++ "<lambda>") params body scope (cloFrom X.env.cells scope.names []) pm c' ctv)) (hc : H c' = some (CodeO c' (X.env.qual ++ "<lambda>")))
    (hbind : bindArgs (PySem.W.kla_fn "<lambda>" (X.env.qual ++ "<lambda>") params body scope (cloFrom X.env.cells scope.names []) pm (.ref c') ctv) ⟨[u], []⟩ = pure [(a, u)])
    (hbody : ∀ (s : Shared) (H : Hp), Room k (A.deeper (lamEnv X scope s.heap.objs.size f c')) → PE (lamC X A s H scope f c') body tb) (ht : tb (σ.set i (some v)) H Q) :
    wpAny (model X.prog X.w) A (call (.ref f) [u]) (fun x s' => ∃ w H', Inv X pins σ H' s' ∧ Un (frs X.stack) [] H H' s.heap s'.heap ∧ L2.RelV w x ∧ Q w H') (fun _ _ => False) s := by
  obtain ⟨⟨oc, vs, t, hoc, hdc, hvc⟩, _, _⟩ := I.hok c' _ hc
  have rc : codeAny (model X.prog X.w) A (.call (.ref f) ⟨[u], []⟩) (fun r s' => match r with
      | .ok (.ret x) => ∃ w H', Inv X pins σ H' s' ∧ Un (frs X.stack) [] H H' s.heap s'.heap ∧ L2.RelV w x ∧ Q w H'
      | _ => False) s := by
    refine PySem.W.kla_callFunE hr.depth hf rfl L.co L.gen rfl ⟨c', oc, vs, t, rfl, hoc, hdc, hvc⟩ ?_
    rw [hbind]
    refine wpAny_pure (wpAny_newFunctionEnv (fun y hy => L.nocell y hy) (fun y hy => ?_) (fun h₁ hns hsb => ⟨I.nolimit.fresh _ hsb, ?_⟩) L.kind)
    · rw [List.mem_singleton] at hy
      subst hy
      exact L.par
    · show codeAny _ _ (.expr body (lamEnv X scope s.heap.objs.size f c')) _ _
      have kp : ∀ b o, s.heap.get? b = some o → h₁.get? b = some o := fun b o e => hsb.extBut b o (Nat.ne_of_lt (Heap.lt_size e)) (Heap.get?_push_of_some _ e)
      have J := lam_start1 (f := f) (c' := c') (tk := s.toks + ([(a, u)] : List (Str × Value)).length) I L hA hr.hd hN hi r hns kp
      refine PySem.W.kla_codeExpr (wpAny_mono ((hbody s H (hr.deeper _)).run [] _ _ H Q J ht) (fun v s' hq => ?_) fun e s' hq => False.elim hq)
      obtain ⟨w', H', J', rv, q⟩ := hq
      exact ⟨w', H', I.call' (ch := []) J'.os J'.base J'.hok J'.bare (fun b hb => by cases hb), J'.base, rv, q⟩
  refine wpAny_call (codeAny_mono rc fun r s' hq => ?_)
  cases r with
  | error e => exact hq
  | ok fl =>
    cases fl with
    | ret u => exact hq
    | next => exact hq
    | brk => exact hq
    | cont => exact hq
end
end Aw

/-! R5: min(xs, key=lambda a: ..). -/
namespace Aw
open PySem PySem.Spec PyProof.Rows L2
open C8 (Cal pe_c)
open LamX (CodeO TabS Tabs ExtN TabB lamEnv lam_make2)
section
variable {X : Cx} {pins : List (Addr × Obj)} {σ : L2.St} {H1 : Hp} {l : Addr} {xs : List V} {q : Value}
/-- a key's call: a number, and what was there stays -/
def KeyN (X : Cx) (pins : List (Addr × Obj)) (σ : L2.St) (H1 : Hp) (xs : List V) (q : Value) : Prop :=
  ∀ v ∈ xs, ∀ (u : Value) (s : Shared) (H : Hp), L2.RelV v u → Inv X pins σ H s → Same H1 H → wpAny (model X.prog X.w) X.A.in1 (call q [u]) (fun x s' => ∃ n t H', x = .int n t ∧ Inv X pins σ H' s' ∧ Un (frs X.stack) [] H H' s.heap s'.heap ∧ Same H H') (fun _ _ => False) s
theorem fp_nf {b : Addr} {s : Shared} {H : Hp} (I : Inv X pins σ H s) (f : FpOk X pins H b) : b ∉ frs X.stack := fun hb => by
  rcases List.mem_cons.mp (I.stkSub _ hb) with e | e
  · exact f.2.1 e
  · exact f.2.2.1 e
/-- a temporary object through a call -/
theorem fp_call {b : Addr} {o : Obj} {s s' : Shared} {H H' : Hp} (I : Inv X pins σ H s) (f : FpOk X pins H b) (ho : s.heap.get? b = some o) (u : Un (frs X.stack) [] H H' s.heap s'.heap) : s'.heap.get? b = some o ∧ FpOk X pins H' b :=
  ⟨u.keep b o ho f.1 (fp_nf I f) (by simp), u.free b o ho f.1 (by simp), f.2⟩
theorem vals_get_v : ∀ {xs : List V} {us : List Value} {i : Nat} {u : Value}, Vals xs us → us[i]? = some u → ∃ x, xs[i]? = some x ∧ L2.RelV x u
  | _, _, _, _, .nil, h => by simp at h
  | _, _, 0, _, .cons h r, e => ⟨_, rfl, by cases e; exact h⟩
  | _, _, i + 1, _, .cons h r, e => vals_get_v (i := i) r (by simpa using e)
theorem min_loop {I S f : Addr} {R : Result → Shared → Prop} (hl : H1 l = some (.lst xs)) (hlI : l ≠ I) (hSI : S ≠ I) (hlS : l ≠ S) (turn : KeyN X pins σ H1 xs (.ref f))
    (hR : ∀ v ∈ xs, ∀ (vb : Value) (s' : Shared) (H' : Hp), L2.RelV v vb → Inv X pins σ H' s' → Same H1 H' → R (.ok (.ret vb)) s') (hh : X.A.handled = none) :
    ∀ (r j : Nat) (s : Shared) (H : Hp) (vb : Value) (k : Int) (tb : Tok) (c : Nat), xs.length - (j + 1) = r → j + 1 ≤ xs.length → Inv X pins σ H s → Same H1 H → FpOk X pins H I → FpOk X pins H S → s.heap.get? S = some (seqObj "list" #[vb, .int k tb] c) →
      s.heap.IsListIter I l (j + 1) → (∃ v ∈ xs, L2.RelV v vb) → codeAny (model X.prog X.w) X.A (.builtin "min.loop" ⟨[.ref I, .ref f, .ref S], []⟩) R s := by
  have hname : (toString "min" ++ toString ".loop" : String) = "min.loop" := by decide
  intro r
  induction r with
  | zero =>
    intro j s H vb k tb c hr hj J e fI fS hS hit hb
    obtain ⟨its, rv, hl', hz⟩ := J.list (SqL.of (K := X.K) (e _ _ hl))
    have W := Walks.list (prog := X.prog) (w := X.w) (A := X.A.in1) hh I l hlI its.toArray
    have hsz : its.toArray.size = xs.length := by rw [List.size_toArray]; exact rv.length.symm
    have hin : j + 1 = xs.length := by omega
    refine codeAny_builtin PySem.F.entry_min_loop ?_
    rw [Around.under_plainId PySem.F.plain_min_loop _]
    show wpAny _ X.A.in1 (seqItems? (.ref S) >>= _) _ _ _
    refine wpAny_bind (wpAny_seqItems hS rfl ?_)
    show wpAny _ X.A.in1 (tryCatch (pyNext (.ref I)) _ >>= _) _ _ _
    refine wpAny_bind (wpAny_tryCatch (W.done _ _ _ ⟨by rw [hsz, ← hin]; exact hit, hl'.isList⟩ fun h' tk' hk' => ?_))
    have hS' := hk' S _ (by simpa using hSI) hS
    have s1 := Heap.SameBut.update h' S (Obj.mapSeq fun _ => (#[] : Array Value))
    show wpAny _ X.A.in1 (updateSeq S (fun _ => #[]) >>= _) _ _ _
    refine wpAny_bind ?_
    refine wpAny_updateSeq hS' rfl (wpAny_bind (wpAny_letGo (wpAny_pure ?_)))
    obtain ⟨v, hv, rv⟩ := hb
    refine hR v hv vb _ H rv (J.turnedL (s := s) (h' := h'.update S (Obj.mapSeq fun _ => (#[] : Array Value))) (t' := tk') (ch := [I, S]) (fun b o hb e => ?_) fun b hb => ?_) e
    · simp only [List.mem_cons, List.not_mem_nil, or_false, not_or] at hb
      exact (s1.2 b hb.2).trans (hk' b o (by simpa using hb.1) e)
    · simp only [List.mem_cons, List.not_mem_nil, or_false] at hb
      rcases hb with rfl | rfl
      · exact fI
      · exact fS
  | succ r ih =>
    intro j s H vb k tb c hr hj J e fI fS hS hit hb
    obtain ⟨its, rv, hl', hz⟩ := J.list (SqL.of (K := X.K) (e _ _ hl))
    have W := Walks.list (prog := X.prog) (w := X.w) (A := X.A.in1) hh I l hlI its.toArray
    have hsz : its.toArray.size = xs.length := by rw [List.size_toArray]; exact rv.length.symm
    have hlt : j + 1 < xs.length := by omega
    refine codeAny_builtin PySem.F.entry_min_loop ?_
    rw [Around.under_plainId PySem.F.plain_min_loop _]
    show wpAny _ X.A.in1 (seqItems? (.ref S) >>= _) _ _ _
    refine wpAny_bind (wpAny_seqItems hS rfl ?_)
    show wpAny _ X.A.in1 (tryCatch (pyNext (.ref I)) _ >>= _) _ _ _
    refine wpAny_bind (wpAny_tryCatch (W.item (j + 1) _ _ _ (by rw [hsz]; exact hlt) ⟨hit, hl'.isList⟩ fun v h' tk' hP hst' hk' => ?_))
    have hv : its[j + 1]? = some v := by simpa using hP
    obtain ⟨x, hx, rx⟩ : ∃ x ∈ xs, L2.RelV x v := by
      obtain ⟨x, h1, h2⟩ := vals_get_v rv hv
      exact ⟨x, List.mem_of_getElem? h1, h2⟩
    have hS' := hk' S _ (by simpa using hSI) hS
    obtain ⟨oI', hoI', hoc, hod⟩ := id hst'.1
    have J1 : Inv X pins σ H { s with heap := h', toks := tk' } := J.turned (it := I) (fun b o hb e => hk' b o (by simpa using hb) e) fI.1 fI.2.1 fI.2.2.2.1 fI.2.2.2.2.1 fI.2.2.2.2.2
    show wpAny _ X.A.in1 (tryCatch (holding [v] (call (.ref f) [v])) _ >>= _) _ _ _
    refine wpAny_bind (wpAny_tryCatch (wpAny_holding (wpAny_mono (turn x hx v _ H rx J1 e) (fun y s'' he => ?_) fun _ _ hF => hF.elim)))
    obtain ⟨n, t2, H2, rfl, J2, u2, e2⟩ := he
    obtain ⟨hI2, fI2⟩ := fp_call J1 fI hoI' u2
    obtain ⟨hS2, fS2⟩ := fp_call J1 fS hS' u2
    have hit2 : s''.heap.IsListIter I l (j + 1 + 1) := ⟨oI', hI2, hoc, hod⟩
    show wpAny _ X.A.in1 (tryCatch (holding [v, .int n t2] (richCompare .Lt (.int n t2) (.int k tb) >>= _)) _ >>= _) _ _ _
    refine wpAny_bind (wpAny_tryCatch (wpAny_holding (wpAny_bind (CmpOf.ints_lt (prog := X.prog) (w := X.w) (A := X.A.in1) (P := fun i v => ∃ t, v = .int (if i = 0 then n else k) t) (fun i => if i = 0 then n else k) (fun i v h => h) 0 1 _ _ _ _ _ ⟨t2, rfl⟩ ⟨tb, rfl⟩ ?_))))
    refine wpAny_bind (wpAny_holding (wpAny_truthy_bool ?_))
    refine wpAny_bind (wpAny_letGo (wpAny_pure ?_))
    show wpAny _ _ (if decide (n < k) = true then _ else _) _ _ _
    by_cases hb' : n < k
    · have s1 := Heap.SameBut.update s''.heap S (Obj.mapSeq fun _ => #[v, .int n t2])
      obtain ⟨c2, hc2⟩ : ∃ c2, (s''.heap.update S (Obj.mapSeq fun _ => #[v, .int n t2])).get? S = some (seqObj "list" #[v, .int n t2] c2) := ⟨_, get?_update_seq hS2 fun _ => #[v, .int n t2]⟩
      rw [if_pos (decide_eq_true hb')]
      refine wpAny_bind ?_
      refine wpAny_updateSeq hS2 rfl (wpAny_bind (wpAny_letGo ?_))
      rw [hname]
      refine wpAny_pure ⟨plainId_quiet PySem.F.plain_min_loop _, ih (j + 1) _ H2 v n t2 c2 (by omega) hlt (J2.turned (it := S) (fun b o hb e => (s1.2 b hb).trans e) fS2.1 fS2.2.1 fS2.2.2.2.1 fS2.2.2.2.2.1 fS2.2.2.2.2.2) (e.trans e2) fI2 fS2 hc2 ⟨oI', (s1.2 I hSI.symm).trans hI2, hoc, hod⟩ ⟨x, hx, rx⟩⟩
    · rw [if_neg (fun z => hb' (of_decide_eq_true z))]
      refine wpAny_bind (wpAny_letGo ?_)
      rw [hname]
      exact wpAny_pure ⟨plainId_quiet PySem.F.plain_min_loop _, ih (j + 1) _ H2 vb k tb c (by omega) hlt J2 (e.trans e2) fI2 fS2 hS2 hit2 hb⟩
theorem min_key {s : Shared} {E : Value → Shared → Prop} {Q : VK} {f : Addr} (I0 : Inv X pins σ H1 s) (hl : H1 l = some (.lst xs)) (hne : xs ≠ []) (turn : KeyN X pins σ H1 xs (.ref f)) (hh : X.A.handled = none)
    (hQ : ∀ v ∈ xs, ∀ H', Same H1 H' → Q v H') : wpAny (model X.prog X.w) X.A (call (.builtin "min") [.ref l] [(Str.ofString "key", .ref f)]) (EP X pins σ Q) E s := by
  have hname : (toString "min" ++ toString ".loop" : String) = "min.loop" := by decide
  obtain ⟨its, rv, hls, hz⟩ := I0.list (SqL.of (K := X.K) hl)
  obtain ⟨ol, hol, _⟩ := id hls.isList
  have hll : l < s.heap.objs.size := Heap.lt_size hol
  refine kmk_tree PySem.F.kind_min PySem.F.plain_min PySem.F.entry_min (kmk_min_key _ _) ?_
  show wpAny _ X.A.in1 (Builtin.Builtins.bindParams "min" ["key", "default"] 0 ⟨[], [(Str.ofString "key", .ref f)]⟩ >>= _) _ _ s
  refine wpAny_bind (wpAny_of_eq (show Builtin.Builtins.bindParams "min" ["key", "default"] 0 ⟨[], [(Str.ofString "key", .ref f)]⟩ = pure [some (.ref f), none] from rfl) ?_)
  refine wpAny_bind (wpAny_pure ?_)
  refine wpAny_bind (wpAny_pyIter_list hls.isList ?_)
  refine wpAny_bind (wpAny_newList ?_ (Nat.zero_le _))
  rw [hname]
  generalize hS : (s.heap.push { cls := .type "list_iterator", data := .fields #[.ref l, .int 0 0] }).objs.size = S
  have hS1 : S = s.heap.objs.size + 1 := by rw [← hS, size_push']
  have hlI : l ≠ s.heap.objs.size := Nat.ne_of_lt hll
  have hSI : S ≠ s.heap.objs.size := by rw [hS1]; exact Nat.ne_of_gt (Nat.lt_succ_self _)
  have hlS : l ≠ S := by rw [hS1]; exact Nat.ne_of_lt (Nat.lt_succ_of_lt hll)
  refine wpAny_pure ⟨plainId_quiet PySem.F.plain_min_loop _, ?_⟩
  have fI : FpOk X pins H1 s.heap.objs.size := I0.fpOk (Nat.le_refl _) (I0.hok.fresh (Nat.le_refl _))
  have fS : FpOk X pins H1 S := I0.fpOk (by rw [hS1]; exact Nat.le_succ _) (I0.hok.fresh (by rw [hS1]; exact Nat.le_succ _))
  have gI : ((s.heap.push { cls := .type "list_iterator", data := .fields #[.ref l, .int 0 0] }).push (seqObj "list" #[] 0)).get? s.heap.objs.size = some { cls := .type "list_iterator", data := .fields #[.ref l, .int 0 0] } :=
    Heap.get?_push_of_some _ (Heap.get?_push_size _ rfl)
  have gS : ((s.heap.push { cls := .type "list_iterator", data := .fields #[.ref l, .int 0 0] }).push (seqObj "list" #[] 0)).get? S = some (seqObj "list" #[] 0) := by rw [← hS]; exact Heap.get?_push_size _ rfl
  have J0 : Inv X pins σ H1 { s with heap := (s.heap.push { cls := .type "list_iterator", data := .fields #[.ref l, .int 0 0] }).push (seqObj "list" #[] 0) } := I0.kept (t' := s.toks) fun b u e => Heap.get?_push_of_some _ (Heap.get?_push_of_some _ e)
  obtain ⟨its, rv, hls', hz⟩ := J0.list (SqL.of (K := X.K) hl)
  have W := Walks.list (prog := X.prog) (w := X.w) (A := X.A.in1) hh s.heap.objs.size l hlI its.toArray
  have hsz : its.toArray.size = xs.length := by rw [List.size_toArray]; exact rv.length.symm
  have hpos : 0 < xs.length := List.length_pos_iff.mpr hne
  refine codeAny_builtin PySem.F.entry_min_loop ?_
  rw [Around.under_plainId PySem.F.plain_min_loop _]
  show wpAny _ X.A.in1 (seqItems? (.ref _) >>= _) _ _ _
  refine wpAny_bind (wpAny_seqItems gS rfl ?_)
  show wpAny _ X.A.in1 (tryCatch (pyNext (.ref s.heap.objs.size)) _ >>= _) _ _ _
  refine wpAny_bind (wpAny_tryCatch (W.item 0 _ _ _ (by rw [hsz]; exact hpos) ⟨⟨_, gI, rfl, rfl⟩, hls'.isList⟩ fun v h' tk' hP hst' hk' => ?_))
  have hv : its[0]? = some v := by simpa using hP
  obtain ⟨x, hx, rx⟩ : ∃ x ∈ xs, L2.RelV x v := by
    obtain ⟨x, h1, h2⟩ := vals_get_v rv hv
    exact ⟨x, List.mem_of_getElem? h1, h2⟩
  have hS' := hk' S _ (by simpa using hSI) gS
  obtain ⟨oI', hoI', hoc, hod⟩ := id hst'.1
  have J1 : Inv X pins σ H1 { s with heap := h', toks := tk' } := J0.turned (s := { s with heap := (s.heap.push { cls := .type "list_iterator", data := .fields #[.ref l, .int 0 0] }).push (seqObj "list" #[] 0) }) (h' := h') (t' := tk') (it := s.heap.objs.size) (fun b o hb e => hk' b o (by simpa using hb) e) fI.1 fI.2.1 fI.2.2.2.1 fI.2.2.2.2.1 fI.2.2.2.2.2
  show wpAny _ X.A.in1 (tryCatch (holding [v] (call (.ref f) [v])) _ >>= _) _ _ _
  refine wpAny_bind (wpAny_tryCatch (wpAny_holding (wpAny_mono (turn x hx v _ H1 rx J1 (Same.refl _)) (fun y s'' he => ?_) fun _ _ hF => hF.elim)))
  obtain ⟨n, t2, H2, rfl, J2, u2, e2⟩ := he
  obtain ⟨hI2, fI2⟩ := fp_call J1 fI hoI' u2
  obtain ⟨hS2, fS2⟩ := fp_call J1 fS hS' u2
  have s1 := Heap.SameBut.update s''.heap S (Obj.mapSeq fun _ => #[v, .int n t2])
  obtain ⟨c2, hc2⟩ : ∃ c2, (s''.heap.update S (Obj.mapSeq fun _ => #[v, .int n t2])).get? S = some (seqObj "list" #[v, .int n t2] c2) := ⟨_, get?_update_seq hS2 fun _ => #[v, .int n t2]⟩
  show wpAny _ X.A.in1 (updateSeq S (fun _ => #[v, .int n t2]) >>= _) _ _ _
  refine wpAny_bind ?_
  refine wpAny_updateSeq hS2 rfl ?_
  rw [hname]
  refine wpAny_pure ⟨plainId_quiet PySem.F.plain_min_loop _, min_loop hl hlI hSI hlS turn (fun v hv vb s' H' r J e => ⟨v, H', J, r, hQ v hv H' e⟩) hh _ 0 _ H2 v n t2 c2 rfl hpos (J2.turned (it := S) (fun b o hb e => (s1.2 b hb).trans e) fS2.1 fS2.2.1 fS2.2.2.2.1 fS2.2.2.2.2.1 fS2.2.2.2.2.2) e2 fI2 fS2 hc2 ⟨oI', (s1.2 _ hSI.symm).trans hI2, hoc, hod⟩ ⟨x, hx, rx⟩⟩
end
/-- min(l, key=lambda a: body) -/
def tMinL (T : List (Addr × Str)) (i : Nat) (te : TA) (tb : TE) : TE := fun σ H Q => te σ H fun vs H1 => Tabs T H1 ∧ ∃ l xs, vs = [.ref l] ∧ H1 l = some (.lst xs) ∧ xs ≠ [] ∧
  ∀ H2, ExtN H1 H2 → Tabs T H2 → (∀ v ∈ xs, ∀ H3, Same H2 H3 → tb (σ.set i (some v)) H3 fun w H4 => Same H3 H4 ∧ ∃ n, w = .int n) ∧ ∀ v ∈ xs, ∀ H3, Same H2 H3 → Q v H3
theorem pe_minL {X : Cx} {T : List (Addr × Str)} {c P : Addr} {k i : Nat} {a : Str} {params : Arguments} {body e : Expr} {scope : Scope} {te : TA} {tb : TE} {p lpos pos kpos : Pos} (hg : Gl X "min") (hm : X.mg "min" = none) (he : PA X [e] te)
    (TB : TabB X.base X.mg c P) (hcode : X.env.code = .ref c) (hmT : (P, X.env.qual ++ "<lambda>") ∈ T) (hu : ∀ p ∈ T, p.1 = P → p.2 = X.env.qual ++ "<lambda>") (hr : Room (k + 1) X.A.in1) (hc : X.calm = true) (hN : X.N.Nodup) (hi : X.N[i]? = some a) (L : LamS1 X.env.scope scope a) (hdef : defaultsOf params X.env = ([], [])) (hst : frs X.stack = X.env.locals :: X.fs)
    (hbind : ∀ (q : Str) (cl : List (Str × Addr)) (pm cv ctv u : Value), bindArgs (PySem.W.kla_fn "<lambda>" q params body scope cl pm cv ctv) ⟨[u], []⟩ = pure [(a, u)])
    (hbody : ∀ (s : Shared) (H : Hp) (f c' : Addr), Room k (X.A.in1.deeper (lamEnv X scope s.heap.objs.size f c')) → PE (lamC X X.A.in1 s H scope f c') body tb)
    (hp : backTo pos (starEach [e] X.env) = (false, eval e X.env) :: backTo pos (starEach [] X.env) := by rfl) (hpl : (backTo pos (starEach [e] X.env)).any (·.1) = false := by rfl) :
    PE X (.Call (.Name "min" p) [e] [⟨some "key", .Lambda params body scope lpos, kpos⟩] pos) (tMinL T i te tb) := by
  refine ⟨fun pins s σ H Q I h => ?_⟩
  refine wpAny_Call_Name_kw (ld_blt I hg hm bt_min ?_ (by decide) (by decide))
  refine PyProof.Rows.callWith_kw (thn (he.run pos pins s σ H _ I h) fun us s1 ⟨vs, H1, I1, r1, q1⟩ => ?_) hp hpl rfl rfl
  obtain ⟨hT, l, xs, rfl, hl, hne, q⟩ := q1
  obtain rfl := Vals.ref1 r1
  show wpAny _ _ (evalAll [do let v ← eval (.Lambda params body scope lpos) X.env; standAt pos; pure v]) _ _ _
  refine wpAny_evalAll_cons (wpAny_bind (lam_make2 I1 TB hcode hmT hu hT hdef (L.has I1.ok) fun f c' pm' ctv H2 s2 I2 eN T2 hf hfn hfr hco => ?_))
  refine wpAny_bind (wpAny_standAt (wpAny_pure (wpAny_evalAll_nil ?_)))
  obtain ⟨q1, q2⟩ := q H2 eN T2
  have hh : X.A.handled = none := I.ok.hd hc
  have hnl : f ≠ X.env.locals ∧ f ∉ X.fs := by
    rw [hst] at hfr
    exact ⟨fun z => hfr (by rw [z]; exact List.mem_cons_self), fun z => hfr (List.mem_cons_of_mem _ z)⟩
  have I3 : Inv X (pins ++ [(f, PySem.W.kla_obj "<lambda>" (X.env.qual ++ "<lambda>") params body scope (cloFrom X.env.cells scope.names []) pm' c' ctv)]) σ H2 s2 := I2.pins_of fun p hp => by
    rcases List.mem_append.mp hp with hp | hp
    · exact I2.pin p (List.mem_append_right _ hp)
    · rw [List.mem_singleton.mp hp]
      exact ⟨hf, hfn, hnl.1, hnl.2, fun v z => by cases z⟩
  refine wpAny_mono (min_key (Q := Q) I3 (eN l _ hl fun ps z => by cases z) hne (fun v hv u s H r J e => ?_) hh q2) (fun x s' ⟨v, H', J, r, q⟩ => ⟨v, H', J.unpinned, r, q⟩) fun _ _ h => h
  have hfs : s.heap.get? f = some (PySem.W.kla_obj "<lambda>" (X.env.qual ++ "<lambda>") params body scope (cloFrom X.env.cells scope.names []) pm' c' ctv) := (J.pin (f, _) (List.mem_append_right _ (List.mem_append_right _ List.mem_cons_self))).1
  exact wpAny_mono (call_lam hr (A := X.A.in1) I2.ok.frames J L hN hi r hfs (e _ _ hco) (hbind _ _ _ _ _ _) (fun s H hr2 => hbody s H f c' hr2) (q1 v hv H e)) (fun x s' ⟨w', H', J', un, rw_, e', n, hn⟩ => by
    subst hn
    obtain ⟨t, rfl⟩ := rw_
    exact ⟨n, t, H', rfl, J', un, e'⟩) fun _ _ h => h
end Aw

/-! R6: sorted(xs, key=f), sorted of pairs with texts ahead: the items in some order. -/
namespace Aw
open PySem PySem.Spec PyProof.Rows L2
open C8 (Cal pe_c)
section
variable {X : Cx} {pins : List (Addr × Obj)} {σ : L2.St} {H H1 : Hp} {s : Shared} {l : Addr} {xs : List V}
/-- a temporary object is tracked from now on -/
theorem track1 {h' : Heap} {t' : Nat} {ch : List Addr} {a : Addr} {ob : HO} (I : Inv X pins σ H s) (k : ∀ b o, b ∉ ch → s.heap.get? b = some o → h'.get? b = some o) (hf : ∀ b ∈ ch, FpOk X pins H b) (ha : a ∈ ch) (new : ObjOk X.prog X.w (upd H a ob) h' a ob) :
    Inv X pins σ (upd H a ob) { s with heap := h', toks := t' } := by
  have hn : H a = none := (hf a ha).1
  have nit : ∀ b u, H b = some u → b ∉ ch := fun b u e z => by
    have q := (hf b z).1
    rw [q] at e; cases e
  refine I.step (g' := s.gens) (d' := s.drawn) (ch := ch) (fun b hb => ⟨(hf b hb).2.2.2.1, (hf b hb).2.1, (hf b hb).2.2.2.2.1, (hf b hb).2.2.2.2.2⟩) (fun b o _ _ hc e _ => k b o hc e) (fun b o _ _ hc e _ => ⟨o.slots, k b o hc e⟩)
    (fun b o hc e n => ?_) (fun b o hc e => ⟨o, k b o hc e⟩) (fun b xs e => ?_) (fun b o u e => ?_) (fun b ps e => ⟨#[], ?_⟩) (fun m hm => ?_) (fun b u e => ?_) I.bare
  · rw [upd_ne (fun z => hc (by rw [z]; exact ha))]; exact n
  · rw [upd_ne (ne_of_none e hn)]; exact e
  · rw [upd_ne (ne_of_none e hn)]; exact e
  · rw [upd_ne (ne_of_none e hn), e]; simp
  · obtain ⟨o, es, ep, ho, r⟩ := hm
    exact ⟨o, es, ep, k _ o (fun z => (hf _ z).2.1 rfl) ho, r⟩
  · by_cases hb : b = a
    · subst hb
      rw [upd_same] at e
      cases e
      exact new
    · rw [upd_ne hb] at e
      refine (I.hok b u e).stay (fun c v hc q => k c v ?_ q) (fun c q => by rw [upd_ne (ne_of_none q hn)]; exact q) fun c xs q => by rw [upd_ne (ne_of_none q hn)]; exact q
      rcases hc with z | z
      · rw [z]; exact nit b u e
      · exact nit c _ z
/-- the calls of the key def -/
def KeyD (X : Cx) (pins : List (Addr × Obj)) (σ : L2.St) (H1 : Hp) (xs : List V) (ds : List T) (f : Addr) : Prop :=
  ∀ (i : Nat) (v : V) (d : T), xs[i]? = some v → ds[i]? = some d → ∀ (u : Value) (s : Shared) (H : Hp), L2.RelV v u → Inv X pins σ H s → Same H1 H →
    wpAny (model X.prog X.w) X.A.in1.in1 (call (.ref f) [u]) (fun x s' => ∃ w H', Inv X pins σ H' s' ∧ Un (frs X.stack) [] H H' s.heap s'.heap ∧ L2.RelV w x ∧ Same H H' ∧ Tp H' w d) (fun _ _ => False) s
theorem each_reads {ds : List T} {ks : List V} {us : List Value} (I : Inv X pins σ H s) (h : Tps H ks ds) (r : Vals ks us) : PySem.W.EachIs (fun v k => ∃ as, Reads s.heap v k as) us (T.pys ds) := by
  induction ds generalizing ks us with
  | nil =>
    cases h
    cases r
    exact .nil
  | cons d ds ih =>
    cases h with
    | cons h1 h2 =>
      cases r with
      | cons r1 r2 =>
        exact .cons (Dp.reads I _ _ _ (h1.dp_ (K := X.K)) r1) (ih h2 r2)
theorem each_vals : ∀ {ys : List V} {out : List Value}, PySem.W.EachIs (fun (u : Value) (v : V) => L2.RelV v u) out ys → Vals ys out
  | _, _, .nil => .nil
  | _, _, .cons h r => .cons h (each_vals r)
theorem vals_each : ∀ {ys : List V} {out : List Value}, Vals ys out → PySem.W.EachIs (fun (u : Value) (v : V) => L2.RelV v u) out ys
  | _, _, .nil => .nil
  | _, _, .cons h r => .cons h (vals_each r)
/-- the values that stand for a rearranged list -/
theorem vals_perm {ys : List V} {us out : List Value} (r : Vals ys us) (p : out.Perm us) : ∃ zs : List V, zs.Perm ys ∧ Vals zs out := by
  induction p generalizing ys with
  | nil => exact ⟨ys, List.Perm.refl _, r⟩
  | cons x _ ih =>
    cases r with
    | cons h r =>
      obtain ⟨zs, p, r'⟩ := ih r
      exact ⟨_, p.cons _, .cons h r'⟩
  | swap x y l =>
    cases r with
    | cons h r =>
      cases r with
      | cons h2 r => exact ⟨_, List.Perm.swap _ _ _, .cons h2 (.cons h r)⟩
  | trans _ _ ih1 ih2 =>
    obtain ⟨z1, p1, r1⟩ := ih2 r
    obtain ⟨z2, p2, r2⟩ := ih1 r1
    exact ⟨z2, p2.trans p1, r2⟩
theorem depth_mem {d : PyData} : ∀ {l : List PyData}, d ∈ l → d.depth ≤ PyData.depthAll l
  | e :: l, h => by
    simp only [PyData.depthAll]
    rcases List.mem_cons.mp h with rfl | h
    · omega
    · have := depth_mem h
      omega
theorem keyI_rest {f a kS : Addr} {ds : List T} {its : List Value} {e1 : Nat} {A : Around} {R : PySem.Fin → Shared → Prop} {E : Value → Shared → Prop} (J : Inv X pins σ H1 s) (hA : A = X.A.in1.in1) (rv : Vals xs its) (hlen : ds.length = xs.length) (hz : xs.length ≤ 100000) (hal : PySem.W.AllAlike (T.pys ds)) (hsk : 2 ≤ xs.length → PySem.W.Sortable (T.pys ds)) (hdp : T.dps ds ≤ 40) (hu : X.A.units + 65 < cLine)
    (turn : KeyD X pins σ H1 xs ds f) (fa : FpOk X pins H1 a) (fS : FpOk X pins H1 kS) (hka : kS ≠ a) (na : s.heap.get? a = some (seqObj "list" #[] e1)) (nk : s.heap.get? kS = some (seqObj "list" #[] 0))
    (hR : ∀ ys H' s', ys.Perm xs → Inv X pins σ H' s' → Same H1 H' → H1 a = none → H' a = some (.lst ys) → R (.done (.ret .none)) s') :
    wpAny (model X.prog X.w) A (ksk_rest a (.ref f) false its.toArray e1 (.ref kS)) R E s := by
  subst hA
  have hlx := rv.length
  unfold ksk_rest
  refine wpAny_bind (wpAny_rule ?_)
  first
    | rw [List.forIn_toArray]
    | (rw [← Array.forIn_toList]; simp only [List.toList_toArray])
    | rw [← Array.forIn_toList]
  refine wpAny_bind (ksk_fold (fun i s' => ∃ H' ks kA e, Inv X pins σ H' s' ∧ Same H1 H' ∧ FpOk X pins H' a ∧ FpOk X pins H' kS ∧ s'.heap.get? a = some (seqObj "list" #[] e1) ∧ s'.heap.get? kS = some (seqObj "list" kA e) ∧ Vals ks kA.toList ∧ Tps H' ks (ds.take i)) its 0 s
    ⟨H1, [], #[], 0, J, Same.refl _, fa, fS, na, nk, .nil, by rw [List.take_zero]; exact .nil⟩ ?step ?done)
  case step =>
    rintro j x s' hx ⟨H', ks, kA, e, J', e', fa', fS', na', nk', rk, hk⟩
    simp only [Nat.zero_add] at hk ⊢
    have hj : j < its.length := (List.getElem?_eq_some_iff.mp hx).1
    obtain ⟨d, hd⟩ : ∃ d, ds[j]? = some d := ⟨_, List.getElem?_eq_getElem (by omega)⟩
    obtain ⟨v, hv, rx⟩ := vals_get_v rv hx
    have hsz : kA.size ≤ 100000 := by
      have h1 : ks.length = kA.size := (Vals.length rk).trans Array.length_toList
      have h2 := Tps.length hk
      rw [List.length_take] at h2
      omega
    refine wpAny_bind (wpAny_attempt (wpAny_mono (turn j v d hv hd x s' H' rx J' e') (fun y s'' he => ?_) fun _ _ hF => hF.elim))
    obtain ⟨w', H2, J2, u2, rw_, e2, hw⟩ := he
    obtain ⟨na2, fa2⟩ := fp_call J' fa' na' u2
    obtain ⟨nk2, fS2⟩ := fp_call J' fS' nk' u2
    try dsimp only
    have s1 := Heap.SameBut.update s''.heap kS (Obj.mapSeq (·.push y))
    obtain ⟨c2, hc2⟩ : ∃ c2, (s''.heap.update kS (Obj.mapSeq (·.push y))).get? kS = some (seqObj "list" (kA.push y) c2) := ⟨_, get?_update_seq nk2 (·.push y)⟩
    refine wpAny_bind (listUpdate_at nk2 rfl ?_ (szl hsz) (Nat.le_trans (Nat.le_of_eq (Array.size_push ..)) (Nat.succ_le_succ (szl hsz))))
    refine wpAny_pure ⟨rfl, H2, ks ++ [w'], kA.push y, c2, J2.turned (it := kS) (fun b o hb e => (s1.2 b hb).trans e) fS2.1 fS2.2.1 fS2.2.2.2.1 fS2.2.2.2.2.1 fS2.2.2.2.2.2, e'.trans e2, fa2, fS2, (s1.2 a hka.symm).trans na2, hc2, ?_, ?_⟩
    · rw [show (kA.push y).toList = kA.toList ++ [y] by simp]
      exact rk.append (.cons rw_ .nil)
    · rw [List.take_add_one, hd]
      exact (hk.mono (Same.tx e2)).snoc hw
  case done =>
    rintro s' ⟨H', ks, kA, e, J', e', fa', fS', na', nk', rk, hk⟩
    have e3 : ds.take (0 + its.length) = ds := List.take_of_length_le (by omega)
    rw [e3] at hk
    have hsz : kA.size = its.length := by
      have h1 : ks.length = kA.size := (Vals.length rk).trans Array.length_toList
      have h2 := Tps.length hk
      omega
    have hL : its.length ≤ sizeLine := by rw [← hlx]; exact szl hz
    try dsimp only
    refine wpAny_bind (listItems_at nk' rfl ?_)
    obtain ⟨G, g1, g2⟩ := restrict s'.heap fun b => decide (b ≠ kS)
    have gS : G.get? kS = none := g2 kS (decide_eq_false fun z => z rfl)
    have kp : PySem.W.KeepsBut a G s'.heap := fun b o hb q => by
      by_cases z : b = kS
      · rw [z, gS] at q
        cases q
      · rw [← g1 b (decide_eq_true z)]
        exact q
    have kG : ∀ b o, b ∉ [a, kS] → s'.heap.get? b = some o → b ≠ a ∧ G.get? b = some o := fun b o hb q => by
      simp only [List.mem_cons, List.not_mem_nil, or_false, not_or] at hb
      exact ⟨hb.1, (g1 b (decide_eq_true hb.2)).trans q⟩
    have fin : ∀ (h' : Heap) (tk : Nat) (out : List Value) (c : Nat), PySem.W.KeepsBut a G h' → h'.get? a = some (seqObj "list" out.toArray c) → out.Perm its → R (.done (.ret .none)) { s' with heap := h', toks := tk } := fun h' tk out c kp' ha hp => by
      obtain ⟨zs, p, r⟩ := vals_perm rv hp
      have hn : H1 a = none := fa.1
      refine hR zs (upd H' a (.lst zs)) _ p (track1 (ch := [a, kS]) J' (fun b o hb e => ?_) (fun b hb => ?_) List.mem_cons_self ⟨by rw [p.length_eq]; exact szl hz, out, c, r, ha⟩) ?_ hn upd_same
      · obtain ⟨h1, h2⟩ := kG b o hb e
        exact kp' b o h1 h2
      · simp only [List.mem_cons, List.not_mem_nil, or_false] at hb
        rcases hb with rfl | rfl
        · exact fa'
        · exact fS'
      · exact fun b u q => by
          rw [upd_ne (ne_of_none q hn)]
          exact e' b u q
    by_cases h2 : its.length < 2
    · have hsz2 : its.toArray.size < 2 := by rw [List.size_toArray]; exact h2
      unfold ksk_end
      dsimp only
      rw [if_neg Bool.false_ne_true, if_pos hsz2, if_pos hsz2]
      refine wpAny_bind (wpAny_pure ?_)
      rw [StateT.run_pure]
      refine wpAny_bind (wpAny_pure ?_)
      refine PySem.W.keyH_tail (b := false) (keys := kA) (st := SortSt.mk' general' (kA.zip its.toArray) #[] 7 none) (out := its) kp gS nk' na' hka (by rw [hsz]; exact hL) hL rfl ?_ fun h' tk c k3 n3 => fin h' tk its c k3 n3 (List.Perm.refl _)
      rw [if_neg Bool.false_ne_true]
      show (kA.zip its.toArray).map (·.2) = its.toArray
      apply Array.ext'
      rw [Array.toList_map, Array.toList_zip]
      exact zip_snd (by rw [Array.length_toList]; exact hsz.symm)
    · have hsk' := hsk (by omega)
      have hE := each_reads J' hk rk
      refine PySem.W.keyH_end (κ := PySem.W.dataKind s'.heap (T.pys ds)) (h₁ := G) kp gS nk' na' hka (PySem.W.SortsAt.data (s := s') hE hal hsk' fun d hd => ?_) hsz hL fun h3 tk3 c k3 n3 => fin h3 tk3 _ c k3 n3 ?_
      · have h1 : PyData.depth d ≤ PyData.depthAll (T.pys ds) := depth_mem hd
        have h2 := T.pys_depth ds
        show X.A.units + 1 + 1 + d.depth < cLine
        omega
      · unfold PySem.W.sortVals
        refine ((List.mergeSort_perm _ _).map Prod.snd).trans (List.Perm.of_eq ?_)
        exact zip_snd (by rw [Array.length_toList]; exact hsz.symm)
end
end Aw

/-! R7: sorted(xs, key=f); sorted of pairs with distinct texts ahead. -/
namespace Aw
open PySem PySem.Spec PyProof.Rows L2
open C8 (Cal pe_c)
section
variable {X : Cx} {pins : List (Addr × Obj)} {σ : L2.St} {H H1 : Hp} {s : Shared} {l : Addr} {xs : List V}
theorem sorted_keyI {f : Addr} {ds : List T} {Q : VK} {E : Value → Shared → Prop} (I0 : Inv X pins σ H1 s) (hl : H1 l = some (.lst xs)) (hlen : ds.length = xs.length) (hz : xs.length ≤ 100000) (hal : PySem.W.AllAlike (T.pys ds)) (hsk : 2 ≤ xs.length → PySem.W.Sortable (T.pys ds)) (hdp : T.dps ds ≤ 40) (hu : X.A.units + 65 < cLine)
    (turn : KeyD X pins σ H1 xs ds f) (hQ : ∀ ys p H', ys.Perm xs → Same H1 H' → H1 p = none → H' p = some (.lst ys) → Q (.ref p) H') : wpAny (model X.prog X.w) X.A (call (.builtin "sorted") [.ref l] [(Str.ofString "key", .ref f)]) (EP X pins σ Q) E s := by
  obtain ⟨its, rv, hls, hz'⟩ := I0.list (SqL.of (K := X.K) hl)
  refine PySem.W.sorted_of_sort hls.isList (by rw [← rv.length]; exact hz') (ksk_s1 _ _) (fun x => ksk_l1 _ _) fun E' => ?_
  rw [ksk_t1]
  generalize ha : s.heap.objs.size + 1 = a
  have hla : s.heap.objs.size ≤ a := by rw [← ha]; exact Nat.le_succ _
  have ho : (PySem.W.copyHeap s.heap its).get? a = some (seqObj "list" its.toArray 0) := by rw [← ha]; exact PySem.W.copyHeap_at s.heap its
  have hal' : a < (PySem.W.copyHeap s.heap its).objs.size := Heap.lt_size ho
  obtain ⟨e1, ho1⟩ : ∃ e1, ((PySem.W.copyHeap s.heap its).update a (Obj.mapSeq fun _ => (#[] : Array Value))).get? a = some (seqObj "list" #[] e1) := ⟨_, get?_update_seq ho fun _ => #[]⟩
  have hkS : (((PySem.W.copyHeap s.heap its).update a (Obj.mapSeq fun _ => (#[] : Array Value))).push (seqObj "tuple" its.toArray 0)).objs.size = (PySem.W.copyHeap s.heap its).objs.size + 1 := by rw [size_push', Heap.size_update]
  have hL : its.length ≤ sizeLine := by rw [← rv.length]; exact hz'
  unfold ksk_tree
  refine wpAny_bind (listItems_at ho rfl ?_)
  refine wpAny_bind (listUpdate_at ho rfl ?_ (by rw [List.size_toArray]; exact hL) (Nat.zero_le _))
  refine wpAny_bind (seqEpoch_at ho1 rfl ?_)
  refine wpAny_bind (wpAny_newTuple ?_ (by show its.length ≤ _; exact hL))
  refine wpAny_bind (wpAny_newList ?_ (Nat.zero_le _))
  refine wpAny_holding ?_
  have kp : ∀ b o, s.heap.get? b = some o → (PySem.W.sortingHeap (PySem.W.copyHeap s.heap its) a its).get? b = some o := fun b o q =>
    PySem.W.sortingHeap_old (Nat.ne_of_lt (Nat.lt_of_lt_of_le (Heap.lt_size q) hla)) (PySem.W.copyHeap_old q)
  refine keyI_rest (X := X) (pins := pins) (σ := σ) (H1 := H1) (ds := ds) (xs := xs) (a := a) (I0.kept (t' := s.toks) kp) rfl rv hlen hz hal hsk hdp hu turn (I0.fpOk hla (I0.hok.fresh hla)) (I0.fpOk ?_ (I0.hok.fresh ?_)) ?_ (Heap.get?_push_of_some _ (Heap.get?_push_of_some _ ho1)) (Heap.get?_push_size _ rfl)
    fun ys H' s' p J e n0 h => ⟨rfl, ?_⟩
  · show s.heap.objs.size ≤ (((PySem.W.copyHeap s.heap its).update a (Obj.mapSeq fun _ => (#[] : Array Value))).push (seqObj "tuple" its.toArray 0)).objs.size
    rw [hkS]
    omega
  · show s.heap.objs.size ≤ (((PySem.W.copyHeap s.heap its).update a (Obj.mapSeq fun _ => (#[] : Array Value))).push (seqObj "tuple" its.toArray 0)).objs.size
    rw [hkS]
    omega
  · show (((PySem.W.copyHeap s.heap its).update a (Obj.mapSeq fun _ => (#[] : Array Value))).push (seqObj "tuple" its.toArray 0)).objs.size ≠ a
    rw [hkS]
    omega
  · exact ⟨.ref a, H', J, rfl, hQ ys a H' p e n0 h⟩
/-- sorted(xs, key=f), f a def that gives data and keeps all -/
def tSortK (sp : Sp) (ta : TA) : TE := fun σ H Q => ta σ H fun vs H1 => ∃ l xs ds, vs = [.ref l] ∧ H1 l = some (.lst xs) ∧ ds.length = xs.length ∧ xs.length ≤ 100000 ∧ PySem.W.AllAlike (T.pys ds) ∧ (2 ≤ xs.length → PySem.W.Sortable (T.pys ds)) ∧ T.dps ds ≤ 40 ∧
  (∀ (i : Nat) (v : V) (d : T), xs[i]? = some v → ds[i]? = some d → ∀ H, Same H1 H → sp [v] H (fun w H' => Same H H' ∧ Tp H' w d) fun _ _ _ => False) ∧ ∀ ys p H', ys.Perm xs → Same H1 H' → H1 p = none → H' p = some (.lst ys) → Q (.ref p) H'
theorem pe_sortK {k j : Nat} {x : Str} {sp : Sp} {e : Expr} {ta : TA} {p p1 pos kpos : Pos} (c : Cal X.prog X.w X.K X.mg X.base k x sp []) (hr : Room (j + 2) X.A) (hk : k ≤ j) (hgx : Gl X x) (hg : Gl X "sorted") (hm : X.mg "sorted" = none) (he : PA X [e] ta)
    (hdb : (x == ("__debug__" : Str)) = false := by decide)
    (hp : backTo pos (starEach [e] X.env) = (false, eval e X.env) :: backTo pos (starEach [] X.env) := by rfl) (hpl : (backTo pos (starEach [e] X.env)).any (·.1) = false := by rfl) :
    PE X (.Call (.Name "sorted" p) [e] [⟨some "key", .Name x p1, kpos⟩] pos) (tSortK sp ta) := by
  refine ⟨fun pins s σ H Q I h => ?_⟩
  refine wpAny_Call_Name_kw (ld_blt I hg hm bt_sorted ?_ (by decide) (by decide))
  refine PyProof.Rows.callWith_kw (thn (he.run pos pins s σ H _ I h) fun us s1 ⟨vs, H1, I1, r1, q1⟩ => ?_) hp hpl rfl rfl
  obtain ⟨l, xs, ds, rfl, hl, hlen, hz, hal, hsk, hdp, hcall, q⟩ := q1
  obtain rfl := Vals.ref1 r1
  obtain ⟨f, fd, ps, dvs, F, hmf, kp, b, d⟩ := c.ex
  obtain rfl := Vals.zero d
  show wpAny _ _ (evalAll [do let v ← eval (.Name x p1) X.env; standAt pos; pure v]) _ _ _
  refine wpAny_evalAll_cons (wpAny_bind (ld_glob I1 hgx hmf ?_ hdb))
  refine wpAny_bind (wpAny_standAt (wpAny_pure (wpAny_evalAll_nil ?_)))
  have hr2 : Room k X.A.in1.in1 := (Room.in1 (Room.in1 hr)).mono hk
  refine sorted_keyI I1 hl hlen hz hal hsk hdp (hu65 hr) (fun i v d hv hd u s H r J e => ?_) q
  have e0 : Env0 X.prog X.w X.K X.mg X.base X.A.in1.in1 X.stack s H := by
    obtain ⟨f1, f2, f3, f4, f5, f6, f7, f8⟩ := J.env0
    exact ⟨f1, f2, f3, f4, f5, f6, f7, f8⟩
  have hsp := hcall i v d hv hd H e
  have hlp := F.len _ _ _ _ hsp
  refine wpAny_call (codeAny_mono (F.run X.A.in1.in1 X.stack s H ⟨[u], []⟩ [u] [v] _ _ hr2 e0 (b s [u] J.kIn (by simpa using hlp)) (.cons r .nil) hsp) fun r s' hq => ?_)
  cases r with
  | error e => exact hq
  | ok fl =>
    cases fl with
    | next => exact hq
    | brk => exact hq
    | cont => exact hq
    | ret u2 =>
      obtain ⟨w', H', os, bare, un, hok', r', e', tp⟩ := hq
      exact ⟨w', H', J.call' (ch := []) os un hok' bare (fun b hb => by cases hb), un, r', e', tp⟩
/-! ### pairs with texts ahead -/
/-- v is a pair with a text ahead -/
def IsPr (h : Heap) (v : Value) (x : Str) : Prop := ∃ a o tk u n, v = .ref a ∧ h.get? a = some o ∧ o.cls = .type "tuple" ∧ o.data = .seq #[.str x tk, u] n
theorem IsPr.keeps {h h' : Heap} {v : Value} {x : Str} (p : IsPr h v x) (k : ∀ b o, h.get? b = some o → o.cls = .type "tuple" → h'.get? b = some o) : IsPr h' v x := by
  obtain ⟨a, o, tk, u, n, e, ho, hc, hd⟩ := p
  exact ⟨a, o, tk, u, n, e, k _ _ ho hc, hc, hd⟩
/-- different ones bear different texts -/
def PrsOk (h : Heap) (vs : List Value) : Prop := (∀ v ∈ vs, ∃ x, IsPr h v x) ∧ ∀ v ∈ vs, ∀ v' ∈ vs, ∀ x, IsPr h v x → IsPr h v' x → v = v'
theorem PrsOk.keeps {h h' : Heap} {vs : List Value} (p : PrsOk h vs) (k : ∀ b o, h.get? b = some o → o.cls = .type "tuple" → h'.get? b = some o) : PrsOk h' vs := by
  refine ⟨fun v hv => ?_, fun v hv v' hv' x p1 p2 => ?_⟩
  · obtain ⟨x, q⟩ := p.1 v hv
    exact ⟨x, q.keeps k⟩
  · have back : ∀ v ∈ vs, ∀ x, IsPr h' v x → IsPr h v x := fun v hv x ⟨a, o, tk, u, n, e, ho, hc, hd⟩ => by
      obtain ⟨y, a2, o2, tk2, u2, n2, e2, ho2, hc2, hd2⟩ := p.1 v hv
      rw [e] at e2
      cases e2
      have ho3 := k _ _ ho2 hc2
      rw [ho] at ho3
      cases ho3
      exact ⟨a, o, tk, u, n, e, ho2, hc, hd⟩
    exact p.2 v hv v' hv' x (back v hv x p1) (back v' hv' x p2)
section
variable {prog : Program} {w : World} {A : Around} {E : Value → Shared → Prop}
theorem pr_tot {vs : List Value} (hp : PrsOk s.heap vs) : Srt.Tot prog w A s (tuples' true) (fun p => p.1 ∈ vs) := by
  intro p q hm hm'
  obtain ⟨x, ix⟩ := hp.1 _ hm
  obtain ⟨x', ix'⟩ := hp.1 _ hm'
  obtain ⟨a, o, tk, u, n, e, ho, hc, hd⟩ := id ix
  obtain ⟨a', o', tk', u', n', e', ho', hc', hd'⟩ := id ix'
  by_cases hx : x = x'
  · subst hx
    have ev := hp.2 _ hm _ hm' x ix ix'
    rw [e, e'] at ev
    have ea : a = a' := Value.ref.inj ev
    subst ea
    rw [ho] at ho'
    cases ho'
    rw [hd] at hd'
    rw [e, e']
    refine ⟨false, PySem.W.kat_lt ho hd ho hd ?_⟩
    show PySem.W.KatLex prog w A true (decide (2 < 2)) _ [(.str x tk, .str x tk), (u, u)] 0 s
    refine PySem.W.kat_cons (SeqAt.EqAt.same (.str x tk) prog w _ _ ?_)
    refine PySem.W.kat_yes (PySem.W.kat_cons (SeqAt.EqAt.same u prog w _ _ ?_))
    exact PySem.W.kat_yes (PySem.W.kat_nil ⟨rfl, rfl⟩)
  · rw [e, e']
    refine ⟨decide (x.cps.toList < x'.cps.toList), PySem.W.kat_lt ho hd ho' hd' ?_⟩
    show PySem.W.KatLex prog w A true (decide (2 < 2)) _ [(.str x tk, .str x' tk'), (u, u')] 0 s
    refine PySem.W.kat_cons (SeqAt.EqAt.str_str x tk x' tk' prog w _ _ ?_)
    rw [beq_eq_false_iff_ne.mpr hx]
    exact PySem.W.kat_no (oneLt_str ⟨rfl, rfl⟩)
theorem firsts_pr {h : Heap} : ∀ {vs : List Value}, (∀ v ∈ vs, ∃ x, IsPr h v x) → ∃ fs : List Value, PySem.W.KatTups h vs fs ∧ fs.length = vs.length ∧ ∀ f ∈ fs, ∃ x t, f = Value.str x t
  | [], _ => ⟨[], PySem.W.KatTups.nil, rfl, fun _ hm => by simp at hm⟩
  | v :: vs, hp => by
    obtain ⟨fs, h1, h2, h3⟩ := firsts_pr (vs := vs) fun v' hm => hp v' (List.mem_cons_of_mem _ hm)
    obtain ⟨x, a, o, tk, u, n, e, ho, hc, hd⟩ := hp v (List.mem_cons_self ..)
    subst e
    refine ⟨.str x tk :: fs, PySem.W.KatTups.cons ho hc hd rfl h1, by rw [List.length_cons, List.length_cons, h2], fun f hm => ?_⟩
    rcases List.mem_cons.mp hm with rfl | hm
    · exact ⟨x, tk, rfl⟩
    · exact h3 f hm
theorem prs_sortable {a : Addr} {vs : List Value} (h0 : 0 < vs.length) (hp : PrsOk s.heap vs) (ha : ∀ o, s.heap.get? a = some o → o.cls ≠ .type "tuple") : Srt.Sortable prog w A s a vs := by
  intro h' keep
  have hp' : PrsOk h' vs := hp.keeps fun b o e c => keep b o (fun z => by subst z; exact ha o e c) e
  obtain ⟨fs, h1, h2, h3⟩ := firsts_pr hp'.1
  refine ⟨tuples' true, fun Q E hq => ?_, pr_tot hp'⟩
  refine PySem.W.kat_kind (T := .type "str") h1 (by omega) (fun f hm => ?_) (by rfl) ?_
  · obtain ⟨x, t, rfl⟩ := h3 f hm
    exact PySem.W.Looks.now
  · have e : (Value.type "str" != Value.type "tuple") = true := by first | decide +kernel | rfl | decide
    rw [e]
    exact hq
end
theorem tps_perm {α : Type} {f : α → T} {xs ys : List V} (p : ys.Perm xs) : ∀ {m : List α}, Tps H xs (m.map f) → ∃ m' : List α, m'.Perm m ∧ Tps H ys (m'.map f) := by
  induction p with
  | nil =>
    intro m h
    exact ⟨m, List.Perm.refl _, h⟩
  | cons x _ ih =>
    intro m h
    cases m with
    | nil => cases h
    | cons b m =>
      cases h with
      | cons h1 h2 =>
        obtain ⟨m', p, r⟩ := ih h2
        exact ⟨b :: m', p.cons _, .cons h1 r⟩
  | swap x y l =>
    intro m h
    match m, h with
    | [], h => cases h
    | [_], .cons _ h => cases h
    | b :: c :: m, .cons h1 (.cons h2 h3) => exact ⟨c :: b :: m, List.Perm.swap _ _ _, .cons h2 (.cons h1 h3)⟩
  | trans _ _ ih1 ih2 =>
    intro m h
    obtain ⟨m1, p1, r1⟩ := ih2 h
    obtain ⟨m2, p2, r2⟩ := ih1 r1
    exact ⟨m2, p2.trans p1, r2⟩
theorem prs_ok (I : Inv X pins σ H s) : ∀ {m : Mp} {xs : List V} {us : List Value}, Tps H xs (m.map encPr) → Vals xs us → (m.map (·.1)).Nodup → PrsOk s.heap us ∧ ∀ u ∈ us, ∃ x ∈ m.map (·.1), IsPr s.heap u x
  | [], _, _, h, r, _ => by
    cases h
    cases r
    exact ⟨⟨fun v hv => absurd hv (by simp), fun v hv => absurd hv (by simp)⟩, fun v hv => absurd hv (by simp)⟩
  | p :: m, _, _, h, r, nd => by
    cases h with
    | cons h1 h2 =>
      cases r with
      | cons r1 r2 =>
        obtain ⟨nd1, nd2⟩ := List.nodup_cons.mp nd
        obtain ⟨⟨i1, i2⟩, i3⟩ := prs_ok I h2 r2 nd2
        obtain ⟨a, w, rfl, ha, _, _⟩ := prE h1
        obtain ⟨its, n, sl, rv, _, hob⟩ := Inv.tq I ha
        cases r1
        obtain ⟨u1, u2, rfl, q1, q2⟩ := vals2 rv
        obtain ⟨tk, rfl⟩ := q1
        have ip : IsPr s.heap (.ref a) p.1 := ⟨a, _, tk, u2, n, rfl, hob, rfl, rfl⟩
        have uniq : ∀ (v : Value) (x y : Str), IsPr s.heap v x → IsPr s.heap v y → x = y := fun v x y ⟨b, o, t1, w1, n1, e, ho, hc, hd⟩ ⟨b', o', t2, w2, n2, e', ho', hc', hd'⟩ => by
          rw [e] at e'
          cases e'
          rw [ho] at ho'
          cases ho'
          rw [hd] at hd'
          injection hd' with z _
          have := congrArg Array.toList z
          simp only [List.cons.injEq, Value.str.injEq] at this
          exact this.1.1
        have other : ∀ v ∈ _, IsPr s.heap v p.1 → False := fun v hv q => by
          obtain ⟨x, hx, ix⟩ := i3 v hv
          have nd3 : ¬ p.1 ∈ m.map (·.1) := nd1
          rw [uniq v _ _ q ix] at nd3
          exact nd3 hx
        refine ⟨⟨fun v hv => ?_, fun v hv v' hv' x q q' => ?_⟩, fun v hv => ?_⟩
        · rcases List.mem_cons.mp hv with rfl | hv
          · exact ⟨_, ip⟩
          · exact i1 v hv
        · rcases List.mem_cons.mp hv with rfl | hv
          · rcases List.mem_cons.mp hv' with rfl | hv'
            · rfl
            · rw [uniq _ _ _ q ip] at q'
              exact (other v' hv' q').elim
          · rcases List.mem_cons.mp hv' with rfl | hv'
            · rw [uniq _ _ _ q' ip] at q
              exact (other v hv q).elim
            · exact i2 v hv v' hv' x q q'
        · rcases List.mem_cons.mp hv with rfl | hv
          · exact ⟨p.1, List.mem_cons_self, ip⟩
          · obtain ⟨x, hx, ix⟩ := i3 v hv
            exact ⟨x, List.mem_cons_of_mem _ hx, ix⟩
/-- sorted(xs), xs pairs whose first items are different texts -/
def rSortPr : List V → Hp → VK → Prop := fun vs H Q => ∃ (a : Addr) (xs : List V) (m : Mp), vs = [.ref a] ∧ H a = some (.lst xs) ∧ Tps H xs (m.map encPr) ∧ m.length ≤ 100000 ∧
  (m.map (·.1)).Nodup ∧ ∀ (ys : List V) (m' : Mp), m'.Perm m → Tps H ys (m'.map encPr) → NewL ys H Q
theorem cr_sortPr : CallR X (.builtin "sorted") rSortPr := by
  intro pins s σ H vs us Q I r h
  obtain ⟨a, xs, m, rfl, ha, ht, hz, nd, q⟩ := h
  obtain rfl := Vals.ref1 r
  obtain ⟨its, rv, hl, hz'⟩ := I.list (SqL.of (K := X.K) ha)
  have hp := (prs_ok I ht rv nd).1
  refine Srt.sorted_any hl.isList (by rw [← rv.length]; exact hz') (fun h2 h₁ a' ha' k => prs_sortable (s := { s with heap := h₁ }) (by omega) (hp.keeps fun b o e _ => (k b o e).2) fun o e => ?_) fun out ho => ?_
  · have e' : some o = some (seqObj "list" its.toArray 0) := e.symm.trans ha'
    cases e'
    intro c
    exact absurd (Value.type.inj c) (by decide)
  · obtain ⟨ys, p, r'⟩ := vals_perm rv ho
    obtain ⟨m', pm, tm⟩ := tps_perm p ht
    obtain ⟨ep, he'⟩ := PyProof.Rows.sortedAll_at s.heap its out.toArray
    have n0 : H (s.heap.objs.size + 1) = none := I.hok.fresh (Nat.le_succ _)
    exact ⟨.ref _, _, I.laid (t' := s.toks) (o := .lst ys) (fun _ _ => PyProof.Rows.sortedAll_old) (Nat.le_succ _) ⟨by rw [p.length_eq]; exact hz', out, ep, r', he'⟩, rfl, q ys m' pm tm _ _ n0 (same_new n0) upd_same⟩
end
end Aw

/-! R8: set(xs), xs tuples of ints and texts: the proof of HandS.TupSets (tuples of ints) turned to keys of both kinds. -/
namespace AwS
open PySem PySem.Spec PyProof.Rows L2

abbrev TK (P : Program) (w : World) : HeapKind P w (List Key) := tupleKind (mixKind P w)
abbrev thash (P : Program) (w : World) (k : List Key) : Int := tupleKeyHash (mixKind P w) k
/-- the tuple at a has the ints k -/
abbrev IsT (P : Program) (w : World) (h : Heap) (k : List Key) (a : Addr) : Prop := IsTupleKey (mixKind P w) h k a

section
variable {P : Program} {w : World} {A : Around} {E : Value → Shared → Prop} {s : Shared}

/-! ### small questions asked of tuples -/
theorem items_key {k : List Key} {vs : List Value} (h : ItemsAre (mixKind P w) k vs) : ∀ v ∈ vs, (∃ i t, v = Value.int i t) ∨ ∃ x t, v = Value.str x t := by
  induction h with
  | nil => intro v hv; cases hv
  | @cons k0 v' ks vs h1 _ ih =>
    intro v hv
    rcases List.mem_cons.mp hv with e | hv
    · rcases keyIs_shape h1 with ⟨i, t, _, e2⟩ | ⟨x, t, _, e2⟩
      · exact .inl ⟨i, t, e.trans e2⟩
      · exact .inr ⟨x, t, e.trans e2⟩
    · exact ih v hv
theorem ofAClass_key (n : Nat) {v : Value} (h : (∃ i t, v = Value.int i t) ∨ ∃ x t, v = Value.str x t) : ofAClassStatement n v = pure false := by
  rcases h with ⟨i, t, rfl⟩ | ⟨x, t, rfl⟩ <;> cases n <;> rfl
theorem ofAClass_tup {k : List Key} {b : Addr} {Q : Bool → Shared → Prop} (hk : IsT P w s.heap k b) (h : Q false s) : wpAny (model P w) A (ofAClassStatement 8 (.ref b)) Q E s := by
  have hT := hk.typeIs
  obtain ⟨o, items, n, ho, _, hd, hi⟩ := hk
  unfold ofAClassStatement
  refine wpAny_bind (wpAny_typeOf hT ?_)
  dsimp only
  have e : (("tuple" : String) == "tuple") = true := by decide
  simp only [e, if_true, Bool.not_true, Bool.false_eq_true, if_false]
  try refine wpAny_bind (wpAny_pure ?_)
  try simp only [Bool.not_true, Bool.false_eq_true, if_false]
  show wpAny _ _ (seqItems? (.ref b) >>= _) _ _ s
  refine wpAny_bind (wpAny_seqItems ho hd ?_)
  dsimp only
  refine wpAny_bind ?_
  show wpAny _ _ (forIn items _ _) _ _ s
  rw [← Array.forIn_toList]
  refine wpAny_forIn_list _ (fun rest r s' => r.1 = none ∧ s' = s ∧ ∀ v ∈ rest, (∃ i t, v = Value.int i t) ∨ ∃ x t, v = Value.str x t) _ ?_ ?_ _ _ ⟨rfl, rfl, items_key hi⟩
  · rintro v rest r s' ⟨hr, rfl, hall⟩
    rw [ofAClass_key _ (hall v List.mem_cons_self)]
    refine wpAny_bind (wpAny_pure ?_)
    simp only [Bool.false_eq_true, if_false]
    exact wpAny_pure ⟨rfl, rfl, fun u hu' => hall u (List.mem_cons_of_mem _ hu')⟩
  · rintro ⟨r1, r2⟩ s' ⟨hr, rfl, _⟩
    simp only at hr
    subst hr
    exact wpAny_pure h
theorem hashBy_tup {s0 : Str} {k : List Key} {b : Addr} {Q : Bool → Shared → Prop} (hk : IsT P w s.heap (.inr s0 :: k) b) (h : Q false s) : wpAny (model P w) A (hashByValue 8 (.ref b)) Q E s := by
  have hT := hk.typeIs
  obtain ⟨o, items, n, ho, _, hd, hi⟩ := hk
  unfold hashByValue
  refine wpAny_bind (wpAny_specialOf hT F.slot_tuple_hash.lookup ?_)
  show wpAny _ _ (seqItems? (.ref b) >>= _) _ _ s
  refine wpAny_bind (wpAny_seqItems ho hd ?_)
  refine wpAny_bind ?_
  show wpAny _ _ (forIn items _ _) _ _ s
  rw [← Array.forIn_toList]
  generalize items.toList = l at hi
  cases hi with
  | @cons _ v _ vs h1 _ =>
    rcases keyIs_shape (show keyIs (Sum.inr s0) v = true from h1) with ⟨i, t, e, _⟩ | ⟨x, t, _, e2⟩
    · cases e
    · subst e2
      rw [List.forIn_cons, hashByValue_scannable _ (show (Value.str x t).scannable = true from rfl)]
      refine wpAny_bind (wpAny_bind (wpAny_pure ?_))
      simp only [plainKind, Bool.not_false, if_true]
      exact wpAny_pure (wpAny_pure (wpAny_pure h))
theorem byv {c : Bool} {α : Type} {KK : Bool → Sem α} {k : List Key} {b : Addr} {Q : α → Shared → Prop} (hk0 : ∃ s0 k', k = .inr s0 :: k') (hk : IsT P w s.heap k b) (h : ∀ b, wpAny (model P w) A (KK b) Q E s) : wpAny (model P w) A (if c = true then hashByValue 8 (.ref b) >>= KK else pure true >>= KK) Q E s := by
  obtain ⟨s0, k', rfl⟩ := hk0
  cases c with
  | true => rw [if_pos rfl]; exact wpAny_bind (hashBy_tup hk (h false))
  | false => rw [if_neg Bool.false_ne_true]; exact wpAny_bind (wpAny_pure (h true))
theorem tab_plain {t : SetTable} {hs : List Int} (T : TabOk t hs) : TabOk { t with plain := false } hs := by
  obtain ⟨a1, a2, a3, a4, a5, a6⟩ := T
  exact ⟨a1, a2, a3, a4, a5, a6⟩
/-- a search among tuples shows nothing -/
theorem seen_tup {k : List Key} {b : Addr} {Q : Bool → Shared → Prop} (hk : IsT P w s.heap k b) {ys : List Value} (hy : ∀ y ∈ ys, ∃ k' c, y = Value.ref c ∧ IsT P w s.heap k' c) (h : Q false s) :
    wpAny (model P w) A (searchCouldBeSeen (.ref b) ys) Q E s := by
  unfold searchCouldBeSeen
  refine wpAny_bind ?_
  refine wpAny_forIn_list _ (fun rest r s' => r.1 = none ∧ s' = s ∧ ∀ y ∈ rest, ∃ k' c, y = Value.ref c ∧ IsT P w s.heap k' c) _ ?_ ?_ _ _ ⟨rfl, rfl, hy⟩
  · rintro v rest r s' ⟨hr, rfl, hall⟩
    obtain ⟨k', c, rfl, hc⟩ := hall v List.mem_cons_self
    have rest' : ∀ y ∈ rest, ∃ k' c, y = Value.ref c ∧ IsT P w s'.heap k' c := fun u hu' => hall u (List.mem_cons_of_mem _ hu')
    dsimp only
    by_cases hv : (b == c || (carriedByValue (.ref b) && carriedByValue (.ref c))) = true
    · refine wp_if_pos hv ?_
      exact wpAny_pure ⟨rfl, rfl, rest'⟩
    · refine wp_if_neg hv ?_
      refine wpAny_bind (wpAny_eqIsQuiet_tuple hk ?_)
      simp only [Bool.not_true, Bool.false_eq_true, if_false]
      refine wpAny_bind (wpAny_eqIsQuiet_tuple hc ?_)
      simp only [Bool.not_true, Bool.false_eq_true, if_false]
      refine wpAny_bind (ofAClass_tup hk ?_)
      simp only [Bool.false_eq_true, if_false]
      refine wpAny_bind (ofAClass_tup hc ?_)
      simp only [Bool.false_eq_true, if_false]
      exact wpAny_pure ⟨rfl, rfl, rest'⟩
  · rintro ⟨r1, r2⟩ s' ⟨hr, rfl, _⟩
    simp only at hr
    subst hr
    exact wpAny_pure h

/-! ### the set of tuples -/
def rowsOf (P : Program) (w : World) (L : List (Addr × List Key)) : List (Int × Value) := L.map fun p => (thash P w p.2, Value.ref p.1)
structure SetTR (P : Program) (w : World) (h : Heap) (a : Addr) (L : List (Addr × List Key)) (es : Array (Int × Value)) (ep : Nat) (t : SetTable) : Prop where
  ob : ∃ o, h.get? a = some o ∧ o.ExactSet ∧ o.data = .set es ep t
  rows : es.toList = rowsOf P w L
  tab : TabOk t (L.map fun p => thash P w p.2)
  nd : (L.map (·.2)).Nodup
  tup : ∀ p ∈ L, IsT P w h p.2 p.1
  led : w.params.followText "set-order" = true ∨ t.led = true
  room : L.length * 5 < t.mask * 3
  few : L.length < 64
variable {a : Addr} {L : List (Addr × List Key)} {es : Array (Int × Value)} {ep : Nat} {t : SetTable}
theorem SetTR.size (R : SetTR P w s.heap a L es ep t) : es.size = L.length := by
  have h := congrArg List.length R.rows
  unfold rowsOf at h
  rw [Array.length_toList, List.length_map] at h
  exact h
theorem SetTR.fits (R : SetTR P w s.heap a L es ep t) : t.fits es.size = true := by
  have h1 := R.tab.sz
  rw [List.length_map] at h1
  have h2 := R.size
  have h3 := R.room
  unfold SetTable.fits SetTable.fill
  rw [R.tab.dm, Bool.and_eq_true, beq_iff_eq, decide_eq_true_eq]
  show t.place.size = es.size ∧ t.place.size + 0 ≤ t.mask
  omega
theorem SetTR.entry (R : SetTR P w s.heap a L es ep t) {i : Nat} {p : Addr × List Key} (h : L[i]? = some p) : es[i]? = some (thash P w p.2, Value.ref p.1) := by
  rw [← Array.getElem?_toList, R.rows]
  unfold rowsOf
  rw [List.getElem?_map, h] <;> rfl
theorem SetTR.gw (R : SetTR P w s.heap a L es ep t) : ¬ t.gaveWay = true := by
  unfold SetTable.gaveWay
  rw [mask_odd R.tab.mok]
  decide
theorem sameMem (t : SetTable) : t.sameMemory t.moves t.mask = some true := by
  unfold SetTable.sameMemory
  rw [if_pos (beq_self_eq_true _)]

/-- THE SEARCH: from the c-th step of the way on -/
theorem search_from (R : SetTR P w s.heap a L es ep t) {x : Addr} {k : List Key} (hx : IsT P w s.heap k x) (hu : A.units < cLine) {K : Nat} (hKf : K < 10 * SetTable.turns t.mask)
    (hK : way t.mask (thash P w k) K ∉ t.place.toList) (hKb : ∀ c, c < K → way t.mask (thash P w k) c ∈ t.place.toList) {Q : SetFound → Shared → Prop}
    (hin : k ∈ L.map (·.2) → Q (.there none) s) (hout : k ∉ L.map (·.2) → Q (.free (way t.mask (thash P w k) K) false) s) :
    ∀ (f c : Nat) (stand : Option SetTable.Probe), stand.getD (t.probeStart (thash P w k)) = nth t.mask (runAt t.mask (SetTable.bits (thash P w k) % (t.mask + 1)) (SetTable.bits (thash P w k))) c → c ≤ K → K - c < f →
      (∀ (i : Nat) p, L[i]? = some p → p.2 = k → ∃ c', c ≤ c' ∧ c' < K ∧ t.place.toList[i]? = some (way t.mask (thash P w k) c')) →
      wpAny (model P w) A (setSearchFrom a (.ref x) (thash P w k) true f stand) Q E s
  | 0, c, stand, _, _, hf, _ => absurd hf (Nat.not_lt_zero _)
  | f + 1, c, stand, hst, hc, hf, hre => by
    obtain ⟨o, ho, hex, hd⟩ := R.ob
    rw [setSearchFrom_succ]
    refine wpAny_bind (wpAny_setState_of ho hd R.fits ?_)
    dsimp only
    refine wp_if_neg R.gw ?_
    try refine wpAny_bind (wpAny_pure ?_)
    have hnd : (nth t.mask (runAt t.mask (SetTable.bits (thash P w k) % (t.mask + 1)) (SetTable.bits (thash P w k))) c).dummy = none := by
      have key : ∀ (n : Nat) (p : SetTable.Probe), p.dummy = none → (nth t.mask p n).dummy = none := by
        intro n
        induction n with
        | zero => intro p h; exact h
        | succ n ih =>
          intro p h
          refine ih (adv t.mask p) ?_
          unfold adv
          split <;> exact h
      exact key c _ rfl
    have sh : ∀ q, nth t.mask (nth t.mask (runAt t.mask (SetTable.bits (thash P w k) % (t.mask + 1)) (SetTable.bits (thash P w k))) c) q = nth t.mask (runAt t.mask (SetTable.bits (thash P w k) % (t.mask + 1)) (SetTable.bits (thash P w k))) (c + q) := fun q => (nth_add t.mask c _ q).symm
    have e1 : ∀ q, (nth t.mask (nth t.mask (runAt t.mask (SetTable.bits (thash P w k) % (t.mask + 1)) (SetTable.bits (thash P w k))) c) q).j = way t.mask (thash P w k) (c + q) := fun q => congrArg SetTable.Probe.j (sh q)
    have spec := go_spec t R.tab.ris R.tab.dm (fun i => (es[i]?.map (·.1)).getD 0) (thash P w k) (10 * SetTable.turns t.mask) (K - c) _ hnd (by omega)
      (fun q hq => by rw [e1]; exact hKb (c + q) (by omega)) (by rw [e1, show c + (K - c) = K by omega]; exact hK)
    have hashAt : ∀ (i : Nat) p, L[i]? = some p → (fun i => (es[i]?.map (·.1)).getD 0) i = thash P w p.2 := fun i p hp => by
      show (es[i]?.map (·.1)).getD 0 = _
      rw [R.entry hp] <;> rfl
    rcases spec with ⟨q, i, hq, hi, hh, hno, hpr⟩ | ⟨hno, hpr⟩
    · -- a candidate
      have hpr' : t.probe (fun i => (es[i]?.map (·.1)).getD 0) (thash P w k) (stand.getD (t.probeStart (thash P w k))) = some (.candidate (way t.mask (thash P w k) (c + q)) i (nth t.mask (runAt t.mask (SetTable.bits (thash P w k) % (t.mask + 1)) (SetTable.bits (thash P w k))) (c + (q + 1)))) := by
        rw [hst, ← e1, ← sh]
        exact hpr
      rw [hpr']
      dsimp only
      rw [e1] at hi
      -- the entry
      have hil : i < L.length := by
        have h1 : i < t.place.toList.length := (List.getElem?_eq_some_iff.mp hi).1
        have h2 := R.tab.sz
        rw [List.length_map] at h2
        rw [Array.length_toList] at h1
        omega
      have hp : L[i]? = some L[i] := List.getElem?_eq_getElem hil
      generalize hpe : L[i] = p at hp
      have hmem : p ∈ L := List.mem_of_getElem? hp
      have hpt := R.tup p hmem
      have rest : wpAny (model P w) A (searchRest a (.ref x) (thash P w k) true f es t (way t.mask (thash P w k) (c + q)) i (nth t.mask (runAt t.mask (SetTable.bits (thash P w k) % (t.mask + 1)) (SetTable.bits (thash P w k))) (c + (q + 1)))) Q E s := by
        unfold searchRest
        rw [R.entry hp]
        dsimp only
        refine wpAny_bind (wpAny_holding (wpAny_eqBool_tuple hu hpt hx ?_))
        refine wpAny_bind (wpAny_setState_of ho hd R.fits ?_)
        dsimp only
        by_cases hkk : p.2 = k
        · refine wp_if_pos (by simp [hkk]) ?_
          refine wpAny_pure (hin ?_)
          exact List.mem_map.mpr ⟨p, hmem, hkk⟩
        · refine wp_if_neg (by simp [hkk]) ?_
          try refine wpAny_bind (wpAny_pure ?_)
          rw [sameMem]
          dsimp only
          have hsl : t.slot (way t.mask (thash P w k) (c + q)) = .live i := slot_live R.tab.ris hi
          simp only [if_true, hsl, R.entry hp]
          refine wpAny_bind (wpAny_isSame_ref_self (wpAny_bind (wpAny_pure ?_)))
          simp only [if_true]
          refine wp_if_neg (by simp [hkk]) ?_
          refine search_from R hx hu hKf hK hKb hin hout f (c + (q + 1)) _ rfl (by omega) (by omega) fun i0 p0 h0 hk0 => ?_
          obtain ⟨c', a1, a2, a3⟩ := hre i0 p0 h0 hk0
          refine ⟨c', ?_, a2, a3⟩
          -- it isn't passed
          rcases Nat.lt_or_ge c' (c + q) with z | z
          · exfalso
            refine hno (c' - c) i0 (by omega) (by rw [e1, show c + (c' - c) = c' by omega]; exact a3) ?_
            exact (hashAt i0 p0 h0).trans (congrArg (thash P w) hk0)
          · rcases Nat.lt_or_ge (c + q) c' with y | y
            · omega
            · exfalso
              have ec : c' = c + q := Nat.le_antisymm y z
              rw [ec] at a3
              have s0 := slot_live R.tab.ris a3
              rw [hsl] at s0
              injection s0 with s0
              rw [← s0, hp] at h0
              exact hkk ((congrArg Prod.snd (Option.some.inj h0)).trans hk0)
      by_cases hl : t.led = true
      · refine wp_if_neg (by simp [hl]) ?_
        try refine wpAny_bind (wpAny_pure ?_)
        exact rest
      · refine wp_if_pos (by simp [hl]) ?_
        refine wpAny_bind (seen_tup hx (fun y hy => ?_) ?_)
        · obtain ⟨e, he, ee⟩ := List.mem_map.mp hy
          have he1 : e ∈ es ∧ e.1 = thash P w k := by simpa using he
          have he2 : e ∈ es.toList := by simpa using he1.1
          rw [R.rows] at he2
          obtain ⟨p2, hp2, e2⟩ := List.mem_map.mp he2
          refine ⟨p2.2, p2.1, ?_, R.tup p2 hp2⟩
          rw [← ee, ← e2]
        · refine wp_if_neg (by decide) ?_
          try refine wpAny_bind (wpAny_pure ?_)
          exact rest
    · -- the empty slot
      have hpr' : t.probe (fun i => (es[i]?.map (·.1)).getD 0) (thash P w k) (stand.getD (t.probeStart (thash P w k))) = some (.empty (way t.mask (thash P w k) K) none) := by
        have e2 : way t.mask (thash P w k) K = (nth t.mask (nth t.mask (runAt t.mask (SetTable.bits (thash P w k) % (t.mask + 1)) (SetTable.bits (thash P w k))) c) (K - c)).j := by
          rw [e1, show c + (K - c) = K by omega]
        rw [hst, e2]
        exact hpr
      rw [hpr']
      dsimp only
      refine wpAny_pure (hout fun hm => ?_)
      obtain ⟨p0, h0, hk0⟩ := List.mem_map.mp hm
      obtain ⟨i0, hi0, e0⟩ := List.getElem_of_mem h0
      have h00 : L[i0]? = some p0 := by rw [List.getElem?_eq_getElem hi0, e0]
      obtain ⟨c', a1, a2, a3⟩ := hre i0 p0 h00 hk0
      refine hno (c' - c) i0 (by omega) (by rw [e1, show c + (c' - c) = c' by omega]; exact a3) ?_
      exact (hashAt i0 p0 h00).trans (congrArg (thash P w) hk0)

/-- the search as adding asks for it -/
theorem search_at (R : SetTR P w s.heap a L es ep t) {x : Addr} {k : List Key} (hx : IsT P w s.heap k x) (hu : A.units < cLine) {Q : SetFound → Shared → Prop}
    (hin : k ∈ L.map (·.2) → Q (.there none) s)
    (hout : ∀ K, k ∉ L.map (·.2) → way t.mask (thash P w k) K ∉ t.place.toList → (∀ c, c < K → way t.mask (thash P w k) c ∈ t.place.toList) → Q (.free (way t.mask (thash P w k) K) false) s) :
    wpAny (model P w) A (setSearch a (.ref x) (thash P w k) true) Q E s := by
  have hroom := R.room
  obtain ⟨K, hKf, hK, hKb⟩ := R.tab.first (by rw [List.length_map]; omega) (thash P w k)
  have hbig : K < 100000 := by
    have : 10 * SetTable.turns t.mask ≤ 1420 := by
      unfold SetTable.turns
      rcases R.tab.mok with e | e | e <;> omega
    omega
  unfold setSearch
  refine search_from R hx hu hKf hK hKb hin (fun hn => hout K hn hK hKb) 100000 0 none rfl (Nat.zero_le _) (by omega) fun i p hp hk => ?_
  have hi : (L.map fun p => thash P w p.2)[i]? = some (thash P w k) := by rw [List.getElem?_map, hp, ← hk] <;> rfl
  have hil : i < t.place.toList.length := by
    have h1 : i < L.length := (List.getElem?_eq_some_iff.mp hp).1
    have h2 := R.tab.sz
    rw [List.length_map] at h2
    rw [Array.length_toList]
    omega
  have hj := List.getElem?_eq_getElem hil
  obtain ⟨c, hc, e⟩ := R.tab.before hK hi hj
  exact ⟨c, Nat.zero_le _, hc, by rw [hj, e]⟩
end
end AwS

namespace AwS
open PySem PySem.Spec PyProof.Rows L2
section
variable {P : Program} {w : World} {A : Around} {E : Value → Shared → Prop} {s : Shared}
/-- a tuple isn't the set -/
theorem isT_same {h h' : Heap} {k : List Key} {a b : Addr} {o : Obj} {es : Array (Int × Value)} {ep : Nat} {t : SetTable} (hb : IsT P w h k b) (ho : h.get? a = some o) (hd : o.data = .set es ep t) (hs : Heap.SameBut a h h') : IsT P w h' k b := by
  obtain ⟨o', items, n, ho', hc, hd', hi⟩ := hb
  have hne : b ≠ a := by
    rintro rfl
    obtain rfl : o' = o := Option.some.inj (ho'.symm.trans ho)
    rw [hd] at hd'
    exact nomatch hd'
  exact ⟨o', items, n, (hs.2 b hne).trans ho', hc, hd', hi⟩
theorem rows_put (L : List (Addr × List Key)) (p : Nat) (x : Addr) (k : List Key) : rowsOf P w (L.take p ++ (x, k) :: L.drop p) = (rowsOf P w L).take p ++ (thash P w k, Value.ref x) :: (rowsOf P w L).drop p := by
  unfold rowsOf
  rw [List.map_append, List.map_cons, List.map_take, List.map_drop]
theorem put_perm {α : Type} (L : List α) (p : Nat) (x : α) : (L.take p ++ x :: L.drop p).Perm (x :: L) := by
  have h : (L.take p ++ x :: L.drop p).Perm (x :: (L.take p ++ L.drop p)) := List.perm_middle
  rw [List.take_append_drop] at h
  exact h
theorem order_rows (L : List (Addr × List Key)) (es : Array (Int × Value)) (order : Array Nat) (hr : es.toList = rowsOf P w L) (hp : order.toList.Perm (List.range L.length)) :
    ∃ L2, (order.filterMap (es[·]?)).toList = rowsOf P w L2 ∧ L2.Perm L ∧ (L2.map fun p => thash P w p.2) = order.toList.map fun i => (es.map (·.1)).getD i 0 := by
  have hsz : es.size = L.length := by
    have h := congrArg List.length hr
    unfold rowsOf at h
    rw [Array.length_toList, List.length_map] at h
    exact h
  have ent : ∀ i (h : i < L.length), es[i]? = some (thash P w (L[i]).2, Value.ref (L[i]).1) := fun i h => by
    rw [← Array.getElem?_toList, hr]
    unfold rowsOf
    rw [List.getElem?_map, List.getElem?_eq_getElem h] <;> rfl
  have key : ∀ l : List Nat, (∀ i ∈ l, i < L.length) → ∃ L2 : List (Addr × List Key), l.filterMap (fun i => es[i]?) = rowsOf P w L2 ∧ L2 = l.filterMap (fun i => L[i]?) ∧ (L2.map fun p => thash P w p.2) = l.map fun i => (es.map (·.1)).getD i 0 := by
    intro l
    induction l with
    | nil => intro _; exact ⟨[], rfl, rfl, rfl⟩
    | cons i l ih =>
      intro hl
      have hi := hl i List.mem_cons_self
      obtain ⟨L2, e1, e2, e3⟩ := ih fun j hj => hl j (List.mem_cons_of_mem _ hj)
      refine ⟨L[i] :: L2, ?_, ?_, ?_⟩
      · rw [List.filterMap_cons_some (ent i hi), e1] <;> rfl
      · rw [List.filterMap_cons_some (List.getElem?_eq_getElem hi), e2]
      · rw [List.map_cons, List.map_cons, e3]
        have hi2 : i < (es.map (·.1)).size := by rw [Array.size_map, hsz]; exact hi
        have e4 : (es.map (·.1)).getD i 0 = thash P w (L[i]).2 := by
          have e5 : (es.map (·.1))[i]? = some (thash P w (L[i]).2) := by rw [Array.getElem?_map, ent i hi] <;> rfl
          simp [Array.getD_eq_getD_getElem?, e5]
        rw [e4]
  obtain ⟨L2, e1, e2, e3⟩ := key order.toList fun i hi => List.mem_range.mp (hp.mem_iff.mp hi)
  refine ⟨L2, by first | (rw [Array.toList_filterMap]; exact e1) | simpa using e1, ?_, e3⟩
  have h1 : L2.Perm ((List.range L.length).filterMap fun i => L[i]?) := by
    rw [e2]
    exact hp.filterMap _
  have h2 : (List.range L.length).filterMap (fun i => L[i]?) = L := by
    have key2 : ∀ n, n ≤ L.length → (List.range n).filterMap (fun i => L[i]?) = L.take n := by
      intro n
      induction n with
      | zero => intro _; rfl
      | succ n ih =>
        intro hn
        have hlt : n < L.length := hn
        rw [List.range_succ, List.filterMap_append, ih (Nat.le_of_lt hlt), List.take_succ, List.getElem?_eq_getElem hlt]
        rw [List.filterMap_cons_some (List.getElem?_eq_getElem hlt)] <;> rfl
    rw [key2 L.length (Nat.le_refl _), List.take_length]
  rw [h2] at h1
  exact h1

variable {a : Addr} {L : List (Addr × List Key)} {es : Array (Int × Value)} {ep : Nat} {t : SetTable}
/-- the table laid anew, larger -/
theorem relay_at {o : Obj} (ho : s.heap.get? a = some o) (hex : o.ExactSet) (hd : o.data = .set es ep t) (hrows : es.toList = rowsOf P w L) (hsz : t.place.size = es.size) (hdm : t.dummies = #[]) (hfl : es.size ≤ t.mask)
    (nd : (L.map (·.2)).Nodup) (tup : ∀ p ∈ L, IsT P w s.heap p.2 p.1) (ld : w.params.followText "set-order" = true ∨ t.led = true) (few : L.length < 64) {wanted M : Nat}
    (hw : SetTable.sizeAbove wanted - 1 = M) (hM : MaskOk M) (hw2 : SetTable.sizeAbove wanted ≤ 128) (hn : L.length * 5 < M * 3) {Q : Unit → Shared → Prop}
    (hQ : ∀ h' L' es' ep' t', Heap.SameBut a s.heap h' → SetTR P w h' a L' es' ep' t' → L'.Perm L → Q () { s with heap := h' }) : wpAny (model P w) A (setRelay a wanted) Q E s := by
  have hsl : es.size = L.length := by
    have h := congrArg List.length hrows
    unfold rowsOf at h
    rw [Array.length_toList, List.length_map] at h
    exact h
  have hfits : t.fits es.size = true := by
    unfold SetTable.fits SetTable.fill
    rw [hdm, Bool.and_eq_true, beq_iff_eq, decide_eq_true_eq]
    show t.place.size = es.size ∧ t.place.size + 0 ≤ t.mask
    omega
  obtain ⟨t', order, e, hp, T, em, el, ep', ed⟩ := relaid_ok t (hs := es.map (·.1)) (wanted := wanted) hw hM (by rw [Array.size_map, hsl]; omega)
  rw [Array.size_map, hsl] at hp
  obtain ⟨L2, r1, r2, r3⟩ := order_rows L es order hrows hp
  rw [← r3] at T
  have hs2 : (order.filterMap (es[·]?)).size = es.size := by
    have h := congrArg List.length r1
    unfold rowsOf at h
    rw [Array.length_toList, List.length_map, r2.length_eq] at h
    rw [h, hsl]
  rw [setRelay_eq]
  refine wpAny_bind (wpAny_setState_of ho hd hfits ?_)
  dsimp only
  refine wp_if_neg (by rw [sizeLine_eq]; omega) ?_
  try refine wpAny_bind (wpAny_pure ?_)
  rw [e]
  dsimp only
  refine wpAny_bind ?_
  refine wp_if_neg (by rw [hs2]; simp) ?_
  try refine wpAny_bind (wpAny_pure ?_)
  refine wpAny_pure ?_
  dsimp only
  refine wpAny_storeSet_of ho hd ?_ (by rw [hs2, hsl, sizeLine_eq]; omega)
  have sb : Heap.SameBut a s.heap (s.heap.update a (Obj.putSet (order.filterMap (es[·]?)) t')) := Heap.SameBut.update ..
  refine hQ _ L2 (order.filterMap (es[·]?)) (ep + 1) t' sb ?_ r2
  refine ⟨⟨_, store_at ho hd, ⟨hex.1, hex.2.1, hex.2.2⟩, rfl⟩, r1, T, ?_, fun p hpm => isT_same (tup p (r2.mem_iff.mp hpm)) ho hd sb, by rw [el]; exact ld, ?_, by rw [r2.length_eq]; exact few⟩
  · exact (r2.map (·.2)).nodup_iff.mpr nd
  · rw [r2.length_eq, em]
    exact hn

/-- ADDING -/
theorem add_at (R : SetTR P w s.heap a L es ep t) {x : Addr} {k : List Key} (hk0 : ∃ s0 k', k = .inr s0 :: k') (hx : IsT P w s.heap k x) (hu : A.units < cLine) (hfew : L.length + 1 < 64) {Q : Bool → Shared → Prop}
    (hQ : ∀ b h' L' es' ep' t', Heap.SameBut a s.heap h' → SetTR P w h' a L' es' ep' t' → (k ∈ L.map (·.2) → L' = L) → (k ∉ L.map (·.2) → L'.Perm ((x, k) :: L)) → Q b { s with heap := h' }) :
    wpAny (model P w) A (setAddHashed a (.ref x) (thash P w k)) Q E s := by
  obtain ⟨o, ho, hex, hd⟩ := R.ob
  have hsl := R.size
  have hroom := R.room
  unfold setAddHashed
  refine wpAny_holding ?_
  rw [show (100000 : Nat) = 99999 + 1 from rfl, setAddHashedIn_succ]
  refine wpAny_bind (wpAny_setState_of ho hd R.fits ?_)
  dsimp only
  refine wp_if_neg (by simp [byScan, Value.scannable]) ?_
  try refine wpAny_bind (wpAny_pure ?_)
  refine wpAny_bind (search_at R hx hu (fun hm => ?_) fun K hm hK hb => ?_)
  · dsimp only
    exact wpAny_pure (hQ false s.heap L es ep t (Heap.SameBut.refl a s.heap) R (fun _ => rfl) fun z => absurd hm z)
  · dsimp only
    refine wpAny_bind (wpAny_setState_of ho hd R.fits ?_)
    dsimp only
    obtain ⟨q1, q2, q3, q4, q5, q6, q7, q8, q9⟩ := R.tab.put hK hb
    generalize hpt : t.put (way t.mask (thash P w k) K) = pt at q1 q3 q4 q5 q6 q7 q8 q9 ⊢
    obtain ⟨t1, p⟩ := pt
    dsimp only at q1 q3 q4 q5 q6 q7 q8 q9 ⊢
    subst q1
    refine byv hk0 hx fun bv => ?_
    have fresh : ∃ t2 : SetTable, (if bv = true then t1 else { t1 with plain := false }) = t2 ∧ TabOk t2 (List.take (SetTable.below t.place (way t.mask (thash P w k) K)) (List.map (fun p => thash P w p.snd) L) ++ thash P w k :: List.drop (SetTable.below t.place (way t.mask (thash P w k) K)) (List.map (fun p => thash P w p.snd) L)) ∧ t2.mask = t.mask ∧ t2.led = t.led ∧ t2.fill = (L.map fun p => thash P w p.2).length + 1 := by
      cases bv with
      | true => exact ⟨t1, if_pos rfl, q3, q4, q5, q9⟩
      | false => exact ⟨{ t1 with plain := false }, if_neg Bool.false_ne_true, tab_plain q3, q4, q5, q9⟩
    clear q3 q4 q5 q6 q7 q8 q9
    obtain ⟨t2, ht2, q3, q4, q5, q9⟩ := fresh
    rw [ht2]
    clear ht2 hpt
    clear t1
    rename SetTable => t1
    have hin : (SetTable.insertAt es (SetTable.below t.place (way t.mask (thash P w k) K)) (thash P w k, Value.ref x)).toList = rowsOf P w (L.take (SetTable.below t.place (way t.mask (thash P w k) K)) ++ (x, k) :: L.drop (SetTable.below t.place (way t.mask (thash P w k) K))) := by
      rw [SetTable.toList_insertAt, rows_put, R.rows]
    generalize hpp : SetTable.below t.place (way t.mask (thash P w k) K) = p at q2 q3 hin ⊢
    have pm := put_perm L p (x, k)
    have hlen : (L.take p ++ (x, k) :: L.drop p).length = L.length + 1 := pm.length_eq
    have hhs : (L.take p ++ (x, k) :: L.drop p).map (fun p => thash P w p.2) = (L.map fun p => thash P w p.2).take p ++ thash P w k :: (L.map fun p => thash P w p.2).drop p := by
      rw [List.map_append, List.map_cons, List.map_take, List.map_drop]
    rw [← hhs] at q3
    have nd1 : ((L.take p ++ (x, k) :: L.drop p).map (·.2)).Nodup := by
      refine (pm.map (·.2)).nodup_iff.mpr ?_
      rw [List.map_cons]
      exact List.nodup_cons.mpr ⟨hm, R.nd⟩
    have hes : (SetTable.insertAt es p (thash P w k, Value.ref x)).size = L.length + 1 := by
      have h := congrArg List.length hin
      unfold rowsOf at h
      rw [Array.length_toList, List.length_map, hlen] at h
      exact h
    generalize SetTable.insertAt es p (thash P w k, Value.ref x) = es1 at hin hes ⊢
    generalize L.take p ++ (x, k) :: L.drop p = L1 at pm hlen q3 nd1 hin
    refine wpAny_bind (wpAny_storeSet_of ho hd ?_ (by rw [hes, sizeLine_eq]; omega))
    have sb : Heap.SameBut a s.heap (s.heap.update a (Obj.putSet es1 t1)) := Heap.SameBut.update ..
    have ho1 := store_at (es' := es1) (t' := t1) ho hd
    generalize s.heap.update a (Obj.putSet es1 t1) = h1 at sb ho1 ⊢
    have tup1 : ∀ p ∈ L1, IsT P w h1 p.2 p.1 := fun p hp => by
      rcases List.mem_cons.mp (pm.mem_iff.mp hp) with e | hp
      · rw [e]; exact isT_same hx ho hd sb
      · exact isT_same (R.tup p hp) ho hd sb
    have ld1 : w.params.followText "set-order" = true ∨ t1.led = true := by rw [q5]; exact R.led
    by_cases hf : t1.tooFull = true
    · first
        | (refine wpAny_bind ?_; refine wp_if_pos (by simp [hf]) ?_)
        | (refine wp_if_pos (by simp [hf]) ?_; refine wpAny_bind ?_)
      have hfull : (L.length + 1) * 5 ≥ t1.mask * 3 := by
        have h := hf
        unfold SetTable.tooFull at h
        rw [decide_eq_true_eq, q9, List.length_map] at h
        exact h
      rw [hsl]
      have hsz1 : t1.place.size = es1.size := by
        have h := q3.sz
        rw [List.length_map, hlen] at h
        rw [h, hes]
      have cases2 : (t.mask = 7 ∧ L.length = 4) ∨ (t.mask = 31 ∧ L.length = 18) := by
        rcases R.tab.mok with e | e | e
        · left; rw [q4, e] at hfull; rw [e] at hroom; exact ⟨e, by omega⟩
        · right; rw [q4, e] at hfull; rw [e] at hroom; exact ⟨e, by omega⟩
        · exfalso; rw [q4, e] at hfull; omega
      have go : ∀ M, SetTable.sizeAbove (SetTable.grown (L.length + 1)) - 1 = M → MaskOk M → SetTable.sizeAbove (SetTable.grown (L.length + 1)) ≤ 128 → (L.length + 1) * 5 < M * 3 →
          wpAny (model P w) A (setRelay a (SetTable.grown (L.length + 1))) (fun _ s' => wpAny (model P w) A (pure true) Q E s') E { s with heap := h1 } := fun M h1' h2' h3' h4' => by
        refine relay_at (s := { s with heap := h1 }) ho1 ⟨hex.1, hex.2.1, hex.2.2⟩ rfl hin hsz1 q3.dm (by rw [hes, q4]; rcases cases2 with ⟨e, e2⟩ | ⟨e, e2⟩ <;> omega) nd1 tup1 ld1 (by rw [hlen]; exact hfew) h1' h2' h3' (by rw [hlen]; exact h4') ?_
        intro h2 L2 es2 ep2 t2 sb2 R2 pm2
        refine wpAny_pure (hQ true h2 L2 es2 ep2 t2 (sb.trans sb2) R2 (fun z => absurd z hm) fun _ => pm2.trans pm)
      rcases cases2 with ⟨_, e2⟩ | ⟨_, e2⟩
      · refine go 31 (by rw [e2, size_20]) (.inr (.inl rfl)) (by rw [e2, size_20]; decide) (by omega)
      · refine go 127 (by rw [e2, size_76]) (.inr (.inr rfl)) (by rw [e2, size_76]; decide) (by omega)
    · first
        | refine wp_if_neg (by simp [hf]) ?_
        | (refine wpAny_bind ?_; refine wp_if_neg (by simp [hf]) ?_; refine wpAny_pure ?_)
      refine wpAny_pure (hQ true h1 L1 es1 (ep + 1) t1 sb ⟨⟨_, ho1, ⟨hex.1, hex.2.1, hex.2.2⟩, rfl⟩, hin, q3, nd1, tup1, ld1, ?_, by rw [hlen]; exact hfew⟩ (fun z => absurd z hm) fun _ => pm)
      have h := hf
      unfold SetTable.tooFull at h
      rw [decide_eq_true_eq, q9, List.length_map] at h
      rw [hlen]
      omega
end
end AwS

namespace AwS
open PySem PySem.Spec PyProof.Rows L2

/-- what the set has got from the first i items -/
structure Got (ks : List (Addr × List Key)) (i : Nat) (L : List (Addr × List Key)) : Prop where
  sub : ∀ p ∈ L, p ∈ ks.take i
  all : ∀ p ∈ ks.take i, p.2 ∈ L.map (·.2)
  len : L.length ≤ i
theorem Got.zero (ks : List (Addr × List Key)) : Got ks 0 [] := ⟨fun p h => (by cases h), fun p h => (by simp at h), Nat.le_refl _⟩
theorem take_next {α : Type} {l : List α} {i : Nat} {x : α} (h : l[i]? = some x) : l.take (i + 1) = l.take i ++ [x] := by
  rw [List.take_succ, h] <;> rfl
theorem Got.same {ks L : List (Addr × List Key)} {i : Nat} {x : Addr × List Key} (g : Got ks i L) (h : ks[i]? = some x) (hm : x.2 ∈ L.map (·.2)) : Got ks (i + 1) L := by
  refine ⟨fun p hp => ?_, fun p hp => ?_, Nat.le_succ_of_le g.len⟩
  · rw [take_next h]
    exact List.mem_append_left _ (g.sub p hp)
  · rw [take_next h] at hp
    rcases List.mem_append.mp hp with z | z
    · exact g.all p z
    · rw [List.mem_singleton.mp z]; exact hm
theorem Got.more {ks L L' : List (Addr × List Key)} {i : Nat} {x : Addr × List Key} (g : Got ks i L) (h : ks[i]? = some x) (pm : L'.Perm (x :: L)) : Got ks (i + 1) L' := by
  refine ⟨fun p hp => ?_, fun p hp => ?_, ?_⟩
  · rw [take_next h]
    rcases List.mem_cons.mp (pm.mem_iff.mp hp) with e | z
    · rw [e]; exact List.mem_append_right _ (List.mem_singleton.mpr rfl)
    · exact List.mem_append_left _ (g.sub p z)
  · rw [(pm.map (·.2)).mem_iff, List.map_cons]
    rw [take_next h] at hp
    rcases List.mem_append.mp hp with z | z
    · exact List.mem_cons_of_mem _ (g.all p z)
    · rw [List.mem_singleton.mp z]; exact List.mem_cons_self
  · rw [pm.length_eq, List.length_cons]
    exact Nat.succ_le_succ g.len

section
variable {P : Program} {w : World} {A : Around} {E : Value → Shared → Prop} {s : Shared}
theorem isT_keep {h h' : Heap} {k : List Key} {b : Addr} (x : IsT P w h k b) (hk : ∀ c o, h.get? c = some o → h'.get? c = some o) : IsT P w h' k b := by
  obtain ⟨o, items, n, ho, r⟩ := x
  exact ⟨o, items, n, hk b o ho, r⟩
theorem SetTR.keep {h h' : Heap} {a : Addr} {L : List (Addr × List Key)} {es : Array (Int × Value)} {ep : Nat} {t : SetTable} (R : SetTR P w h a L es ep t) (ha : ∀ o, h.get? a = some o → h'.get? a = some o) (ht : ∀ p ∈ L, IsT P w h' p.2 p.1) : SetTR P w h' a L es ep t := by
  obtain ⟨o, ho, r⟩ := R.ob
  exact ⟨⟨o, ha o ho, r⟩, R.rows, R.tab, R.nd, ht, R.led, R.room, R.few⟩
/-- a new set -/
theorem setTR_fresh {h : Heap} {a : Addr} (ho : h.get? a = some { cls := .type "set", dict := none, data := .set #[] 0 (.fresh 0 0 (!w.params.followText "set-order")) }) : SetTR P w h a [] #[] 0 (.fresh 0 0 (!w.params.followText "set-order")) where
  ob := ⟨_, ho, ⟨rfl, rfl, rfl⟩, rfl⟩
  rows := rfl
  tab := ⟨List.Pairwise.nil, rfl, rfl, .inl rfl, fun x hx => (by cases hx), fun i h j hi => (by simp at hi)⟩
  nd := List.nodup_nil
  tup := fun p hp => (by cases hp)
  led := by
    show _ ∨ (!w.params.followText "set-order") = true
    cases w.params.followText "set-order"
    · exact .inr rfl
    · exact .inl rfl
  room := by
    show 0 * 5 < 7 * 3
    decide
  few := by
    show 0 < 64
    decide

/-- set.update's loop -/
theorem set_update_tups {I : Addr} {fp wr : List Addr} {G : Array GenState → Array GenState → Prop} {n : Nat} {Pv : Nat → Value → Prop} {St : Nat → Shared → Prop} {R : Result → Shared → Prop}
    (W : WalksS P w A.in1 I fp wr G n Pv St) (S : Addr) (hSf : S ∉ fp) (ks : List (Addr × List Key)) (hn : n = ks.length) (hfew : ks.length < 64) (hval : ∀ i v, Pv i v → ∃ p, ks[i]? = some p ∧ v = .ref p.1)
    (h0 : Heap) (hk0 : ∀ p ∈ ks, ∃ s0 k', p.2 = .inr s0 :: k') (hk : ∀ p ∈ ks, IsT P w h0 p.2 p.1) (hS0 : h0.get? S = none) (hw0 : ∀ b ∈ wr, h0.get? b = none) (hu : A.in1.units < cLine) :
    ∀ (k i : Nat) (s : Shared), n - i = k → i ≤ n → St i s → (∀ b o, h0.get? b = some o → s.heap.get? b = some o) → (∃ L es ep t, SetTR P w s.heap S L es ep t ∧ Got ks i L) →
      (∀ s' L es ep t, Moved (S :: wr) G s s' → SetTR P w s'.heap S L es ep t → Got ks n L → (∀ b o, h0.get? b = some o → s'.heap.get? b = some o) → R (.ok (.ret .none)) s') →
      codeAny (model P w) A (.builtin "set.update.loop" ⟨[.ref S, .ref I], []⟩) R s := by
  have hSw : S ∉ wr := fun h => hSf (W.sub _ h)
  have hsub : ∀ b ∈ wr, b ∈ S :: wr := fun b hb => List.mem_cons_of_mem _ hb
  have keepM : ∀ {s s' : Shared}, Moved wr G s s' → (∀ b o, h0.get? b = some o → s.heap.get? b = some o) → ∀ b o, h0.get? b = some o → s'.heap.get? b = some o := fun hm hkp b o e =>
    hm.heap b o (fun hb => by rw [hw0 b hb] at e; cases e) (hkp b o e)
  intro k
  induction k with
  | zero =>
    intro i s hk' hi hst hkp ⟨L, es, ep, t, hS, g⟩ hR
    have hin : i = n := by omega
    subst hin
    refine codeAny_builtin F.entry_set_update_loop ?_
    rw [Around.under_plainId F.plain_set_update_loop _]
    show wpAny _ A.in1 (pyNext (.ref I) >>= _) _ _ s
    refine wpAny_bind (W.done s _ _ hst fun s' hm => ?_)
    show wpAny _ A.in1 (ret Value.none) _ _ s'
    have hkp' := keepM hm hkp
    have sub : ∀ p ∈ L, p ∈ ks := fun p hp => List.mem_of_mem_take (g.sub p hp)
    exact wpAny_pure (hR s' L es ep t (hm.mono hsub) (hS.keep (fun o e => hm.heap S o hSw e) fun p hp => isT_keep (hk p (sub p hp)) hkp') g hkp')
  | succ k ih =>
    intro i s hk' hi hst hkp ⟨L, es, ep, t, hS, g⟩ hR
    have hlt : i < n := by omega
    refine codeAny_builtin F.entry_set_update_loop ?_
    rw [Around.under_plainId F.plain_set_update_loop _]
    show wpAny _ A.in1 (pyNext (.ref I) >>= _) _ _ s
    refine wpAny_bind (W.item i s _ _ hlt hst fun v s' hP hst' hm => ?_)
    obtain ⟨p, hp, rfl⟩ := hval i v hP
    have hkp' := keepM hm hkp
    have sub : ∀ p ∈ L, p ∈ ks := fun p hp => List.mem_of_mem_take (g.sub p hp)
    have hS' : SetTR P w s'.heap S L es ep t := hS.keep (fun o e => hm.heap S o hSw e) fun q hq => isT_keep (hk q (sub q hq)) hkp'
    have hx : IsT P w s'.heap p.2 p.1 := isT_keep (hk p (List.mem_of_getElem? hp)) hkp'
    show wpAny _ A.in1 (holding [Value.ref p.1] (setAdd S (.ref p.1)) >>= _) _ _ s'
    refine wpAny_bind (wpAny_holding ?_)
    unfold setAdd
    refine wpAny_holding ?_
    refine wpAny_bind (wpAny_pyHash_tuple hu hx ?_)
    refine add_at (s := { s' with toks := s'.toks + (p.2.length + 1) }) hS' (hk0 p (List.mem_of_getElem? hp)) hx hu (by have := g.len; omega) fun b h' L' es' ep' t' hsb hS2 c1 c2 => ?_
    have g' : Got ks (i + 1) L' := by
      rcases Classical.em (p.2 ∈ L.map (·.2)) with c | c
      · rw [c1 c]; exact g.same hp c
      · exact g.more hp (c2 c)
    have hkp2 : ∀ b o, h0.get? b = some o → h'.get? b = some o := fun b o e => (hsb.2 b (fun z => by rw [z, hS0] at e; cases e)).trans (hkp' b o e)
    refine wpAny_pure ⟨plainId_quiet F.plain_set_update_loop _, ih (i + 1) _ (by omega) hlt (W.frame _ s' _ _ hst' (Nat.le_add_right _ _) fun b hb o e => ?_) hkp2 ⟨L', es', ep', t', hS2, g'⟩ fun s'' L2 es2 ep2 t2 hm'' hS'' g'' hkp'' => ?_⟩
    · rw [hsb.2 b (fun h : b = S => hSf (by rw [← h]; exact hb))]; exact e
    · refine hR s'' L2 es2 ep2 t2 (Moved.trans W.gtrans ((hm.mono hsub).then_heap (Nat.le_add_right _ _) fun b o hb e => ?_) hm'') hS'' g'' hkp''
      rw [hsb.2 b (fun h : b = S => hb (by rw [h]; exact List.mem_cons_self))]; exact e

/-- set(xs) -/
theorem call_set_tups {l : Addr} {items : Array Value} (ks : List (Addr × List Key)) {Q : Value → Shared → Prop} (hh : A.handled = none) (hl : s.heap.IsList l items) (hit : items.toList = ks.map fun p => Value.ref p.1)
    (hk0 : ∀ p ∈ ks, ∃ s0 k', p.2 = .inr s0 :: k') (hk : ∀ p ∈ ks, IsT P w s.heap p.2 p.1) (hfew : ks.length < 64) (hu : A.units + 3 < cLine)
    (h : ∀ (h' : Heap) (tk : Nat) L es ep t, SetTR P w h' s.heap.objs.size L es ep t → Got ks ks.length L → (∀ b o, s.heap.get? b = some o → h'.get? b = some o) → Q (.ref s.heap.objs.size) { s with heap := h', toks := tk }) :
    wpAny (model P w) A (call (.type "set") [.ref l]) Q E s := by
  have hisz : items.size = ks.length := by
    have q := congrArg List.length hit
    rw [Array.length_toList, List.length_map] at q
    exact q
  obtain ⟨c, tl, hmro⟩ := F.called_set.mro
  have hmade := F.called_set.made
  have hsub := F.called_set.sub
  refine wpAny_call (codeAny_of_tree ?_)
  show wpAny _ _ (callAny (.type "set") _) _ _ _
  refine wpAny_pure ⟨Code.quiet_builtin _ (by decide +kernel), codeAny_builtin F.entry_type_call ?_⟩
  rw [Around.under_plain (weight_type_call_type "set" [.ref l] []) rfl]
  have h1 := F.called_set.notType
  have h2 := F.called_set.canCreate
  have hct := F.typeCall_set_1 (.ref l)
  repeat (any_goals (first | assumption | wp_step))

  refine codeAny_mono (code_set_led1 (.ref l) (E := E) (Q₁ := fun obj s₁ => obj = .ref s.heap.objs.size ∧ s₁ = { s with heap := s.heap.push { cls := .type "set", dict := none, data := .set #[] 0 (.fresh 0 0 (!w.params.followText "set-order")) } }) ⟨rfl, rfl⟩) fun r s₁ hr => ?_
  cases r with
  | error e => exact hr
  | ok fl =>
    cases fl with
    | ret obj =>
      obtain ⟨rfl, rfl⟩ := hr
      have hS : (s.heap.push { cls := .type "set", dict := none, data := .set #[] 0 (.fresh 0 0 (!w.params.followText "set-order")) }).get? s.heap.objs.size = some { cls := .type "set", dict := none, data := .set #[] 0 (.fresh 0 0 (!w.params.followText "set-order")) } := Heap.get?_push_size _ rfl
      have hT : Shared.TypeIs { s with heap := s.heap.push { cls := .type "set", dict := none, data := .set #[] 0 (.fresh 0 0 (!w.params.followText "set-order")) } } (.ref s.heap.objs.size) "set" := ⟨_, hS, rfl⟩
      have hli := F.called_set.init.lookup
      have hbi := F.called_set.init.bind (.ref s.heap.objs.size)
      repeat (any_goals (first | assumption | wp_step))

      refine codeAny_mono (codeAny_call_builtin (R := wants (fun r s₂ => r = .none ∧ ∃ h' tk L es ep t, s₂ = { s with heap := h', toks := tk } ∧ SetTR P w h' s.heap.objs.size L es ep t ∧ Got ks ks.length L ∧
          (∀ b o, s.heap.get? b = some o → h'.get? b = some o)) E) F.called_set.init.plain F.entry_set_init (check_set_init_1 hT ?_)) fun r₂ s₂ hr₂ => ?_
      · obtain ⟨ol, hol, hcl, nl, hdl⟩ := hl
        obtain ⟨ocls, odict, odata, oslots⟩ := ol
        simp only at hcl hdl
        subst hcl; subst hdl
        have hol' : (s.heap.push { cls := .type "set", dict := none, data := .set #[] 0 (.fresh 0 0 (!w.params.followText "set-order")) }).get? l = some { cls := .type "list", dict := odict, data := .seq items nl, slots := oslots } := Heap.get?_push_of_some _ hol
        have hsls := F.sub_list_set
        have hslf := F.sub_list_frozenset
        have hne : (Value.type "list" == Value.type "dict") = false := by decide
        have hl1 : (s.heap.push { cls := .type "set", dict := none, data := .set #[] 0 (.fresh 0 0 (!w.params.followText "set-order")) }).IsList l items := ⟨_, hol', rfl, nl, rfl⟩
        unfold Builtin.«set.__init__» noKeywords Builtin.Frozenset.updateFrom
        generalize hPI : pyIter = PI
        wp_walk
        subst hPI

        refine wpAny_pyIter_list hl1 ?_
        refine wpAny_bind (wpAny_runValue ?_)
        have hlS : l < s.heap.objs.size := Heap.lt_size hol
        have hh3 : A.in1.in1.in1.handled = none := by simp [hh]
        have hz1 : (s.heap.push { cls := .type "set", dict := none, data := .set #[] 0 (.fresh 0 0 (!w.params.followText "set-order")) }).objs.size = s.heap.objs.size + 1 := Heap.size_push ..
        have hneI : l ≠ (s.heap.push { cls := .type "set", dict := none, data := .set #[] 0 (.fresh 0 0 (!w.params.followText "set-order")) }).objs.size := by
          rw [Heap.size_push]; exact Nat.ne_of_lt (Nat.lt_succ_of_lt hlS)
        have hSf : s.heap.objs.size ∉ [(s.heap.push { cls := .type "set", dict := none, data := .set #[] 0 (.fresh 0 0 (!w.params.followText "set-order")) }).objs.size, l] := by
          rw [Heap.size_push]; simp only [List.mem_cons, List.mem_singleton, List.not_mem_nil, or_false, not_or]
          exact ⟨Nat.ne_of_lt (Nat.lt_succ_self _), Nat.ne_of_gt hlS⟩
        have hval : ∀ (i : Nat) (v : Value), items[i]? = some v → ∃ p, ks[i]? = some p ∧ v = .ref p.1 := fun i v hv => by
          have q : items.toList[i]? = some v := by rw [Array.getElem?_toList]; exact hv
          rw [hit, List.getElem?_map] at q
          cases hq : ks[i]? with
          | none => rw [hq] at q; cases q
          | some p =>
            rw [hq] at q
            exact ⟨p, rfl, (Option.some.inj q).symm⟩
        have none_of : ∀ b, s.heap.objs.size ≤ b → s.heap.get? b = none := fun b hb => by
          cases q : s.heap.get? b with
          | none => rfl
          | some o => exact absurd (Nat.lt_of_lt_of_le (Heap.lt_size q) hb) (Nat.lt_irrefl _)
        refine set_update_tups ((Walks.list hh3 _ l hneI items).toS) s.heap.objs.size
          hSf ks hisz hfew hval s.heap hk0 hk (none_of _ (Nat.le_refl _)) (fun b hb => none_of b (by
            rw [List.mem_singleton.mp hb, Heap.size_push]
            exact Nat.le_succ _)) hu (items.size - 0) 0 _ (by omega) (Nat.zero_le _)
          ⟨⟨_, Heap.get?_push_size _ rfl, rfl, rfl⟩, (hl1.push _)⟩ (fun b o e => Heap.get?_push_of_some _ (Heap.get?_push_of_some _ e)) ?hS0 ?hR
        case hS0 =>
          have hget : ((s.heap.push { cls := .type "set", dict := none, data := .set #[] 0 (.fresh 0 0 (!w.params.followText "set-order")) }).push { cls := .type "list_iterator", data := .fields #[.ref l, .int 0 0] }).get? s.heap.objs.size
              = some { cls := .type "set", dict := none, data := .set #[] 0 (.fresh 0 0 (!w.params.followText "set-order")) } := Heap.get?_push_of_some _ hS
          exact ⟨[], #[], 0, _, setTR_fresh hget, Got.zero ks⟩
        case hR =>
          intro s' L es ep t hm hS' g' hkp
          obtain ⟨h', g2, d', tk', os'⟩ := s'
          have eg : g2 = s.gens := hm.gens
          have ed : d' = s.drawn := hm.drawn
          have eo : os' = s.os := hm.os
          subst eg; subst ed; subst eo
          show wpAny _ _ _ _ _ _
          refine wpAny_pure ?_
          show wpAny _ _ (ret Value.none) _ _ _
          rw [hisz] at g'
          exact wpAny_pure ⟨rfl, h', tk', L, es, ep, t, rfl, hS', g', hkp⟩

      · cases r₂ with
        | error e => exact hr₂
        | ok fl₂ =>
          cases fl₂ with
          | ret r =>
            obtain ⟨rfl, h', tk, L, es, ep, t, rfl, hS', g', hk'⟩ := hr₂
            repeat (any_goals (first | assumption | wp_step))
            exact h _ _ _ _ _ _ hS' g' hk'
          | _ => exact hr₂.elim
    | _ => exact hr.elim
end
end AwS

/-! R9: set(xs), xs texts; sorted(set(xs)): the proofs of HandS.Set and HandS.SetFor (ints) turned to texts. -/
namespace AwT
open PySem PySem.Spec PyProof.Rows L2
theorem strs_get : ∀ {us : List Value} {xs : List Str}, StrsAre us xs → ∀ {i : Nat} {v : Value}, us[i]? = some v → ∃ k t, xs[i]? = some k ∧ v = .str k t
  | _, _, .nil, i, v, h => by simp at h
  | _, _, .cons x t h, 0, v, e => ⟨x, t, rfl, by simpa using e.symm⟩
  | _, _, .cons x t h, i + 1, v, e => strs_get h (by simpa using e)
def keyOfS (e : Int × Value) : Str := match e.2 with | .str k _ => k | _ => Str.empty
def GoodS (w : World) (e : Int × Value) : Prop := ∃ k tk, e.2 = Value.str k tk ∧ e.1 = hashStr w k
/-- the set of ints at a: S its members, n their number; its table rises and can be walked -/
def SetS (w : World) (h : Heap) (a : Addr) (S : Str → Bool) (n : Nat) : Prop :=
  ∃ o es ep t, h.get? a = some o ∧ o.ExactSet ∧ o.data = .set es ep t ∧ (∀ e ∈ es.toList, GoodS w e) ∧ (es.toList.map keyOfS).Nodup ∧ (∀ k, S k = true ↔ k ∈ es.toList.map keyOfS) ∧
    es.size < scanBound ∧ t.fits es.size = true ∧ es.size = n ∧ Ris t.place.toList ∧ (w.params.followText "set-order" = true ∨ t.led = true)

section
variable {P : Program} {w : World} {h h' : Heap} {a : Addr} {S : Str → Bool} {n : Nat}

theorem SetS.at (R : SetS w h a S n) (k : ∀ o, h.get? a = some o → h'.get? a = some o) : SetS w h' a S n := by
  obtain ⟨o, es, ep, t, ho, r⟩ := R
  exact ⟨o, es, ep, t, k o ho, r⟩
theorem SetS.lt (R : SetS w h a S n) : a < h.objs.size := by
  obtain ⟨o, es, ep, t, ho, r⟩ := R
  exact Heap.lt_size ho
theorem SetS.congr {S' : Str → Bool} (R : SetS w h a S n) (e : ∀ k, S' k = S k) : SetS w h a S' n := by
  have q : S' = S := funext e
  rw [q]; exact R
theorem good_elems {l : List (Int × Value)} (g : ∀ e ∈ l, GoodS w e) : ElemsOf (strKind P w) l := fun e he => by
  obtain ⟨k, tk, h1, h2⟩ := g e he
  exact ⟨⟨k, by rw [h1]; exact strKind_is P w k tk, h2⟩, by rw [h1] <;> rfl⟩
theorem good_is {e : Int × Value} (g : GoodS w e) (k : Str) : (strKind P w).is k e.2 = true ↔ keyOfS e = k := by
  obtain ⟨k0, tk, h1, _⟩ := g
  unfold keyOfS
  rw [h1]
  show (Value.isStrOf k (.str k0 tk) = true) ↔ k0 = k
  constructor
  · intro z
    obtain ⟨t, e⟩ := Value.isStrOf_shape z
    injection e
  · intro z
    rw [z]
    exact strKind_is P w k tk
theorem good_mem {l : List (Int × Value)} (g : ∀ e ∈ l, GoodS w e) (k : Str) : k ∈ l.map keyOfS ↔ ∃ e ∈ l, (strKind P w).is k e.2 = true := by
  rw [List.mem_map]
  constructor
  · rintro ⟨e, he, q⟩
    exact ⟨e, he, (good_is (g e he) k).2 q⟩
  · rintro ⟨e, he, q⟩
    exact ⟨e, he, (good_is (g e he) k).1 q⟩
theorem SetS.setOf (R : SetS w h a S n) : h.SetOf (strKind P w) a S n := by
  obtain ⟨o, es, ep, t, ho, hx, hd, g, nd, hm, hb, hf, hn, _⟩ := R
  exact ⟨o, es, ep, t, ho, hx, hd, good_elems g, fun k => (hm k).trans (good_mem g k), hb, hf, hn⟩
end

section
variable {P : Program} {w : World} {A : Around} {E : Value → Shared → Prop} {s : Shared} {a : Addr} {S : Str → Bool} {n : Nat}

/-! ### add -/
theorem setS_add_tail {g : Bool → Sem Unit} (hg : ∀ (b : Bool) (s₁ : Shared) (Q' : Unit → Shared → Prop), Q' () s₁ → wpAny (model P w) A (g b) Q' E s₁)
    {o : Obj} {es : Array (Int × Value)} {ep : Nat} {t : SetTable} (ho : s.heap.get? a = some o) (hex : o.ExactSet) (hd : o.data = .set es ep t)
    {es1 : Array (Int × Value)} {t2 : SetTable} {S' : Str → Bool} (g1 : ∀ e ∈ es1.toList, GoodS w e) (nd1 : (es1.toList.map keyOfS).Nodup) (m1 : ∀ k, S' k = true ↔ k ∈ es1.toList.map keyOfS)
    (hb1 : es1.size < scanBound) (hf2 : t2.fits es1.size = true) (hr : Ris t2.place.toList) (hl : w.params.followText "set-order" = true ∨ t2.led = true) {wasDummy : Bool} {R : Option Bool → Shared → Prop}
    (hR : ∀ h', Heap.SameBut a s.heap h' → SetS w h' a S' es1.size → R (some true) { s with heap := h' }) :
    wpAny (model P w) A (do
        storeSet a es1 t2
        if (!wasDummy && t2.tooFull) = true then do
            g (relayAll t2 es1 (SetTable.grown es1.size)).2.2
            storeSet a (relayAll t2 es1 (SetTable.grown es1.size)).1 (relayAll t2 es1 (SetTable.grown es1.size)).2.1
            pure (some true)
          else pure (some true)) R E s := by
  refine wpAny_bind (wpAny_storeSet_of ho hd ?_ (fits_of_scanBound hb1))
  have ho1 := store_at (es' := es1) (t' := t2) ho hd
  have sb1 := Heap.SameBut.update s.heap a (Obj.putSet es1 t2)
  split
  · have pm := relayAll_perm t2 es1 (SetTable.grown es1.size)
    have hf3 := relayAll_fits t2 es1 (SetTable.grown es1.size)
    have hr3 := relayAll_ris t2 es1 (SetTable.grown es1.size)
    have hl3 := relayAll_led t2 es1 (SetTable.grown es1.size)
    generalize relayAll t2 es1 (SetTable.grown es1.size) = Z at pm hf3 hr3 hl3 ⊢
    obtain ⟨es2, t3, gave⟩ := Z
    dsimp only at pm hf3 hr3 hl3 ⊢
    have hsz : es2.size = es1.size := by rw [← Array.length_toList, pm.length_eq, Array.length_toList]
    have hb2 : es2.size < scanBound := by rw [hsz]; exact hb1
    refine wpAny_bind (hg _ _ _ ?_)
    refine wpAny_bind (wpAny_storeSet_of ho1 rfl ?_ (fits_of_scanBound hb2))
    have ho2 := store_at (es' := es2) (t' := t3) ho1 rfl
    refine wpAny_pure (hR _ (sb1.trans (Heap.SameBut.update _ a _)) ?_)
    exact ⟨_, es2, _, t3, ho2, hex, rfl, fun e he => g1 e (pm.mem_iff.mp he), (pm.map keyOfS).nodup_iff.mpr nd1, fun k => (m1 k).trans (pm.map keyOfS).mem_iff.symm, hb2, hf3, hsz, hr3,
      hl.imp id fun z => by rw [hl3]; exact z⟩
  · exact wpAny_pure (hR _ sb1 ⟨_, es1, _, t2, ho1, hex, rfl, g1, nd1, m1, hb1, hf2, rfl, hr, hl⟩)

theorem setS_add_hashed {k : Str} {tk : Tok} {Q : Bool → Shared → Prop} (R : SetS w s.heap a S n) (room : n + 1 < scanBound)
    (hQ : ∀ h', Heap.SameBut a s.heap h' → SetS w h' a (fun j => S j || decide (j = k)) (if S k = true then n else n + 1) → Q (!S k) { s with heap := h' }) :
    wpAny (model P w) A (setAddHashed a (.str k tk) ((strKind P w).hash k)) Q E s := by
  obtain ⟨o, es, ep, t, ho, hex, hd, g, nd, hm, hb, hf, hn, hr, hl⟩ := R
  have hkey : (strKind P w).is k (.str k tk) = true := strKind_is P w k tk
  have hsc : (Value.str k tk).scannable = true := rfl
  have hel : ElemsOf (strKind P w) es.toList := good_elems g
  unfold setAddHashed setAddHashedIn
  refine wpAny_holding (wpAny_bind (wpAny_setState_of ho hd hf ?_))
  dsimp only
  rw [byScan_of hsc hb hel]
  simp only [↓reduceIte]
  unfold setAddByScan
  refine wpAny_bind ?_
  refine wpAny_bind (wpAny_rule ?_)
  refine wpAny_bind (wpAny_setScan_of hkey ho hd hf hel ?_)
  cases hfi : List.findIdx? (fun e => (strKind P w).is k e.2) es.toList with
  | some j =>
    dsimp only
    obtain ⟨hj, pj, _⟩ := List.findIdx?_eq_some_iff_getElem.mp hfi
    have hSk : S k = true := (hm k).2 ((good_mem (P := P) (w := w) g k).2 ⟨es.toList[j], List.getElem_mem hj, pj⟩)
    refine wpAny_pure (wpAny_pure ?_)
    have q := hQ s.heap (Heap.SameBut.refl a s.heap) ⟨o, es, ep, t, ho, hex, hd, g, nd, fun i => by
      rw [Bool.or_eq_true, decide_eq_true_eq, ← hm i]
      exact ⟨fun z => z.elim id (fun e => e ▸ hSk), .inl⟩, hb, hf, by rw [if_pos hSk]; exact hn, hr, hl⟩
    rw [hSk] at q
    exact q
  | none =>
    dsimp only
    have hnk : k ∉ es.toList.map keyOfS := fun z => by
      obtain ⟨e, he, q⟩ := (good_mem (P := P) (w := w) g k).1 z
      have c := List.findIdx?_eq_none_iff.mp hfi e he
      rw [q] at c
      cases c
    have hSk : S k = false := by
      cases q : S k with
      | false => rfl
      | true => exact absurd ((hm k).1 q) hnk
    have hgw : ∀ (b : Bool) {s₁ : Shared} {Q' : Unit → Shared → Prop}, Q' () s₁ → wpAny (model P w) A (match b with | true => rule "set.scan.the-table-gave-way" | false => pure ()) Q' E s₁ :=
      fun b s₁ Q' q => by cases b <;> first | exact wpAny_pure q | exact wpAny_rule q
    have pm := layNew_perm t es ((strKind P w).hash k) (.str k tk)
    have hf1 := layNew_fits t es ((strKind P w).hash k) (.str k tk)
    have hr1 := layNew_ris t es ((strKind P w).hash k) (.str k tk) hr
    have hl1 := layNew_led t es ((strKind P w).hash k) (.str k tk)
    generalize layNew t es ((strKind P w).hash k) (.str k tk) = Z at pm hf1 hr1 hl1 ⊢
    obtain ⟨es1, t1, wasDummy, gave⟩ := Z
    dsimp only at pm hf1 hr1 hl1 ⊢
    rw [Array.toList_push] at pm
    have pc : es1.toList.Perm (((strKind P w).hash k, Value.str k tk) :: es.toList) := pm.trans (List.perm_append_singleton _ _)
    have pk : (es1.toList.map keyOfS).Perm (k :: es.toList.map keyOfS) := pc.map keyOfS
    have g1 : ∀ e ∈ es1.toList, GoodS w e := fun e he => by
      rcases List.mem_cons.mp (pc.mem_iff.mp he) with z | z
      · rw [z]; exact ⟨k, tk, rfl, rfl⟩
      · exact g e z
    have nd1 : (es1.toList.map keyOfS).Nodup := pk.nodup_iff.mpr (List.nodup_cons.mpr ⟨hnk, nd⟩)
    have m1 : ∀ i, (S i || decide (i = k)) = true ↔ i ∈ es1.toList.map keyOfS := fun i => by
      rw [Bool.or_eq_true, decide_eq_true_eq, hm i, pk.mem_iff, List.mem_cons]
      exact Or.comm
    have hsz : es1.size = n + 1 := by rw [← Array.length_toList, pc.length_eq, List.length_cons, Array.length_toList, hn]
    have hb1 : es1.size < scanBound := by rw [hsz]; exact room
    have hled : w.params.followText "set-order" = true ∨ t1.led = true := hl.imp id fun z => by rw [hl1]; exact z
    have fin : ∀ h', Heap.SameBut a s.heap h' → SetS w h' a (fun j => S j || decide (j = k)) es1.size → Q true { s with heap := h' } := fun h' sb r => by
      have q := hQ h' sb
      rw [hSk] at q
      rw [hsz] at r
      exact q r
    refine wpAny_bind (hgw _ ?_)
    split
    · refine wpAny_bind ?_
      rw [hashByValue_scannable 8 hsc]
      refine wpAny_pure ?_
      refine setS_add_tail ?_ ho hex hd g1 nd1 m1 hb1 ?_ ?_ ?_ ?_
      · intro b s₁ Q' q; cases b <;> first | exact wpAny_pure q | exact wpAny_rule q
      · first | (split <;> first | exact hf1 | exact SetTable.fits_plain_off hf1) | exact hf1
      · first | (split <;> exact hr1) | exact hr1
      · first | (split <;> exact hled) | exact hled
      · intro h' sb r; dsimp only; exact wpAny_pure (fin h' sb r)
    · refine wpAny_bind (wpAny_pure ?_)
      simp only [↓reduceIte]
      refine setS_add_tail ?_ ho hex hd g1 nd1 m1 hb1 hf1 hr1 hled ?_
      · intro b s₁ Q' q; cases b <;> first | exact wpAny_pure q | exact wpAny_rule q
      · intro h' sb r; dsimp only; exact wpAny_pure (fin h' sb r)

end
theorem setS_new_at {w : World} {h : Heap} {a : Addr} {ns : List Str} (ho : h.get? a = some { cls := .type "set", dict := none, data := .set #[] 0 (.fresh 0 0 (!w.params.followText "set-order")) }) : SetS w h a (fun j => decide (j ∈ ns.take 0)) 0 :=
  ⟨_, #[], 0, _, ho, ⟨rfl, rfl, rfl⟩, rfl, (fun e he => by simp at he), (by simp), (fun k => by simp), (by decide), (by rfl), rfl, List.Pairwise.nil, by
    show _ ∨ (!w.params.followText "set-order") = true
    cases w.params.followText "set-order"
    · exact .inr rfl
    · exact .inl rfl⟩
section
variable {P : Program} {w : World} {A : Around} {E : Value → Shared → Prop} {s : Shared}
theorem set_update_ints {I : Addr} {fp wr : List Addr} {G : Array GenState → Array GenState → Prop} {n : Nat} {Pv : Nat → Value → Prop} {St : Nat → Shared → Prop} {R : Result → Shared → Prop}
    (W : WalksS P w A.in1 I fp wr G n Pv St) (S : Addr) (hSf : S ∉ fp) (ns : List Str) (hn : n = ns.length) (hb : ns.length + 1 < scanBound) (hval : ∀ i v, Pv i v → ∃ k t, ns[i]? = some k ∧ v = .str k t) :
    ∀ (k i : Nat) (s : Shared), n - i = k → i ≤ n → St i s → (∃ c, c ≤ i ∧ SetS w s.heap S (fun j => decide (j ∈ ns.take i)) c) →
      (∀ s' c, Moved (S :: wr) G s s' → c ≤ n → SetS w s'.heap S (fun j => decide (j ∈ ns)) c → R (.ok (.ret .none)) s') →
      codeAny (model P w) A (.builtin "set.update.loop" ⟨[.ref S, .ref I], []⟩) R s := by
  have hSw : S ∉ wr := fun h => hSf (W.sub _ h)
  have hsub : ∀ b ∈ wr, b ∈ S :: wr := fun b hb => List.mem_cons_of_mem _ hb
  intro k
  induction k with
  | zero =>
    intro i s hk' hi hst ⟨c, hc, hS⟩ hR
    have hin : i = n := by omega
    subst hin
    refine codeAny_builtin F.entry_set_update_loop ?_
    rw [Around.under_plainId F.plain_set_update_loop _]
    show wpAny _ A.in1 (pyNext (.ref I) >>= _) _ _ s
    refine wpAny_bind (W.done s _ _ hst fun s' hm => ?_)
    show wpAny _ A.in1 (ret Value.none) _ _ s'
    have e : ns.take i = ns := List.take_of_length_le (by omega)
    rw [e] at hS
    exact wpAny_pure (hR s' c (hm.mono hsub) hc (hS.at fun o e => hm.heap S o hSw e))
  | succ k ih =>
    intro i s hk' hi hst ⟨c, hc, hS⟩ hR
    have hlt : i < n := by omega
    refine codeAny_builtin F.entry_set_update_loop ?_
    rw [Around.under_plainId F.plain_set_update_loop _]
    show wpAny _ A.in1 (pyNext (.ref I) >>= _) _ _ s
    refine wpAny_bind (W.item i s _ _ hlt hst fun v s' hP hst' hm => ?_)
    obtain ⟨z, t, hz, rfl⟩ := hval i v hP
    have hS' : SetS w s'.heap S (fun j => decide (j ∈ ns.take i)) c := hS.at fun o e => hm.heap S o hSw e
    show wpAny _ A.in1 (holding [Value.str z t] (setAdd S (.str z t)) >>= _) _ _ s'
    refine wpAny_bind (wpAny_holding ?_)
    unfold setAdd
    refine wpAny_holding ?_
    refine wpAny_bind ((strKind P w).pyHash (k := z) (strKind_is _ _ _ _) ?_)
    refine setS_add_hashed (s := { s' with toks := s'.toks + 1 }) hS' (by omega) fun h' hsb hS2 => ?_
    have hS3 : SetS w h' S (fun j => decide (j ∈ ns.take (i + 1))) (if decide (z ∈ ns.take i) = true then c else c + 1) := hS2.congr fun j => by
      rw [List.take_add_one, hz]
      simp [List.mem_append]
    have hc3 : (if decide (z ∈ ns.take i) = true then c else c + 1) ≤ i + 1 := by
      split <;> omega
    refine wpAny_pure ⟨plainId_quiet F.plain_set_update_loop _, ih (i + 1) _ (by omega) hlt (W.frame _ s' _ _ hst' (Nat.le_succ _) fun b hb o e => ?_) ⟨_, hc3, hS3⟩ fun s'' c2 hm'' hc'' hS'' => ?_⟩
    · rw [hsb.2 b (fun h : b = S => hSf (by rw [← h]; exact hb))]; exact e
    · refine hR s'' c2 (Moved.trans W.gtrans ((hm.mono hsub).then_heap (Nat.le_succ _) fun b o hb e => ?_) hm'') hc'' hS''
      rw [hsb.2 b (fun h : b = S => hb (by rw [h]; exact List.mem_cons_self))]; exact e

theorem call_set_listS {l : Addr} {items : Array Value} (ns : List Str) {Q : Value → Shared → Prop} (hh : A.handled = none) (hl : s.heap.IsList l items) (hit : StrsAre items.toList ns) (hb : ns.length + 1 < scanBound)
    (h : ∀ (h' : Heap) (tk c : Nat), SetS w h' s.heap.objs.size (fun j => decide (j ∈ ns)) c → c ≤ ns.length → (∀ b o, s.heap.get? b = some o → h'.get? b = some o) → Q (.ref s.heap.objs.size) { s with heap := h', toks := tk }) :
    wpAny (model P w) A (call (.type "set") [.ref l]) Q E s := by
  have hisz : items.size = ns.length := by
    have q := StrsAre.length hit
    rw [Array.length_toList] at q
    exact q
  obtain ⟨c, tl, hmro⟩ := F.called_set.mro
  have hmade := F.called_set.made
  have hsub := F.called_set.sub
  refine wpAny_call (codeAny_of_tree ?_)
  show wpAny _ _ (callAny (.type "set") _) _ _ _
  refine wpAny_pure ⟨Code.quiet_builtin _ (by decide +kernel), codeAny_builtin F.entry_type_call ?_⟩
  rw [Around.under_plain (weight_type_call_type "set" [.ref l] []) rfl]
  have h1 := F.called_set.notType
  have h2 := F.called_set.canCreate
  have hct := F.typeCall_set_1 (.ref l)
  repeat (any_goals (first | assumption | wp_step))

  refine codeAny_mono (code_set_led1 (.ref l) (E := E) (Q₁ := fun obj s₁ => obj = .ref s.heap.objs.size ∧ s₁ = { s with heap := s.heap.push { cls := .type "set", dict := none, data := .set #[] 0 (.fresh 0 0 (!w.params.followText "set-order")) } }) ⟨rfl, rfl⟩) fun r s₁ hr => ?_
  cases r with
  | error e => exact hr
  | ok fl =>
    cases fl with
    | ret obj =>
      obtain ⟨rfl, rfl⟩ := hr
      have hS : (s.heap.push { cls := .type "set", dict := none, data := .set #[] 0 (.fresh 0 0 (!w.params.followText "set-order")) }).get? s.heap.objs.size = some { cls := .type "set", dict := none, data := .set #[] 0 (.fresh 0 0 (!w.params.followText "set-order")) } := Heap.get?_push_size _ rfl
      have hT : Shared.TypeIs { s with heap := s.heap.push { cls := .type "set", dict := none, data := .set #[] 0 (.fresh 0 0 (!w.params.followText "set-order")) } } (.ref s.heap.objs.size) "set" := ⟨_, hS, rfl⟩
      have hli := F.called_set.init.lookup
      have hbi := F.called_set.init.bind (.ref s.heap.objs.size)
      repeat (any_goals (first | assumption | wp_step))

      refine codeAny_mono (codeAny_call_builtin (R := wants (fun r s₂ => r = .none ∧ ∃ h' tk c, s₂ = { s with heap := h', toks := tk } ∧ SetS w h' s.heap.objs.size (fun j => decide (j ∈ ns)) c ∧ c ≤ ns.length ∧
          (∀ b o, s.heap.get? b = some o → h'.get? b = some o)) E) F.called_set.init.plain F.entry_set_init (check_set_init_1 hT ?_)) fun r₂ s₂ hr₂ => ?_
      · obtain ⟨ol, hol, hcl, nl, hdl⟩ := hl
        obtain ⟨ocls, odict, odata, oslots⟩ := ol
        simp only at hcl hdl
        subst hcl; subst hdl
        have hol' : (s.heap.push { cls := .type "set", dict := none, data := .set #[] 0 (.fresh 0 0 (!w.params.followText "set-order")) }).get? l = some { cls := .type "list", dict := odict, data := .seq items nl, slots := oslots } := Heap.get?_push_of_some _ hol
        have hsls := F.sub_list_set
        have hslf := F.sub_list_frozenset
        have hne : (Value.type "list" == Value.type "dict") = false := by decide
        have hl1 : (s.heap.push { cls := .type "set", dict := none, data := .set #[] 0 (.fresh 0 0 (!w.params.followText "set-order")) }).IsList l items := ⟨_, hol', rfl, nl, rfl⟩
        unfold Builtin.«set.__init__» noKeywords Builtin.Frozenset.updateFrom
        generalize hPI : pyIter = PI
        wp_walk
        subst hPI

        refine wpAny_pyIter_list hl1 ?_
        refine wpAny_bind (wpAny_runValue ?_)
        have hlS : l < s.heap.objs.size := Heap.lt_size hol
        have hh3 : A.in1.in1.in1.handled = none := by simp [hh]
        have hz1 : (s.heap.push { cls := .type "set", dict := none, data := .set #[] 0 (.fresh 0 0 (!w.params.followText "set-order")) }).objs.size = s.heap.objs.size + 1 := Heap.size_push ..
        have hneI : l ≠ (s.heap.push { cls := .type "set", dict := none, data := .set #[] 0 (.fresh 0 0 (!w.params.followText "set-order")) }).objs.size := by
          rw [Heap.size_push]; exact Nat.ne_of_lt (Nat.lt_succ_of_lt hlS)
        have hSf : s.heap.objs.size ∉ [(s.heap.push { cls := .type "set", dict := none, data := .set #[] 0 (.fresh 0 0 (!w.params.followText "set-order")) }).objs.size, l] := by
          rw [Heap.size_push]; simp only [List.mem_cons, List.mem_singleton, List.not_mem_nil, or_false, not_or]
          exact ⟨Nat.ne_of_lt (Nat.lt_succ_self _), Nat.ne_of_gt hlS⟩
        have hval : ∀ (i : Nat) (v : Value), items[i]? = some v → ∃ k t, ns[i]? = some k ∧ v = .str k t := fun i v hv => by
          have hv' : items.toList[i]? = some v := by rw [Array.getElem?_toList]; exact hv
          exact strs_get hit hv'
        refine set_update_ints ((Walks.list hh3 _ l hneI items).toS) s.heap.objs.size
          hSf ns hisz hb hval (items.size - 0) 0 _ (by omega) (Nat.zero_le _)
          ⟨⟨_, Heap.get?_push_size _ rfl, rfl, rfl⟩, (hl1.push _)⟩ ?hS0 ?hR
        case hS0 =>
          have hget : ((s.heap.push { cls := .type "set", dict := none, data := .set #[] 0 (.fresh 0 0 (!w.params.followText "set-order")) }).push { cls := .type "list_iterator", data := .fields #[.ref l, .int 0 0] }).get? s.heap.objs.size
              = some { cls := .type "set", dict := none, data := .set #[] 0 (.fresh 0 0 (!w.params.followText "set-order")) } := Heap.get?_push_of_some _ hS
          exact ⟨0, Nat.le_refl 0, setS_new_at hget⟩
        case hR =>
          intro s' c' hm hc' hS'
          obtain ⟨h', g2, d', tk', os'⟩ := s'
          have eg : g2 = s.gens := hm.gens
          have ed : d' = s.drawn := hm.drawn
          have eo : os' = s.os := hm.os
          subst eg; subst ed; subst eo
          show wpAny _ _ _ _ _ _
          refine wpAny_pure ?_
          show wpAny _ _ (ret Value.none) _ _ _
          rw [hisz] at hc'
          refine wpAny_pure ⟨rfl, h', tk', c', rfl, hS', hc', fun b o e => ?_⟩
          have hb0 : b < s.heap.objs.size := Heap.lt_size e
          have hb1 : b ≠ s.heap.objs.size := Nat.ne_of_lt hb0
          have hb2 : b ≠ (s.heap.push { cls := .type "set", dict := none, data := .set #[] 0 (.fresh 0 0 (!w.params.followText "set-order")) }).objs.size := by
            rw [Heap.size_push]; exact Nat.ne_of_lt (Nat.lt_succ_of_lt hb0)
          exact hm.heap b o (by simp only [List.mem_cons, List.mem_singleton, List.not_mem_nil, or_false, not_or]; exact ⟨hb1, hb2⟩) (Heap.get?_push_of_some _ (Heap.get?_push_of_some _ e))

      · cases r₂ with
        | error e => exact hr₂
        | ok fl₂ =>
          cases fl₂ with
          | ret r =>
            obtain ⟨rfl, h', tk, c', rfl, hS', hc', hk'⟩ := hr₂
            repeat (any_goals (first | assumption | wp_step))
            exact h _ _ _ hS' hc' hk'
          | _ => exact hr₂.elim
    | _ => exact hr.elim

end

end AwT

/-! R10: sorted(set(texts)), len(set(terms)). -/
namespace Aw
open PySem PySem.Spec PyProof.Rows L2
open C8 (Cal pe_c)
section
variable {P : Program} {w : World} {A : Around} {E : Value → Shared → Prop} {s : Shared}
theorem strs_sortable {a : Addr} {vs : List Value} {xs : List Str} (h2 : 2 ≤ vs.length) (hs : StrsAre vs xs) : Srt.Sortable P w A s a vs := by
  intro h' keep
  refine ⟨oneType', fun Q E hq => ?_, fun p q hm hm' => ?_⟩
  · match vs, hs, h2 with
    | v1 :: v2 :: vs, hs, _ =>
      rw [keyKind_strs hs]
      exact wpAny_pure hq
  · obtain ⟨x, t, e⟩ := StrsAre.all hs _ hm
    obtain ⟨y, u, e'⟩ := StrsAre.all hs _ hm'
    rw [e, e', keyLt'_oneType]
    exact ⟨_, oneLt_str ⟨rfl, rfl⟩⟩
theorem strs_of_keys : ∀ (l : List Value), (∀ v ∈ l, ∃ x t, v = Value.str x t) → ∃ xs : List Str, StrsAre l xs
  | [], _ => ⟨[], .nil⟩
  | v :: l, h => by
    obtain ⟨x, t, rfl⟩ := h v List.mem_cons_self
    obtain ⟨xs, hx⟩ := strs_of_keys l fun u hu => h u (List.mem_cons_of_mem _ hu)
    exact ⟨x :: xs, .cons x t hx⟩
def txtOf (v : Value) : Str := match v with | .str k _ => k | _ => Str.empty
theorem strs_txt : ∀ (l : List Value), (∀ v ∈ l, ∃ x t, v = Value.str x t) → StrsAre l (l.map txtOf)
  | [], _ => .nil
  | v :: l, h => by
    obtain ⟨x, t, rfl⟩ := h v List.mem_cons_self
    exact .cons x t (strs_txt l fun u hu => h u (List.mem_cons_of_mem _ hu))
theorem sorted_setS {a : Addr} {S : Str → Bool} {n : Nat} {Q : Value → Shared → Prop} (R : AwT.SetS w s.heap a S n) (hh : A.handled = none)
    (hQ : ∀ s' p (out : List Value) (c : Nat) (ns : List Str), (∀ b o, s.heap.get? b = some o → s'.heap.get? b = some o) → s'.gens = s.gens → s'.os = s.os → s.heap.objs.size ≤ p →
      s'.heap.get? p = some (seqObj "list" out.toArray c) → StrsAre out ns → ns.Nodup → (∀ k, k ∈ ns ↔ S k = true) → ns.length = n → n ≤ sizeLine → Q (.ref p) s') :
    wpAny (model P w) A (call (.builtin "sorted") [.ref a]) Q E s := by
  obtain ⟨o, es, ep, t, ho, hex, hd, g, nd, hm, hb, hf, hn, hr, hl⟩ := R
  refine Calls.call_function_entry kind_sorted plain_sorted entry_sorted (args_sorted1 _) ?_
  unfold Builtin.«sorted»
  refine wpAny_bind (m := checkCount "sorted" 1 1 _) (wpAny_pure ?_)
  refine wpAny_bind (collect_set (A := A.in1) hh ⟨o, ho, hex.1, hd⟩ hf hb hr hl fun s1 vs k1 hz g1 o1 pm => ?_)
  have hvl : vs.length = n := by rw [pm.length_eq, List.length_map, Array.length_toList]; exact hn
  have hnz : n ≤ sizeLine := by rw [← hn]; exact fits_of_scanBound hb
  have hall : ∀ v ∈ vs, ∃ x t, v = Value.str x t := fun v hv => by
    obtain ⟨e, he, q⟩ := List.mem_map.mp (pm.mem_iff.mp hv)
    obtain ⟨k, tk, h1, _⟩ := g e he
    exact ⟨k, tk, by rw [← q]; exact h1⟩
  have pk : (vs.map txtOf).Perm (es.toList.map AwT.keyOfS) := by
    have q := pm.map txtOf
    rw [List.map_map] at q
    exact q
  refine wpAny_bind (wpAny_newList ?_ (by rw [hvl]; exact hnz))
  have hoL : (s1.heap.push (seqObj "list" vs.toArray 0)).get? s1.heap.objs.size = some (seqObj "list" vs.toArray 0) := Heap.get?_push_size _ rfl
  refine wpAny_bind (wpAny_holding (wpAny_call_entry slot_list_sort ⟨_, hoL, rfl⟩ entry_list_sort (Srt.list_sort_any hoL (by rw [hvl]; exact hnz) (fun h2 => strs_sortable h2 (strs_txt vs hall)) fun out po => ⟨_, rfl, ?_⟩) (args_list_sort _)))
  obtain ⟨c, hc⟩ := sortedHeap_at (vs := vs) (out := out.toArray) hoL
  have pn : (out.map txtOf).Perm (es.toList.map AwT.keyOfS) := (po.map txtOf).trans pk
  refine wpAny_pure ⟨_, rfl, hQ _ s1.heap.objs.size out c (out.map txtOf) (fun b u e => ?_) g1 o1 hz hc (strs_txt out fun v hv => hall v (po.mem_iff.mp hv)) (pn.nodup_iff.mpr nd) (fun k => by rw [pn.mem_iff, ← hm k]) ?_ hnz⟩
  · have q := k1 b u e
    have hlt := Heap.lt_size q
    show (sortedHeap (s1.heap.push (seqObj "list" vs.toArray 0)) s1.heap.objs.size vs out.toArray).get? b = some u
    rw [sortedHeap_old (Nat.ne_of_lt hlt) (by rw [size_push']; exact Nat.lt_succ_of_lt hlt)]
    exact Heap.get?_push_of_some _ q
  · rw [pn.length_eq, List.length_map, Array.length_toList]; exact hn
end
theorem bt_set' : bootBuiltins "set" = some (.type "set") := bt_set
theorem vals_strs : ∀ {us : List Value} {ns : List Str}, StrsAre us ns → Vals (ns.map V.str) us
  | _, _, .nil => .nil
  | _, _, .cons x t h => .cons ⟨t, rfl⟩ (vals_strs h)
section
variable {X : Cx} {a : Expr} {ta : TE} {p p2 q pos : Pos}
/-- sorted(set(xs)), xs a list of texts -/
def tSortSet (ta : TE) : TE := fun σ H Q => ta σ H fun x H1 => ∃ (l : Addr) (xs : List Str), x = .ref l ∧ H1 l = some (.lst (xs.map V.str)) ∧ xs.length ≤ 1000 ∧ ∀ ns : List Str, ns.Nodup → (∀ k, k ∈ ns ↔ k ∈ xs) → NewL (ns.map V.str) H1 Q
theorem pe_sortSet (hc : X.calm = true) (hg : Gl X "sorted") (hm : X.mg "sorted" = none) (hg2 : Gl X "set") (hm2 : X.mg "set" = none) (ha : PE X a ta)
    (na : starEach [a] X.env = (false, eval a X.env) :: starEach [] X.env := by rfl) : PE X (.Call (.Name "sorted" p) [.Call (.Name "set" p2) [a] [] q] [] pos) (tSortSet ta) := by
  refine ⟨fun pins s σ H Q I h => ?_⟩
  refine Call_ (ld_blt I hg hm bt_sorted ?_)
  refine PyProof.Rows.callWith_builtin1 (PyProof.Rows.args_cons ?_ rfl) rfl rfl
  refine Call_ (ld_blt I hg2 hm2 bt_set ?_)
  refine PyProof.Rows.callWith_type1 (PyProof.Rows.args_cons (thn (ha.run pins s σ H _ I h) fun v s1 ⟨x, H1, I1, r1, q1⟩ => PyProof.Rows.args_nil ?_) na) na rfl
  obtain ⟨l, xs, rfl, hq, hl, q1⟩ := q1
  cases r1
  obtain ⟨its, r, pl, hz⟩ := I1.list (SqL.of (K := X.K) hq)
  have hsa := r.strs
  refine AwT.call_set_listS xs (I1.ok.hd hc) pl.isList (by simpa using hsa) (by unfold scanBound; omega) fun h' tk c R hcl kp => ?_
  refine PyProof.Rows.args_nil ?_
  have I2 : Inv X pins σ H1 { s1 with heap := h', toks := tk } := I1.kept kp
  refine sorted_setS (s := { s1 with heap := h', toks := tk }) R (I1.ok.hd hc) fun s' p out c ns k g o hp hgt hs nd hmem hlen hz => ?_
  have hp1 : s1.heap.objs.size ≤ p := Nat.le_trans (Nat.le_of_lt R.lt) hp
  have k' : ∀ b o, s1.heap.get? b = some o → s'.heap.get? b = some o := fun b o e => k b o (kp b o e)
  have hn : H1 p = none := I1.hok.fresh hp1
  have J : Inv X pins σ (upd H1 p (.lst (ns.map V.str))) { s1 with heap := s'.heap, gens := s'.gens, drawn := s'.drawn, toks := s'.toks } :=
    I1.call (ch := []) (Un.laid k' hp1 hn) (I1.hok.laid k' hp1 ⟨by rw [List.length_map, hlen]; exact hz, out, c, vals_strs hs, hgt⟩) (by rw [g]; exact I1.bare) (fun _ z => nomatch z)
  have e : s' = { s1 with heap := s'.heap, gens := s'.gens, drawn := s'.drawn, toks := s'.toks } := by
    cases s'
    cases s1
    cases o
    rfl
  rw [e]
  exact ⟨.ref p, _, J, rfl, q1 ns nd (fun k => by rw [hmem k, decide_eq_true_eq]) p _ hn (same_new hn) upd_same⟩

/-! ### len(set(terms)) -/
theorem nodup_sub_len {α : Type} [DecidableEq α] : ∀ {D l : List α}, l.Nodup → (∀ x ∈ l, x ∈ D) → l.length ≤ D.length
  | D, [], _, _ => Nat.zero_le _
  | D, x :: l, nd, h => by
    obtain ⟨n1, n2⟩ := List.nodup_cons.mp nd
    have h1 : ∀ y ∈ l, y ∈ D.erase x := fun y hy => by
      have hne : y ≠ x := fun z => n1 (z ▸ hy)
      exact (List.mem_erase_of_ne hne).mpr (h y (List.mem_cons_of_mem _ hy))
    have h2 := nodup_sub_len (D := D.erase x) n2 h1
    have h3 := List.length_erase_of_mem (h x List.mem_cons_self)
    have h4 : 0 < D.length := List.length_pos_of_mem (h x List.mem_cons_self)
    rw [List.length_cons]
    omega
theorem nodup_of_len {α : Type} [DecidableEq α] : ∀ {D l : List α}, l.Nodup → (∀ x ∈ l, x ∈ D) → l.length = D.length → D.Nodup
  | [], _, _, _, _ => .nil
  | k :: D, l, nd, h, e => by
    have hk : k ∉ D := fun hk => by
      have := nodup_sub_len (D := D) nd fun x hx => by
        rcases List.mem_cons.mp (h x hx) with z | z
        · rw [z]; exact hk
        · exact z
      rw [e, List.length_cons] at this
      omega
    have hkl : k ∈ l := by
      rcases Classical.em (k ∈ l) with z | z
      · exact z
      · have := nodup_sub_len (D := D) nd fun x hx => by
          rcases List.mem_cons.mp (h x hx) with y | y
          · exact absurd (y ▸ hx) z
          · exact y
        rw [e, List.length_cons] at this
        omega
    refine List.nodup_cons.mpr ⟨hk, nodup_of_len (l := l.erase k) (nd.erase k) (fun x hx => ?_) ?_⟩
    · have hx' := (List.Nodup.mem_erase_iff nd).mp hx
      rcases List.mem_cons.mp (h x hx'.2) with z | z
      · exact absurd z hx'.1
      · exact z
    · rw [List.length_erase_of_mem hkl, e, List.length_cons]
      rfl
/-- a term's key -/
def Tm.key : Tm → List Key
  | .var s => [.inr "var", .inr s]
  | .val k => [.inr "value", k]
theorem Tm.key_inj {a b : Tm} (h : a.key = b.key) : a = b := by
  cases a with
  | var s => cases b with
    | var r =>
      simp only [Tm.key, List.cons.injEq, Sum.inr.injEq, and_true, true_and] at h
      rw [h]
    | val k =>
      simp only [Tm.key, List.cons.injEq, Sum.inr.injEq] at h
      exact absurd h.1 tag_ne
  | val k => cases b with
    | var r =>
      simp only [Tm.key, List.cons.injEq, Sum.inr.injEq] at h
      exact absurd h.1.symm tag_ne
    | val k =>
      simp only [Tm.key, List.cons.injEq, and_true, true_and] at h
      rw [h]
theorem key_vals {t : Tm} {P : Program} {w : World} {us : List Value} (r : Vals [.str t.tag, t.pay] us) : ItemsAre (mixKind P w) t.key us := by
  obtain ⟨u1, u2, rfl, r1, r2⟩ := vals2 r
  obtain ⟨t1, rfl⟩ := r1
  have h1 : ∀ (x : Str) (t : Tok), (mixKind P w).is (.inr x) (.str x t) = true := fun x t => by
    show Value.isStrOf x (.str x t) = true
    exact strKind_is P w x t
  cases t with
  | var s =>
    obtain ⟨t2, rfl⟩ := r2
    exact .cons (h1 _ _) (.cons (h1 _ _) .nil)
  | val k =>
    cases k with
    | inl i =>
      obtain ⟨t2, rfl⟩ := r2
      exact .cons (h1 _ _) (.cons (show Value.isInt i (.int i t2) = true from intKind_is P w i t2) .nil)
    | inr s =>
      obtain ⟨t2, rfl⟩ := r2
      exact .cons (h1 _ _) (.cons (h1 _ _) .nil)
theorem tm_isT {pins : List (Addr × Obj)} {σ : L2.St} {H : Hp} {s : Shared} {v : V} {u : Value} {t : Tm} (I : Inv X pins σ H s) (h : Tp H v (encTm t)) (r : L2.RelV v u) : ∃ b, u = .ref b ∧ AwS.IsT X.prog X.w s.heap t.key b := by
  obtain ⟨b, rfl, h1, _⟩ := tmE h
  cases r
  obtain ⟨its, n, sl, rv, _, hob⟩ := Inv.tq I h1
  exact ⟨b, rfl, _, its.toArray, n, hob, rfl, rfl, by simpa using key_vals rv⟩
theorem tms_isT {pins : List (Addr × Obj)} {σ : L2.St} {H : Hp} {s : Shared} (I : Inv X pins σ H s) : ∀ {ts : List Tm} {ys : List V} {us : List Value}, Tps H ys (ts.map encTm) → Vals ys us →
    ∃ ks : List (Addr × List Key), us = ks.map (fun p => Value.ref p.1) ∧ ks.map (·.2) = ts.map Tm.key ∧ ∀ p ∈ ks, AwS.IsT X.prog X.w s.heap p.2 p.1
  | [], _, _, h, r => by
    cases h
    cases r
    exact ⟨[], rfl, rfl, fun p hp => absurd hp (by simp)⟩
  | t :: ts, _, _, h, r => by
    cases h with
    | cons h1 h2 =>
      cases r with
      | cons r1 r2 =>
        obtain ⟨b, rfl, hb⟩ := tm_isT I h1 r1
        obtain ⟨ks, e1, e2, e3⟩ := tms_isT I h2 r2
        refine ⟨(b, t.key) :: ks, by rw [e1]; rfl, by rw [List.map_cons, e2]; rfl, fun p hp => ?_⟩
        rcases List.mem_cons.mp hp with rfl | hp
        · exact hb
        · exact e3 p hp
theorem map_nodup {α β : Type} {f : α → β} (hf : ∀ a b, f a = f b → a = b) {l : List α} : (l.map f).Nodup ↔ l.Nodup := by
  unfold List.Nodup
  rw [List.pairwise_map]
  exact ⟨fun h => h.imp fun h z => h (congrArg f z), fun h => h.imp fun h z => h (hf _ _ z)⟩
/-- len(set(xs)), xs a list of terms -/
def tLenTm (ta : TE) : TE := fun σ H Q => ta σ H fun x H1 => ∃ (l : Addr) (ys : List V) (ts : List Tm), x = .ref l ∧ H1 l = some (.lst ys) ∧ Tps H1 ys (ts.map encTm) ∧ ts.length < 64 ∧ ∀ n : Nat, (n = ts.length ↔ ts.Nodup) → Q (.int (n : Int)) H1
theorem pe_lenTm (hc : X.calm = true) (hu : X.A.units + 64 < cLine) (hg : Gl X "len") (hm : X.mg "len" = none) (hg2 : Gl X "set") (hm2 : X.mg "set" = none) (ha : PE X a ta)
    (na : starEach [a] X.env = (false, eval a X.env) :: starEach [] X.env := by rfl) : PE X (.Call (.Name "len" p) [.Call (.Name "set" p2) [a] [] q] [] pos) (tLenTm ta) := by
  refine ⟨fun pins s σ H Q I h => ?_⟩
  refine Call_ (ld_blt I hg hm bt_len ?_)
  refine PyProof.Rows.callWith_builtin1 (PyProof.Rows.args_cons ?_ rfl) rfl rfl
  refine Call_ (ld_blt I hg2 hm2 bt_set ?_)
  refine PyProof.Rows.callWith_type1 (PyProof.Rows.args_cons (thn (ha.run pins s σ H _ I h) fun v s1 ⟨x, H1, I1, r1, q1⟩ => PyProof.Rows.args_nil ?_) na) na rfl
  obtain ⟨l, ys, ts, rfl, hq, ht, hlt, q1⟩ := q1
  cases r1
  obtain ⟨its, r, pl, hz⟩ := I1.list (SqL.of (K := X.K) hq)
  obtain ⟨ks, e1, e2, e3⟩ := tms_isT I1 ht r
  have hkl : ks.length = ts.length := by
    have := congrArg List.length e2
    rw [List.length_map, List.length_map] at this
    exact this
  have hk0 : ∀ p ∈ ks, ∃ s0 k', p.2 = Sum.inr s0 :: k' := fun p hp => by
    have h1 : p.2 ∈ ks.map (·.2) := List.mem_map.mpr ⟨p, hp, rfl⟩
    rw [e2] at h1
    obtain ⟨t, _, e⟩ := List.mem_map.mp h1
    rw [← e]
    cases t with
    | var s => exact ⟨_, _, rfl⟩
    | val k => exact ⟨_, _, rfl⟩
  refine AwS.call_set_tups ks (I1.ok.hd hc) pl.isList (by simpa using e1) hk0 e3 (by omega) (by omega) fun h' tk L es ep t R g kp => ?_
  refine PyProof.Rows.args_nil ?_
  have I2 : Inv X pins σ H1 { s1 with heap := h', toks := tk } := I1.kept kp
  obtain ⟨o, ho, hex, hd⟩ := R.ob
  have hsz := AwS.SetTR.size (s := { s1 with heap := h', toks := tk }) R
  have hf := AwS.SetTR.fits (s := { s1 with heap := h', toks := tk }) R
  have hfew := R.few
  refine call_len_set ho hex hd hf (by rw [hsz]; omega) ⟨.int es.size, H1, I2.tok _, ⟨_, rfl⟩, q1 es.size ?_⟩
  rw [hsz]
  have sub : ∀ x ∈ L.map (·.2), x ∈ ks.map (·.2) := fun x hx => by
    obtain ⟨p, hp, e⟩ := List.mem_map.mp hx
    exact List.mem_map.mpr ⟨p, List.mem_of_mem_take (g.sub p hp), e⟩
  have all : ∀ x ∈ ks.map (·.2), x ∈ L.map (·.2) := fun x hx => by
    obtain ⟨p, hp, e⟩ := List.mem_map.mp hx
    rw [← e]
    exact g.all p (by rw [List.take_length]; exact hp)
  have e5 : (ks.map (·.2)).Nodup ↔ ts.Nodup := by rw [e2]; exact map_nodup fun _ _ => Tm.key_inj
  have hL : (L.map (·.2)).length = L.length := List.length_map ..
  have hK : (ks.map (·.2)).length = ts.length := by rw [e2, List.length_map]
  constructor
  · intro e
    exact e5.mp (nodup_of_len R.nd sub (by rw [hL, hK]; exact e))
  · intro nd
    have a1 := nodup_sub_len R.nd sub
    have a2 := nodup_sub_len (e5.mpr nd) all
    omega
end
end Aw

/-! R11: a word between two statements; walks. -/
namespace Aw
open PySem PySem.Spec PyProof.Rows L2
open C8 (Cal pe_c)
section
variable {X : Cx}
/-- a word in the middle -/
def tMid (t : TS) : TS := fun D σ H => ∃ Pm : L2.St → Hp → Prop, t { D with nx := Pm } σ H ∧ ∀ σ' H', Pm σ' H' → D.nx σ' H'
theorem ps_mid {st : Stmt} {t : TS} (h : PS X st t) : PS X st (tMid t) := ⟨fun pins s σ H D I ⟨Pm, h1, h2⟩ => thn (h.run pins s σ H _ I h1) fun f s' q => by
  cases f with
  | next =>
    obtain ⟨σ', H', J, q⟩ := q
    exact ⟨σ', H', J, h2 _ _ q⟩
  | brk => exact q
  | cont => exact q
  | ret u => exact q⟩
def teMid (t : TE) : TE := fun σ H Q => ∃ Pm : VK, t σ H Pm ∧ ∀ v H', Pm v H' → Q v H'
theorem pe_mid {e : Expr} {t : TE} (h : PE X e t) : PE X e (teMid t) := ⟨fun pins s σ H Q I ⟨Pm, h1, h2⟩ => thn (h.run pins s σ H _ I h1) fun u s' ⟨v, H', J, r, q⟩ => ⟨v, H', J, r, h2 _ _ q⟩⟩
theorem ps_setM {i : Nat} {x : Str} {e : Expr} {te : TE} {pos pos' : Pos} (hN : X.N.Nodup) (hi : X.N[i]? = some x) (hx : Loc X.env.scope x) (he : PE X e te) (hs : swapsWith e (some (.Name x pos')) pos.line X.env = pure false := by rfl) (hf : X.fn x = true ∨ X.env.scope.names.lookup x = some .local := by first | exact .inl rfl | exact .inr rfl | assumption) :
    PS X (.Assign [.Name x pos'] e pos) (tMid (tAsg te (gName i))) := ps_mid (ps_set hN hi hx he hs hf)
theorem ps_ifM {c : Expr} {pos : Pos} {b o : List Stmt} {tc : TT} {tb to : TS} (h1 : PT X c tc) (h2 : PSs X b tb) (h3 : PSs X o to) : PS X (.If c b o pos) (tMid (tIfS tc tb to)) := ps_mid (ps_if h1 h2 h3)
end
section
variable {K : PySem.W.Frag} {a : Addr} {xs : List V} {H0 : Hp} {Qd : Hp → Prop} {B : V → Hp → (Hp → Prop) → Prop}
theorem walk_tup (Pv : Nat → Hp → Prop) (h0 : Pv 0 H0) (hl : ∀ i H, i ≤ xs.length → Pv i H → SqT K H a xs) (hs : ∀ i x H, xs[i]? = some x → Pv i H → B x H (Pv (i + 1))) (hd : ∀ H, Pv xs.length H → Qd H) :
    ∃ W : Nat → Nat → Hp → Prop, (∃ m, W 0 m H0) ∧ ∀ i m H, W i m H → ((Itt K a).stop i H ∧ Qd H) ∨ ((Itt K a).go i H ∧ ∃ Nx : Hp → Prop, (∀ H', Nx H' → ∃ m', m' < m ∧ W (i + 1) m' H') ∧ ∀ x H', (Itt K a).yld i H x H' → B x H' Nx) := by
  refine ⟨fun i m H => m = xs.length - i ∧ i ≤ xs.length ∧ Pv i H, ⟨xs.length, by simp, Nat.zero_le _, h0⟩, ?_⟩
  rintro i m H ⟨rfl, hi, p⟩
  have q := hl i H hi p
  by_cases hlt : i < xs.length
  · refine .inr ⟨⟨xs, xs[i], q, List.getElem?_eq_getElem hlt⟩, Pv (i + 1), fun H' p' => ⟨xs.length - (i + 1), by omega, rfl, hlt, p'⟩, fun x H' y => ?_⟩
    obtain ⟨e, y⟩ := y
    subst e
    exact hs i x _ (y xs q) p
  · refine .inl ⟨⟨xs, q, by omega⟩, hd H ?_⟩
    have e : i = xs.length := by omega
    rw [← e]
    exact p
theorem walk_list (Pv : Nat → Hp → Prop) (h0 : Pv 0 H0) (hl : ∀ i H, i ≤ xs.length → Pv i H → SqL K H a xs) (hs : ∀ i x H, xs[i]? = some x → Pv i H → B x H (Pv (i + 1))) (hd : ∀ H, Pv xs.length H → Qd H) :
    ∃ W : Nat → Nat → Hp → Prop, (∃ m, W 0 m H0) ∧ ∀ i m H, W i m H → ((Itl K a).stop i H ∧ Qd H) ∨ ((Itl K a).go i H ∧ ∃ Nx : Hp → Prop, (∀ H', Nx H' → ∃ m', m' < m ∧ W (i + 1) m' H') ∧ ∀ x H', (Itl K a).yld i H x H' → B x H' Nx) := by
  refine ⟨fun i m H => m = xs.length - i ∧ i ≤ xs.length ∧ Pv i H, ⟨xs.length, by simp, Nat.zero_le _, h0⟩, ?_⟩
  rintro i m H ⟨rfl, hi, p⟩
  have q := hl i H hi p
  by_cases hlt : i < xs.length
  · refine .inr ⟨⟨xs, xs[i], q, List.getElem?_eq_getElem hlt⟩, Pv (i + 1), fun H' p' => ⟨xs.length - (i + 1), by omega, rfl, hlt, p'⟩, fun x H' y => ?_⟩
    obtain ⟨e, y⟩ := y
    subst e
    exact hs i x _ (y xs q) p
  · refine .inl ⟨⟨xs, q, by omega⟩, hd H ?_⟩
    have e : i = xs.length := by omega
    rw [← e]
    exact p
theorem walk_rng {n : Nat} {lo : Int} (Pv : Nat → Hp → Prop) (h0 : Pv 0 H0) (hs : ∀ i H, i < n → Pv i H → B (.int (lo + i)) H (Pv (i + 1))) (hd : ∀ H, Pv n H → Qd H) :
    ∃ W : Nat → Nat → Hp → Prop, (∃ m, W 0 m H0) ∧ ∀ i m H, W i m H → ((Itr lo n).stop i H ∧ Qd H) ∨ ((Itr lo n).go i H ∧ ∃ Nx : Hp → Prop, (∀ H', Nx H' → ∃ m', m' < m ∧ W (i + 1) m' H') ∧ ∀ x H', (Itr lo n).yld i H x H' → B x H' Nx) := by
  refine ⟨fun i m H => m = n - i ∧ i ≤ n ∧ Pv i H, ⟨n, by simp, Nat.zero_le _, h0⟩, ?_⟩
  rintro i m H ⟨rfl, hi, p⟩
  by_cases hlt : i < n
  · refine .inr ⟨hlt, Pv (i + 1), fun H' p' => ⟨n - (i + 1), by omega, rfl, hlt, p'⟩, fun x H' y => ?_⟩
    obtain ⟨e, e2⟩ := y
    subst e e2
    exact hs i _ hlt p
  · refine .inl ⟨by show n ≤ i; omega, hd H ?_⟩
    have e : i = n := by omega
    rw [← e]
    exact p
end
end Aw

/-! M0: maps that take terms to terms, plainly. -/
namespace Aw
open PySem

def keys (m : Mp) : List Str := m.map (·.1)
def bnd : List Tm → List Tm → Mp → Option Mp
  | [], [], m => some m
  | .val k :: ts, u :: us, m => if Tm.val k = u then bnd ts us m else none
  | .var s :: ts, u :: us, m => match lk m s with
    | some t => if t = u then bnd ts us m else none
    | none => bnd ts us (m ++ [(s, u)])
  | [], _ :: _, _ => none
  | _ :: _, [], _ => none
theorem lk_nil (s : Str) : lk [] s = none := rfl
theorem lk_cons (p : Str × Tm) (m : Mp) (s : Str) : lk (p :: m) s = if p.1 = s then some p.2 else lk m s := by
  unfold lk
  rw [List.find?_cons]
  by_cases h : p.1 = s
  · simp [h]
  · simp [h]
theorem lk_snoc {m : Mp} {s : Str} {u : Tm} (h : lk m s = none) (r : Str) : lk (m ++ [(s, u)]) r = if s = r then some u else lk m r := by
  induction m with
  | nil => rw [List.nil_append, lk_cons]
  | cons p m ih =>
    rw [lk_cons] at h
    split at h
    · cases h
    · rename_i hp
      rw [List.cons_append, lk_cons, lk_cons, ih h]
      by_cases e : p.1 = r
      · rw [if_pos e, if_pos e]
        rw [if_neg]
        intro z
        exact hp (e.trans z.symm)
      · rw [if_neg e, if_neg e]
theorem lk_none {m : Mp} {s : Str} : lk m s = none ↔ s ∉ keys m := by
  induction m with
  | nil => simp [lk_nil, keys]
  | cons p m ih =>
    rw [lk_cons]
    unfold keys at ih ⊢
    rw [List.map_cons, List.mem_cons, not_or]
    by_cases e : p.1 = s
    · simp [e]
    · rw [if_neg e, ih]
      exact ⟨fun h => ⟨fun z => e z.symm, h⟩, fun h => h.2⟩
theorem lk_some {m : Mp} {s : Str} : (∃ t, lk m s = some t) ↔ s ∈ keys m := by
  cases h : lk m s with
  | none =>
    have := lk_none.mp h
    exact ⟨fun ⟨t, e⟩ => (by cases e), fun z => absurd z this⟩
  | some t =>
    refine ⟨fun _ => ?_, fun _ => ⟨t, rfl⟩⟩
    rcases Classical.em (s ∈ keys m) with z | z
    · exact z
    · rw [lk_none.mpr z] at h
      cases h
theorem lk_mem {m : Mp} {s : Str} {t : Tm} (h : lk m s = some t) : (s, t) ∈ m := by
  induction m with
  | nil => cases h
  | cons p m ih =>
    rw [lk_cons] at h
    split at h
    · rename_i e
      cases h
      rw [← e]
      exact List.mem_cons_self
    · exact List.mem_cons_of_mem _ (ih h)
theorem mem_lk {m : Mp} {s : Str} {t : Tm} (nd : (keys m).Nodup) (h : (s, t) ∈ m) : lk m s = some t := by
  induction m with
  | nil => cases h
  | cons p m ih =>
    obtain ⟨n1, n2⟩ := List.nodup_cons.mp (show (p.1 :: keys m).Nodup from nd)
    rw [lk_cons]
    rcases List.mem_cons.mp h with e | h
    · rw [← e, if_pos rfl]
    · have hs : s ∈ keys m := List.mem_map.mpr ⟨_, h, rfl⟩
      rw [if_neg (fun z => n1 (by rw [z]; exact hs))]
      exact ih n2 h
/-- m' says what m says -/
def Mle (m m' : Mp) : Prop := ∀ s t, lk m s = some t → lk m' s = some t
theorem Mle.refl (m : Mp) : Mle m m := fun _ _ h => h
theorem Mle.trans {a b c : Mp} (h : Mle a b) (k : Mle b c) : Mle a c := fun s t e => k s t (h s t e)
theorem mle_snoc {m : Mp} {s : Str} {u : Tm} (h : lk m s = none) : Mle m (m ++ [(s, u)]) := fun r t e => by
  rw [lk_snoc h]
  split
  · rename_i z
    rw [← z, h] at e
    cases e
  · exact e
theorem subT_var {m : Mp} {s : Str} {t : Tm} (h : lk m s = some t) : subT m (.var s) = t := by
  show (lk m s).getD (.var s) = t
  rw [h]
  rfl
theorem bnd_len : ∀ {ts us : List Tm} {m : Mp}, ts.length ≠ us.length → bnd ts us m = none
  | [], [], _, h => absurd rfl h
  | [], _ :: _, _, _ => rfl
  | .val _ :: _, [], _, _ => rfl
  | .var _ :: _, [], _, _ => rfl
  | .val k :: ts, u :: us, m, h => by
    unfold bnd
    have h2 : ts.length ≠ us.length := fun z => h (by rw [List.length_cons, List.length_cons, z])
    split
    · exact bnd_len h2
    · rfl
  | .var s :: ts, u :: us, m, h => by
    unfold bnd
    have h2 : ts.length ≠ us.length := fun z => h (by rw [List.length_cons, List.length_cons, z])
    split
    · split
      · exact bnd_len h2
      · rfl
    · exact bnd_len h2
theorem bnd_sound : ∀ {ts us : List Tm} {m m' : Mp}, bnd ts us m = some m' → (keys m).Nodup → (keys m').Nodup ∧ Mle m m' ∧ ts.map (subT m') = us ∧ ∀ s, s ∈ keys m' ↔ s ∈ keys m ∨ Tm.var s ∈ ts
  | [], [], m, m', h, nd => by
    cases h
    exact ⟨nd, Mle.refl _, rfl, fun s => by simp⟩
  | [], _ :: _, _, _, h, _ => by cases h
  | t :: _, [], _, _, h, _ => by cases t <;> cases h
  | .val k :: ts, u :: us, m, m', h, nd => by
    unfold bnd at h
    split at h
    · rename_i e
      obtain ⟨a1, a2, a3, a4⟩ := bnd_sound h nd
      refine ⟨a1, a2, ?_, fun s => ?_⟩
      · rw [List.map_cons, a3, ← e]
        rfl
      · rw [a4 s, List.mem_cons]
        simp
    · cases h
  | .var r :: ts, u :: us, m, m', h, nd => by
    unfold bnd at h
    cases hl : lk m r with
    | some t =>
      rw [hl] at h
      simp only at h
      split at h
      · rename_i e
        obtain ⟨a1, a2, a3, a4⟩ := bnd_sound h nd
        refine ⟨a1, a2, ?_, fun s => ?_⟩
        · rw [List.map_cons, a3, subT_var (a2 _ _ hl), e]
        · rw [a4 s, List.mem_cons]
          constructor
          · rintro (z | z)
            · exact .inl z
            · exact .inr (.inr z)
          · rintro (z | z | z)
            · exact .inl z
            · injection z with z
              exact .inl (by rw [z]; exact lk_some.mp ⟨t, hl⟩)
            · exact .inr z
      · cases h
    | none =>
      rw [hl] at h
      simp only at h
      have nd2 : (keys (m ++ [(r, u)])).Nodup := by
        unfold keys
        rw [List.map_append]
        refine List.nodup_append.mpr ⟨nd, by simp, fun a ha b hb z => ?_⟩
        rw [List.map_cons, List.map_nil, List.mem_singleton] at hb
        have hb : b = r := hb
        exact lk_none.mp hl (by rw [← hb, ← z]; exact ha)
      obtain ⟨a1, a2, a3, a4⟩ := bnd_sound h nd2
      refine ⟨a1, (mle_snoc hl).trans a2, ?_, fun s => ?_⟩
      · rw [List.map_cons, a3, subT_var (a2 r u (by rw [lk_snoc hl, if_pos rfl]))]
      · rw [a4 s]
        unfold keys
        rw [List.map_append, List.mem_append, List.mem_cons]
        simp only [List.map_cons, List.map_nil, List.mem_singleton, Tm.var.injEq]
        rw [or_assoc]
theorem bnd_full : ∀ {ts us : List Tm} {m m0 : Mp}, Mle m m0 → ts.map (subT m0) = us → (∀ s, Tm.var s ∈ ts → s ∈ keys m0) → ∃ m', bnd ts us m = some m' ∧ Mle m' m0
  | [], [], m, m0, h, _, _ => ⟨m, rfl, h⟩
  | [], _ :: _, _, _, _, e, _ => by cases e
  | _ :: _, [], _, _, _, e, _ => by cases e
  | .val k :: ts, u :: us, m, m0, h, e, hv => by
    rw [List.map_cons] at e
    obtain ⟨e1, e2⟩ := List.cons.inj e
    have e1 : Tm.val k = u := e1
    unfold bnd
    rw [if_pos e1]
    exact bnd_full h e2 fun s hs => hv s (List.mem_cons_of_mem _ hs)
  | .var r :: ts, u :: us, m, m0, h, e, hv => by
    rw [List.map_cons] at e
    obtain ⟨e1, e2⟩ := List.cons.inj e
    obtain ⟨t0, ht0⟩ := lk_some.mpr (hv r List.mem_cons_self)
    rw [subT_var ht0] at e1
    have hv2 : ∀ s, Tm.var s ∈ ts → s ∈ keys m0 := fun s hs => hv s (List.mem_cons_of_mem _ hs)
    unfold bnd
    cases hl : lk m r with
    | some t =>
      simp only
      have := h _ _ hl
      rw [ht0] at this
      have e3 : t = u := by rw [← e1]; exact (Option.some.inj this).symm
      rw [if_pos e3]
      exact bnd_full h e2 hv2
    | none =>
      simp only
      refine bnd_full (fun s t hs => ?_) e2 hv2
      rw [lk_snoc hl] at hs
      split at hs
      · rename_i z
        rw [← z, ht0, e1]
        exact hs
      · exact h _ _ hs
theorem bnd_size : ∀ {ts us : List Tm} {m m' : Mp}, bnd ts us m = some m' → m'.length ≤ m.length + ts.length
  | [], [], m, m', h => by cases h; exact Nat.le_refl _
  | [], _ :: _, _, _, h => by cases h
  | t :: _, [], _, _, h => by cases t <;> cases h
  | .val k :: ts, u :: us, m, m', h => by
    unfold bnd at h
    split at h
    · have := bnd_size h
      rw [List.length_cons]
      omega
    · cases h
  | .var r :: ts, u :: us, m, m', h => by
    unfold bnd at h
    rw [List.length_cons]
    split at h
    · split at h
      · have := bnd_size h
        omega
      · cases h
    · have := bnd_size h
      rw [List.length_append, List.length_singleton] at this
      omega
theorem keys_len (m : Mp) : (keys m).length = m.length := List.length_map ..

/-! ### matchings -/
def occ (s : Str) (j : Jn) : Prop := Tm.var s ∈ j.1 ∨ ∃ a ∈ j.2, Tm.var s ∈ a.2
structure Good (j o : Jn) (m : Mp) : Prop where
  nd : (keys m).Nodup
  dom : ∀ s, s ∈ keys m ↔ occ s j
  hd : j.1.map (subT m) = o.1
  bd : ∀ a ∈ j.2, subA m a ∈ o.2
/-- all of them -/
structure Mts (j o : Jn) (ms : List Mp) : Prop where
  sound : ∀ m ∈ ms, Good j o m
  full : ∀ m0, Good j o m0 → ∃ m ∈ ms, ∀ s, lk m s = lk m0 s
def grow (tgs : List Atm) (f : List Mp) (a : Atm) : List Mp := f.flatMap fun m => (tgs.filter fun r => decide (r.1 = a.1)).filterMap fun r => bnd a.2 r.2 m
def mfold (tgs : List Atm) (ats : List Atm) (f : List Mp) : List Mp := ats.foldl (grow tgs) f
theorem mem_grow {tgs : List Atm} {f : List Mp} {a : Atm} {m' : Mp} : m' ∈ grow tgs f a ↔ ∃ m ∈ f, ∃ r ∈ tgs, r.1 = a.1 ∧ bnd a.2 r.2 m = some m' := by
  unfold grow
  simp only [List.mem_flatMap, List.mem_filterMap, List.mem_filter, decide_eq_true_eq]
  constructor
  · rintro ⟨m, hm, r, ⟨h1, h2⟩, h3⟩
    exact ⟨m, hm, r, h1, h2, h3⟩
  · rintro ⟨m, hm, r, h1, h2, h3⟩
    exact ⟨m, hm, r, ⟨h1, h2⟩, h3⟩
theorem subT_le {m m' : Mp} (h : Mle m m') {t : Tm} (ht : ∀ s, t = .var s → s ∈ keys m) : subT m' t = subT m t := by
  cases t with
  | val k => rfl
  | var s =>
    obtain ⟨t, e⟩ := lk_some.mpr (ht s rfl)
    rw [subT_var e, subT_var (h _ _ e)]
theorem sub_le {m m' : Mp} (h : Mle m m') {ts : List Tm} (ht : ∀ s, Tm.var s ∈ ts → s ∈ keys m) : ts.map (subT m') = ts.map (subT m) :=
  List.map_congr_left fun t hm => subT_le h fun s e => ht s (by rw [← e]; exact hm)
/-- what the maps found behind some atoms are -/
structure Part (j o : Jn) (done : List Atm) (m : Mp) : Prop where
  nd : (keys m).Nodup
  dom : ∀ s, s ∈ keys m ↔ (Tm.var s ∈ j.1 ∨ ∃ a ∈ done, Tm.var s ∈ a.2)
  hd : j.1.map (subT m) = o.1
  bd : ∀ a ∈ done, subA m a ∈ o.2
theorem part_next {j o : Jn} {done : List Atm} {m m' : Mp} {a r : Atm} (p : Part j o done m) (hr : r ∈ o.2) (e : r.1 = a.1) (h : bnd a.2 r.2 m = some m') : Part j o (done ++ [a]) m' := by
  obtain ⟨a1, a2, a3, a4⟩ := bnd_sound h p.nd
  refine ⟨a1, fun s => ?_, ?_, fun b hb => ?_⟩
  · rw [a4 s, p.dom s]
    simp only [List.mem_append, List.mem_singleton]
    constructor
    · rintro ((z | ⟨b, hb, z⟩) | z)
      · exact .inl z
      · exact .inr ⟨b, .inl hb, z⟩
      · exact .inr ⟨a, .inr rfl, z⟩
    · rintro (z | ⟨b, hb | hb, z⟩)
      · exact .inl (.inl z)
      · exact .inl (.inr ⟨b, hb, z⟩)
      · rw [hb] at z
        exact .inr z
  · rw [sub_le a2 fun s hs => (p.dom s).mpr (.inl hs)]
    exact p.hd
  · rcases List.mem_append.mp hb with hb | hb
    · have : subA m' b = subA m b := by
        unfold subA
        rw [sub_le a2 fun s hs => (p.dom s).mpr (.inr ⟨b, hb, hs⟩)]
      rw [this]
      exact p.bd b hb
    · rw [List.mem_singleton.mp hb]
      unfold subA
      rw [a3, ← e]
      exact hr
theorem mfold_part {j o : Jn} {tgs : List Atm} (ht : ∀ a, a ∈ tgs ↔ a ∈ o.2) : ∀ (ats done : List Atm) (f : List Mp), (∀ m ∈ f, Part j o done m) → ∀ m ∈ mfold tgs ats f, Part j o (done ++ ats) m
  | [], done, f, h, m, hm => by
    rw [List.append_nil]
    exact h m hm
  | a :: ats, done, f, h, m, hm => by
    have := mfold_part ht ats (done ++ [a]) (grow tgs f a) (fun m' hm' => by
      obtain ⟨m1, h1, r, h2, h3, h4⟩ := mem_grow.mp hm'
      exact part_next (h m1 h1) ((ht r).mp h2) h3 h4) m hm
    rw [List.append_assoc] at this
    exact this
theorem mfold_full {o : Jn} {tgs : List Atm} (ht : ∀ a, a ∈ tgs ↔ a ∈ o.2) {m0 : Mp} : ∀ (ats : List Atm) (f : List Mp), (∀ a ∈ ats, subA m0 a ∈ o.2) → (∀ a ∈ ats, ∀ s, Tm.var s ∈ a.2 → s ∈ keys m0) → (∃ m ∈ f, Mle m m0) → ∃ m ∈ mfold tgs ats f, Mle m m0
  | [], f, _, _, h => h
  | a :: ats, f, h1, h2, ⟨m, hm, hle⟩ => by
    obtain ⟨m', e, hle'⟩ := bnd_full (us := a.2.map (subT m0)) hle rfl (h2 a List.mem_cons_self)
    have hg : m' ∈ grow tgs f a := mem_grow.mpr ⟨m, hm, subA m0 a, (ht _).mpr (h1 a List.mem_cons_self), rfl, e⟩
    exact mfold_full ht ats (grow tgs f a) (fun b hb => h1 b (List.mem_cons_of_mem _ hb)) (fun b hb => h2 b (List.mem_cons_of_mem _ hb)) ⟨m', hg, hle'⟩
theorem mle_eq {m m0 : Mp} (h : Mle m m0) (e : ∀ s, s ∈ keys m ↔ s ∈ keys m0) (s : Str) : lk m s = lk m0 s := by
  cases hl : lk m s with
  | some t => exact (h s t hl).symm
  | none => exact (lk_none.mpr fun z => lk_none.mp hl ((e s).mpr z)).symm
def start0 (j o : Jn) : List Mp := (bnd j.1 o.1 []).toList
theorem mts_of {j o : Jn} {tgs ats : List Atm} (ht : ∀ a, a ∈ tgs ↔ a ∈ o.2) (ha : ∀ a, a ∈ ats ↔ a ∈ j.2) : Mts j o (mfold tgs ats (start0 j o)) := by
  refine ⟨fun m hm => ?_, fun m0 g => ?_⟩
  · have := mfold_part ht ats [] (start0 j o) (fun m hm => by
      unfold start0 at hm
      rw [Option.mem_toList] at hm
      obtain ⟨a1, a2, a3, a4⟩ := bnd_sound hm (by simp [keys])
      exact ⟨a1, fun s => by rw [a4 s]; simp [keys], a3, fun a ha => by cases ha⟩) m hm
    rw [List.nil_append] at this
    exact ⟨this.nd, fun s => by
      rw [this.dom s]
      unfold occ
      simp only [ha], this.hd, fun a h => this.bd a ((ha a).mpr h)⟩
  · obtain ⟨m1, e, hle⟩ := bnd_full (m := []) (m0 := m0) (ts := j.1) (us := o.1) (fun s t h => by cases h) g.hd (fun s hs => (g.dom s).mpr (.inl hs))
    obtain ⟨m, hm, hle⟩ := mfold_full ht ats (start0 j o) (fun a h => g.bd a ((ha a).mp h)) (fun a h s hs => (g.dom s).mpr (.inr ⟨a, (ha a).mp h, hs⟩)) ⟨m1, by unfold start0; rw [e]; simp, hle⟩
    refine ⟨m, hm, fun s => mle_eq hle (fun s => ?_) s⟩
    have := mfold_part (j := j) ht ats [] (start0 j o) (fun m hm => by
      unfold start0 at hm
      rw [Option.mem_toList] at hm
      obtain ⟨a1, a2, a3, a4⟩ := bnd_sound hm (by simp [keys])
      exact ⟨a1, fun s => by rw [a4 s]; simp [keys], a3, fun a ha => by cases ha⟩) m hm
    rw [List.nil_append] at this
    rw [this.dom s, g.dom s]
    unfold occ
    simp only [ha]
theorem mfold_len {tgs : List Atm} : ∀ (ats : List Atm) (f : List Mp), (mfold tgs ats f).length ≤ f.length * tgs.length ^ ats.length
  | [], f => by simp [mfold]
  | a :: ats, f => by
    have h1 := mfold_len (tgs := tgs) ats (grow tgs f a)
    have h2 : (grow tgs f a).length ≤ f.length * tgs.length := by
      unfold grow
      induction f with
      | nil => simp
      | cons m f ih =>
        rw [List.flatMap_cons, List.length_append, List.length_cons, Nat.succ_mul]
        have h3 : ((tgs.filter fun r => decide (r.1 = a.1)).filterMap fun r => bnd a.2 r.2 m).length ≤ tgs.length := Nat.le_trans (List.length_filterMap_le _ _) (List.length_filter_le _ _)
        have h4 := ih (mfold_len ats _)
        omega
    rw [List.length_cons, Nat.pow_succ]
    refine Nat.le_trans h1 (Nat.le_trans (Nat.mul_le_mul_right _ h2) ?_)
    rw [Nat.mul_assoc, Nat.mul_comm tgs.length]
    exact Nat.le_refl _
theorem mts_perm {j o : Jn} {ms ms' : List Mp} (h : Mts j o ms) (p : ms'.Perm ms) : Mts j o ms' :=
  ⟨fun m hm => h.sound m (p.mem_iff.mp hm), fun m0 g => by
    obtain ⟨m, hm, e⟩ := h.full m0 g
    exact ⟨m, p.mem_iff.mpr hm, e⟩⟩
/-- the same pairs in another order -/
theorem lk_perm {m m' : Mp} (p : m'.Perm m) (nd : (keys m).Nodup) (s : Str) : lk m' s = lk m s := by
  have nd' : (keys m').Nodup := (p.map (fun x : Str × Tm => x.1)).nodup_iff.mpr nd
  cases h : lk m s with
  | some t => exact mem_lk nd' (p.mem_iff.mpr (lk_mem h))
  | none =>
    refine lk_none.mpr fun z => lk_none.mp h ?_
    exact (p.map (·.1)).mem_iff.mp z
theorem subT_eq {m m' : Mp} (h : ∀ s, lk m' s = lk m s) : subT m' = subT m := by
  funext t
  cases t with
  | val k => rfl
  | var s =>
    show (lk m' s).getD _ = (lk m s).getD _
    rw [h]
theorem subA_eq {m m' : Mp} (h : ∀ s, lk m' s = lk m s) : subA m' = subA m := by
  funext a
  unfold subA
  rw [subT_eq h]
theorem good_perm {j o : Jn} {m m' : Mp} (g : Good j o m) (p : m'.Perm m) : Good j o m' := by
  have e := lk_perm p g.nd
  refine ⟨(p.map (fun x : Str × Tm => x.1)).nodup_iff.mpr g.nd, fun s => ?_, ?_, ?_⟩
  · rw [← g.dom s]
    exact (p.map (·.1)).mem_iff
  · rw [subT_eq e]; exact g.hd
  · rw [subA_eq e]; exact g.bd
/-- each map in some order of its own -/
inductive Reord : List Mp → List Mp → Prop
  | nil : Reord [] []
  | cons {m m' : Mp} {l l' : List Mp} : m'.Perm m → Reord l l' → Reord (m :: l) (m' :: l')
theorem Reord.mem1 {l l' : List Mp} (r : Reord l l') : ∀ m' ∈ l', ∃ m ∈ l, m'.Perm m := by
  induction r with
  | nil => intro m h; cases h
  | cons p _ ih =>
    intro m h
    rcases List.mem_cons.mp h with rfl | h
    · exact ⟨_, List.mem_cons_self, p⟩
    · obtain ⟨m1, h1, h2⟩ := ih m h
      exact ⟨m1, List.mem_cons_of_mem _ h1, h2⟩
theorem Reord.mem2 {l l' : List Mp} (r : Reord l l') : ∀ m ∈ l, ∃ m' ∈ l', m'.Perm m := by
  induction r with
  | nil => intro m h; cases h
  | cons p _ ih =>
    intro m h
    rcases List.mem_cons.mp h with rfl | h
    · exact ⟨_, List.mem_cons_self, p⟩
    · obtain ⟨m1, h1, h2⟩ := ih m h
      exact ⟨m1, List.mem_cons_of_mem _ h1, h2⟩
theorem Reord.length {l l' : List Mp} (r : Reord l l') : l'.length = l.length := by
  induction r with
  | nil => rfl
  | cons _ _ ih => rw [List.length_cons, List.length_cons, ih]
theorem mts_reord {j o : Jn} {ms ms' : List Mp} (h : Mts j o ms) (r : Reord ms ms') : Mts j o ms' := by
  refine ⟨fun m' hm => ?_, fun m0 g => ?_⟩
  · obtain ⟨m, h1, p⟩ := r.mem1 m' hm
    exact good_perm (h.sound m h1) p
  · obtain ⟨m, hm, e⟩ := h.full m0 g
    obtain ⟨m', h1, p⟩ := r.mem2 m hm
    exact ⟨m', h1, fun s => (lk_perm p (h.sound m hm).nd s).trans (e s)⟩
end Aw

/-! M1: the maps found are different; their sizes. -/
namespace Aw
open PySem
theorem bnd_ext : ∀ {ts us : List Tm} {m m' : Mp}, bnd ts us m = some m' → ∃ e, m' = m ++ e
  | [], [], m, m', h => ⟨[], by cases h; simp⟩
  | [], _ :: _, _, _, h => by cases h
  | t :: _, [], _, _, h => by cases t <;> cases h
  | .val k :: ts, u :: us, m, m', h => by
    unfold bnd at h
    split at h
    · exact bnd_ext h
    · cases h
  | .var r :: ts, u :: us, m, m', h => by
    unfold bnd at h
    split at h
    · split at h
      · exact bnd_ext h
      · cases h
    · obtain ⟨e, he⟩ := bnd_ext h
      exact ⟨(r, u) :: e, by rw [he, List.append_assoc]; rfl⟩
def kgo : List Tm → List Str → List Str
  | [], ks => ks
  | .val _ :: ts, ks => kgo ts ks
  | .var s :: ts, ks => if s ∈ ks then kgo ts ks else kgo ts (ks ++ [s])
theorem bnd_keys : ∀ {ts us : List Tm} {m m' : Mp}, bnd ts us m = some m' → keys m' = kgo ts (keys m)
  | [], [], m, m', h => by cases h; rfl
  | [], _ :: _, _, _, h => by cases h
  | t :: _, [], _, _, h => by cases t <;> cases h
  | .val k :: ts, u :: us, m, m', h => by
    unfold bnd at h
    split at h
    · exact (bnd_keys h).trans (by rw [kgo])
    · cases h
  | .var r :: ts, u :: us, m, m', h => by
    unfold bnd at h
    unfold kgo
    split at h
    · rename_i t hl
      rw [if_pos (lk_some.mp ⟨t, hl⟩)]
      split at h
      · exact bnd_keys h
      · cases h
    · rename_i hl
      rw [if_neg (lk_none.mp hl), bnd_keys h]
      unfold keys
      rw [List.map_append]
      rfl
structure Dis (ks : List Str) (f : List Mp) : Prop where
  nd : f.Nodup
  kk : ∀ m ∈ f, keys m = ks
  kn : ks.Nodup
theorem grow_dis {tgs : List Atm} {ks : List Str} {f : List Mp} {a : Atm} (ht : tgs.Nodup) (d : Dis ks f) : ∃ ks', Dis ks' (grow tgs f a) := by
  have hk : ∀ m' ∈ grow tgs f a, keys m' = kgo a.2 ks := fun m' hm => by
    obtain ⟨m, h1, r, h2, h3, h4⟩ := mem_grow.mp hm
    rw [bnd_keys h4, d.kk m h1]
  have hnd : ∀ m' ∈ grow tgs f a, (keys m').Nodup := fun m' hm => by
    obtain ⟨m, h1, r, h2, h3, h4⟩ := mem_grow.mp hm
    exact (bnd_sound h4 (by rw [d.kk m h1]; exact d.kn)).1
  cases hg : grow tgs f a with
  | nil => exact ⟨[], .nil, (fun m hm => by cases hm), .nil⟩
  | cons m0 rest =>
    rw [← hg]
    refine ⟨kgo a.2 ks, ?_, hk, by
      have h0 : m0 ∈ grow tgs f a := by rw [hg]; exact List.mem_cons_self
      rw [← hk m0 h0]
      exact hnd m0 h0⟩
    clear hg hnd hk
    unfold grow
    have rn : (tgs.filter fun r => decide (r.1 = a.1)).Nodup := ht.filter _
    have inner : ∀ m : Mp, (keys m).Nodup → ∀ rs : List Atm, rs.Nodup → (∀ r ∈ rs, r.1 = a.1) → (rs.filterMap fun r => bnd a.2 r.2 m).Nodup := by
      intro m hm rs
      induction rs with
      | nil => intro _ _; exact .nil
      | cons r rs ih =>
        intro h1 h2
        obtain ⟨n1, n2⟩ := List.nodup_cons.mp h1
        have ih' := ih n2 fun r hr => h2 r (List.mem_cons_of_mem _ hr)
        cases hb : bnd a.2 r.2 m with
        | none => rw [List.filterMap_cons]; simp only [hb]; exact ih'
        | some m' =>
          rw [List.filterMap_cons]
          simp only [hb]
          refine List.nodup_cons.mpr ⟨fun z => ?_, ih'⟩
          obtain ⟨r2, hr2, hb2⟩ := List.mem_filterMap.mp z
          have e1 := (bnd_sound hb hm).2.2.1
          have e2 := (bnd_sound hb2 hm).2.2.1
          have : r2 = r := Prod.ext ((h2 r2 (List.mem_cons_of_mem _ hr2)).trans (h2 r List.mem_cons_self).symm) (e2.symm.trans e1)
          exact n1 (this ▸ hr2)
    have hf : ∀ r ∈ tgs.filter (fun r => decide (r.1 = a.1)), r.1 = a.1 := fun r hr => of_decide_eq_true (List.mem_filter.mp hr).2
    obtain ⟨dn, dk, dkn⟩ := d
    induction f with
    | nil => exact .nil
    | cons m f ih =>
      obtain ⟨n1, n2⟩ := List.nodup_cons.mp dn
      rw [List.flatMap_cons]
      refine List.nodup_append.mpr ⟨inner m (by rw [dk m List.mem_cons_self]; exact dkn) _ rn hf, ih n2 fun m hm => dk m (List.mem_cons_of_mem _ hm), fun x hx y hy e => ?_⟩
      subst e
      obtain ⟨r1, _, hb1⟩ := List.mem_filterMap.mp hx
      obtain ⟨m2, hm2, hy2⟩ := List.mem_flatMap.mp hy
      obtain ⟨r2, _, hb2⟩ := List.mem_filterMap.mp hy2
      obtain ⟨e1, q1⟩ := bnd_ext hb1
      obtain ⟨e2, q2⟩ := bnd_ext hb2
      have l1 : m.length = m2.length := by rw [← keys_len, ← keys_len, dk m List.mem_cons_self, dk m2 (List.mem_cons_of_mem _ hm2)]
      have : m = m2 := by
        have := congrArg (List.take m.length) (q1.symm.trans q2)
        rw [List.take_left, l1, List.take_left] at this
        exact this
      exact n1 (this ▸ hm2)
theorem mfold_dis {tgs : List Atm} (ht : tgs.Nodup) : ∀ (ats : List Atm) (f : List Mp), (∃ ks, Dis ks f) → ∃ ks, Dis ks (mfold tgs ats f)
  | [], f, h => h
  | a :: ats, f, ⟨ks, h⟩ => mfold_dis ht ats (grow tgs f a) (grow_dis ht h)
theorem start_dis (j o : Jn) : ∃ ks, Dis ks (start0 j o) := by
  unfold start0
  cases h : bnd j.1 o.1 [] with
  | none => exact ⟨[], .nil, (fun m hm => by cases hm), .nil⟩
  | some m =>
    refine ⟨keys m, by simp, fun m' hm => ?_, (bnd_sound h (by simp [keys])).1⟩
    rw [Option.toList_some, List.mem_singleton] at hm
    rw [hm]
/-- two maps at least: none is empty -/
theorem dis_ne {ks : List Str} {f : List Mp} (d : Dis ks f) (h : 2 ≤ f.length) : ∀ m ∈ f, m ≠ [] := by
  intro m hm e
  have hk : ks = [] := by rw [← d.kk m hm, e]; rfl
  have all : ∀ m ∈ f, m = [] := fun m hm => List.eq_nil_of_length_eq_zero (by rw [← keys_len, d.kk m hm, hk]; rfl)
  match f, d.nd, h, all with
  | m1 :: m2 :: f, nd, _, all =>
    obtain ⟨n1, _⟩ := List.nodup_cons.mp nd
    exact n1 (by rw [all m1 List.mem_cons_self, all m2 (List.mem_cons_of_mem _ List.mem_cons_self)]; exact List.mem_cons_self)
theorem mfold_size {tgs : List Atm} {n c : Nat} : ∀ (ats : List Atm) (f : List Mp) (k : Nat), (∀ a ∈ ats, a.2.length ≤ c) → (∀ m ∈ f, m.length ≤ k) → ∀ m ∈ mfold tgs ats f, m.length ≤ k + c * ats.length
  | [], f, k, _, h, m, hm => by
    have := h m hm
    simpa using this
  | a :: ats, f, k, ha, h, m, hm => by
    have := mfold_size (n := n) ats (grow tgs f a) (k + c) (fun b hb => ha b (List.mem_cons_of_mem _ hb)) (fun m' hm' => by
      obtain ⟨m1, h1, r, _, _, h4⟩ := mem_grow.mp hm'
      have := bnd_size h4
      have := h m1 h1
      have := ha a List.mem_cons_self
      omega) m hm
    rw [List.length_cons, Nat.mul_succ]
    omega
def Sm (j : Jn) : Prop := j.1.length ≤ 8 ∧ j.2.length ≤ 5 ∧ ∀ a ∈ j.2, a.2.length ≤ 8
theorem Sm.szs {j : Jn} (h : Sm j) : Szs j := ⟨Nat.le_trans h.1 (by decide), Nat.le_trans h.2.1 (by decide), fun a ha => Nat.le_trans (h.2.2 a ha) (by decide)⟩
theorem all_small {j o : Jn} {tgs ats : List Atm} (sj : Sm j) (hp : ats.Perm j.2) : ∀ m ∈ mfold tgs ats (start0 j o), m.length ≤ 48 := by
  intro m hm
  have := mfold_size (n := 0) (c := 8) ats (start0 j o) 8 (fun a ha => sj.2.2 a (hp.mem_iff.mp ha)) (fun m hm => by
    unfold start0 at hm
    rw [Option.mem_toList] at hm
    have := bnd_size hm
    have := sj.1
    simp only [List.length_nil] at *
    omega) m hm
  have := hp.length_eq
  have := sj.2.1
  omega
theorem few_maps {j o : Jn} {tgs ats : List Atm} (sj : Sm j) (hp : ats.Perm j.2) (ht : tgs.length ≤ 5) : (mfold tgs ats (start0 j o)).length ≤ 3125 := by
  have h1 := mfold_len (tgs := tgs) ats (start0 j o)
  have h2 : (start0 j o).length ≤ 1 := by
    unfold start0
    cases bnd j.1 o.1 [] <;> simp
  have h3 : ats.length ≤ 5 := by rw [hp.length_eq]; exact sj.2.1
  have h4 : tgs.length ^ ats.length ≤ 5 ^ 5 := Nat.le_trans (Nat.pow_le_pow_left ht _) (Nat.pow_le_pow_right (by decide) h3)
  have h5 : (start0 j o).length * tgs.length ^ ats.length ≤ 1 * 5 ^ 5 := Nat.mul_le_mul h2 h4
  have h6 : (1 * 5 ^ 5 : Nat) = 3125 := by decide
  omega
/-- a map by its keys -/
theorem map_by_keys {m : Mp} (nd : (keys m).Nodup) : (keys m).map (fun s => (s, subT m (.var s))) = m := by
  unfold keys
  rw [List.map_map]
  refine (List.map_congr_left fun p hp => ?_).trans (List.map_id m)
  show (p.1, subT m (.var p.1)) = p
  rw [subT_var (mem_lk nd hp)]
theorem map_perm {m : Mp} {ys : List Str} (nd : (keys m).Nodup) (p : ys.Perm (keys m)) : (ys.map fun s => (s, subT m (.var s))).Perm m := by
  have := p.map fun s => (s, subT m (.var s))
  rw [map_by_keys nd] at this
  exact this
end Aw

/-! M2: maps as functions; kinds; they compose. -/
namespace Aw
open PySem
abbrev Fn := Str → Tm
def app (h : Fn) : Tm → Tm
  | .var s => h s
  | .val k => .val k
def appA (h : Fn) (a : Atm) : Atm := (a.1, a.2.map (app h))
def appB (h : Fn) (b : List Atm) : List Atm := b.map (appA h)
structure Hom (j o : Jn) (h : Fn) : Prop where
  hd : j.1.map (app h) = o.1
  bd : ∀ a ∈ j.2, appA h a ∈ o.2
def fnOf (m : Mp) : Fn := fun s => subT m (.var s)
theorem app_fn (m : Mp) : app (fnOf m) = subT m := by
  funext t
  cases t with
  | var s => rfl
  | val k => rfl
theorem appA_fn (m : Mp) : appA (fnOf m) = subA m := by
  funext a
  unfold appA subA
  rw [app_fn]
theorem appB_fn (m : Mp) (b : List Atm) : appB (fnOf m) b = subB m b := by
  unfold appB subB
  rw [appA_fn]
theorem Good.hom {j o : Jn} {m : Mp} (g : Good j o m) : Hom j o (fnOf m) := ⟨by rw [app_fn]; exact g.hd, by rw [appA_fn]; exact g.bd⟩
theorem app_eq {h k : Fn} {ts : List Tm} (e : ∀ s, Tm.var s ∈ ts → h s = k s) : ts.map (app h) = ts.map (app k) := List.map_congr_left fun t ht => by
  cases t with
  | val k => rfl
  | var s => exact e s ht
theorem appA_eq {h k : Fn} {a : Atm} (e : ∀ s, Tm.var s ∈ a.2 → h s = k s) : appA h a = appA k a := by
  unfold appA
  rw [app_eq e]
theorem appB_eq {h k : Fn} {b : List Atm} (e : ∀ a ∈ b, ∀ s, Tm.var s ∈ a.2 → h s = k s) : appB h b = appB k b := List.map_congr_left fun a ha => appA_eq (e a ha)
/-- the variables of a join, each once -/
def vnames : List Tm → List Str
  | [] => []
  | .var s :: ts => s :: vnames ts
  | .val _ :: ts => vnames ts
theorem mem_vnames {s : Str} : ∀ {ts : List Tm}, s ∈ vnames ts ↔ Tm.var s ∈ ts
  | [] => by simp [vnames]
  | .var r :: ts => by
    unfold vnames
    rw [List.mem_cons, List.mem_cons, mem_vnames]
    simp
  | .val k :: ts => by
    unfold vnames
    rw [List.mem_cons, mem_vnames]
    simp
def dedup {α : Type} [DecidableEq α] : List α → List α
  | [] => []
  | x :: l => if x ∈ l then dedup l else x :: dedup l
theorem mem_dedup {α : Type} [DecidableEq α] {x : α} : ∀ {l : List α}, x ∈ dedup l ↔ x ∈ l
  | [] => by simp [dedup]
  | y :: l => by
    unfold dedup
    split
    · rename_i h
      rw [mem_dedup, List.mem_cons]
      exact ⟨.inr, fun z => z.elim (fun e => e ▸ h) _root_.id⟩
    · rw [List.mem_cons, List.mem_cons, mem_dedup]
theorem nodup_dedup {α : Type} [DecidableEq α] : ∀ {l : List α}, (dedup l).Nodup
  | [] => .nil
  | y :: l => by
    unfold dedup
    split
    · exact nodup_dedup
    · rename_i h
      exact List.nodup_cons.mpr ⟨fun z => h (mem_dedup.mp z), nodup_dedup⟩
def occL (j : Jn) : List Str := dedup (vnames (j.1 ++ j.2.flatMap (·.2)))
theorem mem_occL {s : Str} {j : Jn} : s ∈ occL j ↔ occ s j := by
  unfold occL occ
  rw [mem_dedup, mem_vnames, List.mem_append, List.mem_flatMap]
def mapOf (j : Jn) (h : Fn) : Mp := (occL j).map fun s => (s, h s)
theorem keys_mapOf (j : Jn) (h : Fn) : keys (mapOf j h) = occL j := by
  unfold keys mapOf
  rw [List.map_map]
  exact List.map_id _
theorem fn_mapOf {j : Jn} {h : Fn} {s : Str} (o : occ s j) : fnOf (mapOf j h) s = h s := by
  have nd : (keys (mapOf j h)).Nodup := by rw [keys_mapOf]; exact nodup_dedup
  exact subT_var (mem_lk nd (List.mem_map.mpr ⟨s, mem_occL.mpr o, rfl⟩))
theorem Hom.good {j o : Jn} {h : Fn} (g : Hom j o h) : Good j o (mapOf j h) ∧ subB (mapOf j h) j.2 = appB h j.2 := by
  have e1 : j.1.map (app (fnOf (mapOf j h))) = j.1.map (app h) := app_eq fun s hs => fn_mapOf (.inl hs)
  have e2 : ∀ a ∈ j.2, appA (fnOf (mapOf j h)) a = appA h a := fun a ha => appA_eq fun s hs => fn_mapOf (.inr ⟨a, ha, hs⟩)
  refine ⟨⟨by rw [keys_mapOf]; exact nodup_dedup, fun s => by rw [keys_mapOf]; exact mem_occL, ?_, fun a ha => ?_⟩, ?_⟩
  · rw [← app_fn, e1]
    exact g.hd
  · rw [← appA_fn, e2 a ha]
    exact g.bd a ha
  · rw [← appB_fn]
    exact List.map_congr_left e2
/-! ### composing -/
def cmp (h k : Fn) : Fn := fun s => app k (h s)
theorem app_cmp (h k : Fn) : app (cmp h k) = fun t => app k (app h t) := by
  funext t
  cases t with
  | var s => rfl
  | val l => rfl
theorem appA_cmp (h k : Fn) (a : Atm) : appA (cmp h k) a = appA k (appA h a) := by
  unfold appA
  rw [app_cmp, List.map_map]
  rfl
theorem appB_cmp (h k : Fn) (b : List Atm) : appB (cmp h k) b = appB k (appB h b) := by
  unfold appB
  rw [List.map_map]
  exact List.map_congr_left fun a _ => appA_cmp h k a
theorem Hom.comp {a b c : Jn} {h k : Fn} (f : Hom a b h) (g : Hom b c k) : Hom a c (cmp h k) := by
  refine ⟨?_, fun x hx => ?_⟩
  · rw [app_cmp, ← g.hd, ← f.hd, List.map_map]
    rfl
  · rw [appA_cmp]
    exact g.bd _ (f.bd x hx)
def idF : Fn := Tm.var
theorem app_id : app idF = id := by
  funext t
  cases t <;> rfl
theorem appA_id (a : Atm) : appA idF a = a := by
  unfold appA
  rw [app_id, List.map_id]
theorem appB_id (b : List Atm) : appB idF b = b := by
  unfold appB
  exact (List.map_congr_left fun a _ => appA_id a).trans (List.map_id b)
theorem Hom.refl (j : Jn) : Hom j j idF := ⟨by rw [app_id, List.map_id], fun a ha => by rw [appA_id]; exact ha⟩
/-! ### parts of lists, counted -/
def Prt (b c : List Atm) : Prop := ∀ a ∈ b, b.count a ≤ c.count a
theorem prt_all {b c : List Atm} (h : Prt b c) (a : Atm) : b.count a ≤ c.count a := by
  by_cases ha : a ∈ b
  · exact h a ha
  · rw [List.count_eq_zero_of_not_mem ha]
    exact Nat.zero_le _
theorem prt_rest : ∀ {b c : List Atm}, Prt b c → ∃ r, c.Perm (b ++ r)
  | [], c, _ => ⟨c, List.Perm.refl _⟩
  | x :: b, c, h => by
    have hx : x ∈ c := by
      have := prt_all h x
      rw [List.count_cons_self] at this
      exact List.count_pos_iff.mp (by omega)
    have h2 : Prt b (c.erase x) := fun a ha => by
      have := prt_all h a
      rw [List.count_cons] at this
      rw [List.count_erase]
      generalize (if (x == a) = true then 1 else 0) = n at *
      omega
    obtain ⟨r, hr⟩ := prt_rest h2
    exact ⟨r, (List.perm_cons_erase hx).trans (hr.cons x)⟩
theorem prt_of {b c r : List Atm} (h : c.Perm (b ++ r)) : Prt b c := fun a _ => by
  rw [h.count_eq, List.count_append]
  omega
theorem Prt.map {b c : List Atm} (h : Prt b c) (f : Atm → Atm) : Prt (b.map f) (c.map f) := by
  obtain ⟨r, hr⟩ := prt_rest h
  have := hr.map f
  rw [List.map_append] at this
  exact prt_of this
theorem Prt.trans {a b c : List Atm} (h : Prt a b) (k : Prt b c) : Prt a c := fun x _ => Nat.le_trans (prt_all h x) (prt_all k x)
theorem Prt.refl (a : List Atm) : Prt a a := fun _ _ => Nat.le_refl _
theorem Prt.len {b c : List Atm} (h : Prt b c) : b.length ≤ c.length := by
  obtain ⟨r, hr⟩ := prt_rest h
  rw [hr.length_eq, List.length_append]
  omega
theorem Prt.perm {b c : List Atm} (h : Prt b c) (e : b.length = c.length) : c.Perm b := by
  obtain ⟨r, hr⟩ := prt_rest h
  have := hr.length_eq
  rw [List.length_append] at this
  have hr0 : r = [] := List.eq_nil_of_length_eq_zero (by omega)
  rw [hr0, List.append_nil] at hr
  exact hr
end Aw

/-! A5: extended, term_key, map_key, image, is_part, fits, distinct. -/
namespace Aw
open PySem PySem.Spec PyProof.Rows L2
open C8 (Cal pe_c)
abbrev tms (l : List Tm) : T := .tup (l.map encTm)
abbrev ats (l : List Atm) : T := .tup (l.map encAt)
/-! ### dicts -/
theorem DicE.snoc {H : Hp} {s : Str} {v : V} {t : Tm} : ∀ {kvs : List (Key × V)} {m : Mp}, DicE H kvs m → Tp H v (encTm t) → DicE H (kvs ++ [(.inr s, v)]) (m ++ [(s, t)])
  | _, _, .nil, h => .cons h .nil
  | _, _, .cons h r, k => .cons h (r.snoc k)
theorem DicE.noK {H : Hp} : ∀ {kvs : List (Key × V)} {m : Mp} {s : Str}, DicE H kvs m → lk m s = none → (kvs.any fun kv => decide (kv.1 = Sum.inr s)) = false
  | _, _, _, .nil, _ => rfl
  | _, _, s, @DicE.cons _ r v t kvs m h q, e => by
    rw [lk_cons] at e
    split at e
    · cases e
    · rename_i hp
      rw [List.any_cons, q.noK e, Bool.or_false]
      exact decide_eq_false fun z => hp (Sum.inr.inj z)
theorem DicE.putK {H : Hp} {kvs : List (Key × V)} {m : Mp} {s : Str} {v : V} (h : DicE H kvs m) (e : lk m s = none) : putK kvs (Sum.inr s : Key) v = kvs ++ [(.inr s, v)] := by
  unfold L2.putK
  rw [h.noK e]
  rfl
def spEx : Sp := fun vs H Q _ => ∃ x y z ts us m, vs = [x, y, z] ∧ Tp H x (tms ts) ∧ Tp H y (tms us) ∧ Dic H z m ∧ ts.length ≤ 1000 ∧ m.length ≤ 50000 ∧
  (bnd ts us m = none → ∀ H', Same H H' → Q .non H') ∧ ∀ m', bnd ts us m = some m' → ∀ w H', Same H H' → Dic H' w m' → Q w H'
theorem atI_nat {α : Type} {xs : List α} {i : Nat} {x : α} (h : xs[i]? = some x) : atI xs (i : Int) = some x := by
  have := (List.getElem?_eq_some_iff.mp h).1
  unfold atI ixN
  rw [if_pos (by omega)]
  simp only [Int.ofNat_lt, this, if_true, Int.toNat_natCast]
  exact h
theorem bnd_step {ts us : List Tm} {i : Nat} {t u : Tm} (h1 : ts[i]? = some t) (h2 : us[i]? = some u) (m : Mp) : bnd (ts.drop i) (us.drop i) m = bnd (t :: ts.drop (i + 1)) (u :: us.drop (i + 1)) m := by
  obtain ⟨l1, e1⟩ := List.getElem?_eq_some_iff.mp h1
  obtain ⟨l2, e2⟩ := List.getElem?_eq_some_iff.mp h2
  rw [List.drop_eq_getElem_cons l1, List.drop_eq_getElem_cons l2, e1, e2]
theorem rng_lo {n : Nat} (h : n ≤ 1000000) : -(2 ^ 62) ≤ (n : Int) ∧ (n : Int) < 2 ^ 62 := by omega
section
variable {P : Program} {w : World} {K : PySem.W.Frag} {mg : Str → Option Value} {base : Heap}
theorem sc_extended : FnScope ["terms", "targets", "mapping", "grown", "k", "kind", "worth"] ["terms", "targets", "mapping"] (defScope st_extended) := ⟨rfl, rfl, rfl, by decide +kernel, rfl, by decide +kernel, by decide +kernel⟩
-- slots: 0 terms, 1 targets, 2 mapping, 3 grown, 4 k, 5 kind, 6 worth
theorem ok_extended (F : Def' K mg "extended" st_extended) (B : Bt mg) : Cal P w K mg base 1 "extended" spEx [] := by
  refine cal_mk F sc_extended (fun _ _ _ _ _ _ us hl => match us, hl with | [_, _, _], _ => rfl) (fun vs H Q E h => ?_) (fun f cdv A outer s H vs Q E hr h => ?_)
  · obtain ⟨x, y, z, ts, us, m, rfl, _⟩ := h
    rfl
  · obtain ⟨x, y, z, ts, us, m, rfl, hx, hy, hz, n1, n2, k1, k2⟩ := h
    have nd := sc_extended.nd
    have hu := hu_of hr
    have hu64 := hu64 hr
    refine ⟨_, (pss_cons (ps_if (pt_cmpR op_ne (pe_callB lenS rfl B.len_ bt_len (pa_cons (pv 0) pa_nil)) (pe_callB lenS rfl B.len_ bt_len (pa_cons (pv 1) pa_nil)) (nomark _))
      (pss_one (ps_ret pe_non))
      pss_nil)
      (pss_cons (ps_set (i := 3) nd rfl (.inl rfl) (pe_callTy call_dictD rfl B.dict_ bt_dict (pa_cons (pv 2) pa_nil)))
      (pss_cons (ps_for PassesOwn.never rfl (pi_range1 rfl B.range_ (pa_cons (pe_callB lenS rfl B.len_ bt_len (pa_cons (pv 0) pa_nil)) pa_nil)) (pg_name (i := 4) nd rfl (.inl rfl))
      (pss_cons (ps_asg (pe_ix ixT (pv 0) (pv 4) (fun _ _ => rfl)) (pgT (K := K) (n := 2) rfl rfl (pgs_cons (pg_name (i := 5) nd rfl (.inl rfl)) (pgs_cons (pg_name (i := 6) nd rfl (.inl rfl)) pgs_nil))))
        (pss_one (ps_if (pt_cmpR op_eq (pv 5) pe_str (nomark _))
        (pss_one (ps_if (pt_cmpR (neTm hu64) (pe_ix ixT (pv 0) (pv 4) (fun _ _ => rfl)) (pe_ix ixT (pv 1) (pv 4) (fun _ _ => rfl)) (nomark _))
          (pss_one (ps_ret pe_non))
          pss_nil))
        (pss_one (ps_if (pt_cmpR (neTm hu64) (pe_dsetd (pv 3) (pv 6) (pe_ix ixT (pv 1) (pv 4) (fun _ _ => rfl)) ⟨rfl, rfl, rfl, rfl⟩) (pe_ix ixT (pv 1) (pv 4) (fun _ _ => rfl)) (nomark _))
          (pss_one (ps_ret pe_non))
          pss_nil))))))
      (pss_one (ps_ret (pv 3)))))), ?_⟩
    obtain ⟨a, xs, rfl, ha, hxs⟩ := hx.tupE
    obtain ⟨b, ys, rfl, hb, hys⟩ := hy.tupE
    obtain ⟨d, kvs, rfl, hd, hk⟩ := hz
    have lx : xs.length = ts.length := by rw [hxs.length, List.length_map]
    have ly : ys.length = us.length := by rw [hys.length, List.length_map]
    refine ⟨_, rfl, a, xs, rfl, .inr ha, _, rfl, b, ys, rfl, .inr hb, rfl, _, rfl, iteN (fun hne => ?_) (fun heq => ?_)⟩
    · refine k1 (bnd_len fun z => hne ?_) _ (Same.refl _)
      rw [lx, ly, z]
    · have le : ts.length = us.length := by
        have := V.int.inj heq
        omega
      refine ⟨_, rfl, d, kvs, rfl, .inl hd, fun D hD => ?_⟩
      have eD := same_new (o := .dK kvs) hD
      refine ⟨_, rfl, a, xs, rfl, .inr (ha.same eD), _, rfl, (rng_lo (by omega)).1, (rng_lo (by omega)).2, ?_⟩
      refine for_range (fun i σ H' => ∃ p q r kv mi, σ = [some (.ref a), some (.ref b), some (.ref d), some (.ref D), p, q, r] ∧ Same H H' ∧ H' D = some (.dK kv) ∧ DicE H' kv mi ∧ bnd (ts.drop i) (us.drop i) mi = bnd ts us m ∧ mi.length ≤ m.length + i)
        ⟨_, _, _, kvs, m, rfl, eD, upd_same, hk.mono (Same.tx eD), rfl, Nat.le_refl _⟩ (fun i σ H' hi hp => ?_) (fun σ H' hp => ?_)
      · rw [Int.toNat_natCast, lx] at hi
        obtain ⟨p, q, r, kv, mi, rfl, e, hDd, hkv, hbn, hml⟩ := hp
        obtain ⟨t, ht⟩ : ∃ t, ts[i]? = some t := ⟨_, List.getElem?_eq_getElem hi⟩
        obtain ⟨u, hu'⟩ : ∃ u, us[i]? = some u := ⟨_, List.getElem?_eq_getElem (by omega)⟩
        obtain ⟨tv, htv, tT⟩ := hxs.atM ht
        obtain ⟨uv, huv, uT⟩ := hys.atM hu'
        have tT := tT.mono (Same.tx e)
        have uT := uT.mono (Same.tx e)
        obtain ⟨ta, rfl, hta, hto⟩ := tmE tT
        have hbs := bnd_step ht hu' mi
        rw [hbs] at hbn
        rw [Int.zero_add]
        refine ⟨_, rfl, _, rfl, a, xs, _, _, rfl, rfl, ha.same e, atI_nat htv, ta, _, rfl, hta.seq, rfl, _, _, rfl, _, _, rfl, rfl, ?_⟩
        refine ⟨_, rfl, rfl, _, rfl, ?_⟩
        cases t with
        | val k =>
          refine iteD (fun _ => ?_) (fun z => absurd rfl z)
          refine ⟨_, rfl, _, rfl, a, xs, _, _, rfl, rfl, ha.same e, atI_nat htv, _, rfl, _, rfl, b, ys, _, _, rfl, rfl, hb.same e, atI_nat huv, Tm.val k, u, tT, uT, _, rfl, iteN (fun z => ?_) (fun z => ?_)⟩
          · refine k1 ?_ _ e
            rw [← hbn]
            unfold bnd
            rw [if_neg z]
          · refine ⟨_, _, _, kv, mi, rfl, e, hDd, hkv, ?_, by omega⟩
            rw [← hbn]
            conv => rhs; unfold bnd
            rw [if_pos z]
        | var s =>
          refine iteD (fun z => absurd (V.str.inj z) tag_ne) (fun _ => ?_)
          refine ⟨_, rfl, D, rfl, .inl ⟨kv, .inl hDd⟩, _, rfl, _, rfl, _, rfl, b, ys, _, _, rfl, rfl, hb.same e, atI_nat huv, kv, Sum.inr s, hDd, rfl, ?_, fun v hv => ?_, fun hv => ?_⟩
          · rw [hkv.length]
            exact szt (by omega)
          · rcases hkv.get s with ⟨e1, e2⟩ | ⟨v', t', e1, e2, e3⟩
            · rw [e1] at hv
              cases hv
            · rw [e1] at hv
              cases hv
              refine ⟨_, rfl, _, rfl, b, ys, _, _, rfl, rfl, hb.same e, atI_nat huv, t', u, e3, uT, _, rfl, iteN (fun z => ?_) (fun z => ?_)⟩
              · refine k1 ?_ _ e
                rw [← hbn]
                unfold bnd
                rw [e2]
                exact if_neg z
              · refine ⟨_, _, _, kv, mi, rfl, e, hDd, hkv, ?_, by omega⟩
                rw [← hbn]
                conv => rhs; unfold bnd
                rw [e2]
                exact (if_pos z).symm
          · rcases hkv.get s with ⟨e1, e2⟩ | ⟨v', t', e1, e2, e3⟩
            · have e4 : Same H (upd H' D (.dK (putK kv (Sum.inr s) uv))) := same_mut e hD
              have tx : Tx H' (upd H' D (.dK (putK kv (Sum.inr s) uv))) := tx_dct hDd
              have uT2 := uT.mono tx
              refine ⟨_, rfl, _, rfl, b, ys, _, _, rfl, rfl, hb.same e4, atI_nat huv, u, u, uT2, uT2, _, rfl, iteN (fun z => absurd rfl z) (fun z => ?_)⟩
              refine ⟨_, _, _, _, mi ++ [(s, u)], rfl, e4, upd_same, ?_, ?_, ?_⟩
              · have h6 := (hkv.mono tx).snoc (s := s) uT2
                rw [hkv.putK (v := uv) e2] at h6 ⊢
                exact h6
              · rw [← hbn]
                conv => rhs; unfold bnd
                rw [e2]
              · rw [List.length_append, List.length_singleton]
                omega
            · rw [e1] at hv
              cases hv
      · rw [Int.toNat_natCast, lx] at hp
        obtain ⟨p, q, r, kv, mi, rfl, e, hDd, hkv, hbn, hml⟩ := hp
        rw [List.drop_length, le, List.drop_length] at hbn
        exact ⟨_, rfl, k2 mi hbn.symm _ _ e ⟨D, kv, rfl, hDd, hkv⟩⟩

/-! ### keys of maps -/
def encTk : Tm → T
  | .var s => .tup [.int 1, encVk (.inr s)]
  | .val k => .tup [.int 0, encVk k]
def payK : Tm → Key
  | .var s => .inr s
  | .val k => k
theorem pay_key (t : Tm) : t.pay = kV (payK t) := by
  cases t with
  | var s => rfl
  | val k => cases k <;> rfl
theorem pay_ok {t : Tm} (h : t.ok) : okK (payK t) := by
  cases t with
  | var s => exact h
  | val k => cases k <;> exact h
def spTk : Sp := fun vs H Q _ => ∃ v t, vs = [v] ∧ Tp H v (encTm t) ∧ ∀ w H', Same H H' → Tp H' w (encTk t) → Q w H'
def encMk (m : Mp) : T := .tup (m.map fun p => encTk p.2)
def spMk : Sp := fun vs H Q _ => ∃ v m, vs = [v] ∧ Tp H v (encMp m) ∧ m.length ≤ 1000 ∧ ∀ w H', Same H H' → Tp H' w (encMk m) → Q w H'
theorem sc_term_key : FnScope ["term", "kind", "worth"] ["term"] (defScope st_term_key) := ⟨rfl, rfl, rfl, by decide +kernel, rfl, by decide +kernel, by decide +kernel⟩
-- slots: 0 term, 1 kind, 2 worth
theorem ok_term_key (F : Def' K mg "term_key" st_term_key) (B : Bt mg) (C_value_key : Cal P w K mg base 1 "value_key" spVk []) : Cal P w K mg base 2 "term_key" spTk [] := by
  refine cal_mk F sc_term_key (fun _ _ _ _ _ _ us hl => match us, hl with | [_], _ => rfl) (fun vs H Q E h => ?_) (fun f cdv A outer s H vs Q E hr h => ?_)
  · obtain ⟨v, t, rfl, _⟩ := h
    rfl
  · obtain ⟨v, t, rfl, ht, k⟩ := h
    have nd := sc_term_key.nd
    refine ⟨_, (pss_cons (ps_asg (pv 0) (pgT (K := K) (n := 2) rfl rfl (pgs_cons (pg_name (i := 1) nd rfl (.inl rfl)) (pgs_cons (pg_name (i := 2) nd rfl (.inl rfl)) pgs_nil))))
      (pss_one (ps_ret (peT (pa_cons (pe_ifExp (pt_cmpR op_eq (pv 1) pe_str (nomark _)) pe_int pe_int) (pa_cons (pe_c C_value_key hr (by decide) rfl (pa_cons (pv 2) pa_nil)) pa_nil)))))), ?_⟩
    obtain ⟨a, rfl, ha, ho⟩ := tmE ht
    refine ⟨_, rfl, a, _, rfl, ha.seq, rfl, _, _, rfl, _, _, rfl, rfl, ?_⟩
    have key : ∀ (n : Int) (t' : Tm), t = t' → (match t' with | .var _ => n = 1 | .val _ => n = 0) → ∀ (w : V) (H' : Hp), Same H H' → Tp H' w (encVk (payK t)) → 2 ≤ sizeLine ∧ NewT [.int n, w] H' Q := fun n t' e hn w H' e1 hw => ⟨sz2, fun p H2 _ e2 hp => by
      refine k _ _ (e1.trans e2) ?_
      subst e
      cases t with
      | var s =>
        simp only at hn
        rw [hn] at hp
        exact .tup hp (.cons (.int _) (.cons (hw.mono (Same.tx e2)) .nil))
      | val kk =>
        simp only at hn
        rw [hn] at hp
        exact .tup hp (.cons (.int _) (.cons (hw.mono (Same.tx e2)) .nil))⟩
    refine ⟨_, rfl, rfl, _, rfl, ?_⟩
    cases t with
    | val kk =>
      exact iteD (fun z => absurd (V.str.inj z).symm tag_ne) fun _ => ⟨_, rfl, payK (.val kk), congrArg (fun x => [x]) (pay_key (.val kk)), pay_ok ho, fun w H' e1 hw => key 0 _ rfl rfl w H' e1 hw⟩
    | var s =>
      exact iteD (fun _ => ⟨_, rfl, payK (.var s), congrArg (fun x => [x]) (pay_key (.var s)), pay_ok ho, fun w H' e1 hw => key 1 _ rfl rfl w H' e1 hw⟩) fun z => absurd rfl z
theorem sc_map_key : FnScope ["mapping", "name", "term"] ["mapping"] (defScope st_map_key) := ⟨rfl, rfl, rfl, by decide +kernel, rfl, by decide +kernel, by decide +kernel⟩
-- slots: 0 mapping, 1 name, 2 term
theorem ok_map_key (F : Def' K mg "map_key" st_map_key) (B : Bt mg) (C_term_key : Cal P w K mg base 2 "term_key" spTk []) : Cal P w K mg base 3 "map_key" spMk [] := by
  refine cal_mk F sc_map_key (fun _ _ _ _ _ _ us hl => match us, hl with | [_], _ => rfl) (fun vs H Q E h => ?_) (fun f cdv A outer s H vs Q E hr h => ?_)
  · obtain ⟨v, m, rfl, _⟩ := h
    rfl
  · obtain ⟨v, m, rfl, hm, hn, k⟩ := h
    have nd := sc_map_key.nd
    refine ⟨_, (pss_one (ps_ret (pe_callTy tupOf rfl B.tuple_ bt_tuple (pa_cons (pe_lc (own := [("name", 1), ("term", 2)]) (tt := tYes) rfl nd (piT (K := K) rfl (pv 0)) (blkOk_by (by kernel_rfl)) (fun _ _ _ _ _ => (pgT (K := K) (n := 2) rfl rfl (pgs_cons (pg_name (i := 1) nd rfl (.inl rfl)) (pgs_cons (pg_name (i := 2) nd rfl (.inl rfl)) pgs_nil)))) (fun _ _ _ _ _ => pts_nil) (fun _ _ _ _ _ => (pe_c C_term_key hr (by decide) rfl (pa_cons (pv 2) pa_nil)))) pa_nil)))), ?_⟩
    obtain ⟨a, xs, rfl, ha, hxs⟩ := hm.tupE
    refine ⟨_, rfl, a, rfl, ⟨_, ha.seq⟩, lc_t (l := m) (ea := encPr) (f := fun p => encTk p.2) (c := fun _ => true) ha hxs (Nat.le_trans hn (by decide)) (fun p hp v H1 e1 hv R Qy _ kY => ?_) (fun q ys H1 _ e1 hq ry => ?_)⟩
    · obtain ⟨b, u, rfl, hb, hu, _⟩ := prE hv
      refine ⟨b, _, rfl, hb.seq, rfl, _, _, rfl, _, _, rfl, rfl, rfl, yesI ?_⟩
      exact ⟨_, rfl, u, p.2, rfl, hu, fun w H2 e2 hw => kY rfl w H2 e2 hw⟩
    · rw [filter_yes] at ry
      exact ⟨q, ys, rfl, hq, fun r H2 _ e2 h2 => k _ _ (e1.trans e2) (.tup h2 (ry.mono (Same.tx e2)))⟩
/-! ### images -/
def spIm : Sp := fun vs H Q _ => ∃ x y j m, vs = [x, y] ∧ Tp H x (encJn j) ∧ Tp H y (encMp m) ∧ (keys m).Nodup ∧ m.length ≤ 1000 ∧ Szs j ∧ ∀ w H', Same H H' → Tp H' w (ats (subB m j.2)) → Q w H'
def spPa : Sp := fun vs H Q _ => ∃ x y b c, vs = [x, y] ∧ Tp H x (ats b) ∧ Tp H y (ats c) ∧ b.length ≤ 1000 ∧ ∀ H', Same H H' → Q (.bl (decide (∀ a ∈ b, b.count a ≤ c.count a))) H'
def spDi : Sp := fun vs H Q _ => ∃ x b, vs = [x] ∧ Tp H x (ats b) ∧ b.length ≤ 1000 ∧ ∀ w H' b', Same H H' → Tp H' w (ats b') → b'.Nodup → (∀ a, a ∈ b' ↔ a ∈ b) → b'.length ≤ b.length → Q w H'
end
end Aw

/-! A6: image, is_part, distinct, fits. -/
namespace Aw
open PySem PySem.Spec PyProof.Rows L2
open C8 (Cal pe_c)
section
variable {K : PySem.W.Frag} {α : Type} {l : List α} {ea : α → T} {fv : α → V} {c : α → Bool} {a : Addr} {xs : List V} {g : TG} {tt : TT} {te : TE} {vs : List Nat} {σ : L2.St} {H : Hp} {Q : Addr → Hp → Prop}
/-- the word of a comprehension that gives plain values -/
def LcWv (H : Hp) (l : List α) (c : α → Bool) (fv : α → V) (D : Addr) (i : Nat) (H' : Hp) : Prop := Same H H' ∧ H D = none ∧ H' D = some (.lst (((l.take i).filter c).map fv))
theorem lcwv_turn {D : Addr} {i : Nat} {H' : Hp} {x : α} {v : V} (w : LcWv H l c fv D i H') (hi : l[i]? = some x) (hn : l.length ≤ 100000)
    (st : LcTurn g tt te vs σ (c x) H' v (fun y _ => y = fv x)) :
    g v (wipe σ vs) H' fun σ2 H2 => wipe σ2 vs = wipe σ vs ∧ tt σ2 H2 fun b H3 =>
      if b = true then te σ2 H3 fun y H4 => ∃ acc, H4 D = some (.lst acc) ∧ acc.length < sizeLine ∧ LcWv H l c fv D (i + 1) (upd H4 D (.lst (acc ++ [y]))) else LcWv H l c fv D (i + 1) H3 := by
  obtain ⟨e, n, h⟩ := w
  refine st _ _ (fun hc H2 e2 => ?_) (fun hc y H2 e2 hy => ?_)
  · exact ⟨e.trans e2, n, by rw [filter_take_no hi hc]; exact e2 _ _ h⟩
  · have h2 := e2 _ _ h
    refine ⟨_, h2, szt (by rw [List.length_map]; exact Nat.le_trans filter_take_len hn), same_mut (e.trans e2) n, n, ?_⟩
    rw [upd_same, filter_take_yes hi hc, List.map_append, hy]
    rfl
/-- [e for x in tuple if t], plain values -/
theorem lc_tv (ha : Tq H a xs) (hx : Tps H xs (l.map ea)) (hn : l.length ≤ 100000)
    (step : ∀ x ∈ l, ∀ v H', Same H H' → Tp H' v (ea x) → LcTurn g tt te vs σ (c x) H' v (fun y _ => y = fv x))
    (k : ∀ p H', H p = none → Same H H' → H' p = some (.lst ((l.filter c).map fv)) → Q p H') :
    ∀ D, H D = none → ∃ W : Nat → Nat → Hp → Prop, (∃ m, W 0 m (upd H D (.lst []))) ∧ ∀ i m H', W i m H' →
      ((Itt K a).stop i H' ∧ Q D H') ∨ ((Itt K a).go i H' ∧ ∃ Nx : Hp → Prop, (∀ H2, Nx H2 → ∃ m', m' < m ∧ W (i + 1) m' H2) ∧ ∀ x H2, (Itt K a).yld i H' x H2 → g x (wipe σ vs) H2 fun σ2 H2 => wipe σ2 vs = wipe σ vs ∧ tt σ2 H2 fun b H3 =>
        if b = true then te σ2 H3 fun y H4 => ∃ acc, H4 D = some (.lst acc) ∧ acc.length < sizeLine ∧ Nx (upd H4 D (.lst (acc ++ [y]))) else Nx H3) := fun D hD => by
  have hlen : xs.length = l.length := by rw [hx.length, List.length_map]
  refine lc_tup (K := K) (a := a) (xs := xs) (Qd := fun H' => Q D H') (LcWv H l c fv D) ⟨same_new hD, hD, upd_same⟩ (fun i H' _ w => (ha.same w.1).seq) (fun i x H' hi w => ?_) (fun H' w => ?_)
  · obtain ⟨z, hz, hv⟩ := hx.getM hi
    exact lcwv_turn w hz hn (step z (List.mem_of_getElem? hz) x H' w.1 (hv.mono (Same.tx w.1)))
  · obtain ⟨e, n, h⟩ := w
    rw [hlen, List.take_length] at h
    exact k D H' n e h
/-- [e for x in list if t], plain values -/
theorem lc_lv (ha : H a = some (.lst xs)) (hx : Tps H xs (l.map ea)) (hn : l.length ≤ 100000)
    (step : ∀ x ∈ l, ∀ v H', Same H H' → Tp H' v (ea x) → LcTurn g tt te vs σ (c x) H' v (fun y _ => y = fv x))
    (k : ∀ p H', H p = none → Same H H' → H' p = some (.lst ((l.filter c).map fv)) → Q p H') :
    ∀ D, H D = none → ∃ W : Nat → Nat → Hp → Prop, (∃ m, W 0 m (upd H D (.lst []))) ∧ ∀ i m H', W i m H' →
      ((Itl K a).stop i H' ∧ Q D H') ∨ ((Itl K a).go i H' ∧ ∃ Nx : Hp → Prop, (∀ H2, Nx H2 → ∃ m', m' < m ∧ W (i + 1) m' H2) ∧ ∀ x H2, (Itl K a).yld i H' x H2 → g x (wipe σ vs) H2 fun σ2 H2 => wipe σ2 vs = wipe σ vs ∧ tt σ2 H2 fun b H3 =>
        if b = true then te σ2 H3 fun y H4 => ∃ acc, H4 D = some (.lst acc) ∧ acc.length < sizeLine ∧ Nx (upd H4 D (.lst (acc ++ [y]))) else Nx H3) := fun D hD => by
  have hlen : xs.length = l.length := by rw [hx.length, List.length_map]
  refine lc_list (K := K) (a := a) (xs := xs) (Qd := fun H' => Q D H') (LcWv H l c fv D) ⟨same_new hD, hD, upd_same⟩ (fun i H' _ w => SqL.of (w.1 _ _ ha)) (fun i x H' hi w => ?_) (fun H' w => ?_)
  · obtain ⟨z, hz, hv⟩ := hx.getM hi
    exact lcwv_turn w hz hn (step z (List.mem_of_getElem? hz) x H' w.1 (hv.mono (Same.tx w.1)))
  · obtain ⟨e, n, h⟩ := w
    rw [hlen, List.take_length] at h
    exact k D H' n e h
end
theorem ifT {b : Bool} {A B : Prop} (h : b = true) (k : A) : if b = true then A else B := by rw [if_pos h]; exact k
theorem ifF {b : Bool} {A B : Prop} (h : b = false) (k : B) : if b = true then A else B := by rw [if_neg (by rw [h]; exact Bool.false_ne_true)]; exact k
theorem lk_take {m : Mp} {i : Nat} {p : Str × Tm} (nd : (keys m).Nodup) (h : m[i]? = some p) : lk (m.take i) p.1 = none := by
  refine lk_none.mpr fun z => ?_
  have h1 : m = m.take i ++ m.drop i := (List.take_append_drop i m).symm
  have l1 := (List.getElem?_eq_some_iff.mp h).1
  have h2 : m.drop i = p :: m.drop (i + 1) := by
    rw [List.drop_eq_getElem_cons l1]
    rw [(List.getElem?_eq_some_iff.mp h).2]
  have h3 : keys m = keys (m.take i) ++ p.1 :: keys (m.drop (i + 1)) := by
    conv => lhs; rw [h1, h2]
    unfold keys
    rw [List.map_append, List.map_cons]
  rw [h3] at nd
  exact (List.nodup_append.mp nd).2.2 _ z _ List.mem_cons_self rfl
/-- kinds -/
def KOk (kind : Str) (b c : List Atm) : Prop := kind = "yes" ∨ ((∀ a ∈ b, b.count a ≤ c.count a) ∧ (kind = "prices" ∨ b.length = c.length))
def kind3 (k : Str) : Prop := k = "once" ∨ k = "prices" ∨ k = "yes"
def spFi : Sp := fun vs H Q _ => ∃ kind x y z j o m, vs = [.str kind, x, y, z] ∧ kind3 kind ∧ Tp H x (encJn j) ∧ Tp H y (encJn o) ∧ Tp H z (encMp m) ∧ (keys m).Nodup ∧ m.length ≤ 1000 ∧ j.2.length ≤ 1000 ∧ Szs j ∧
  (KOk kind (subB m j.2) o.2 → ∀ H', Same H H' → Q (.bl true) H') ∧ (¬ KOk kind (subB m j.2) o.2 → ∀ H', Same H H' → Q (.bl false) H')
section
variable {P : Program} {w : World} {K : PySem.W.Frag} {mg : Str → Option Value} {base : Heap}
theorem sc_image : FnScope ["join", "mapping", "name", "term"] ["join", "mapping"] (defScope st_image) := ⟨rfl, rfl, rfl, by decide +kernel, rfl, by decide +kernel, by decide +kernel⟩
-- slots: 0 join, 1 mapping, 2 name, 3 term
theorem ok_image (F : Def' K mg "image" st_image) (B : Bt mg) (C_put_terms : Cal P w K mg base 2 "put_terms" spPts []) : Cal P w K mg base 3 "image" spIm [] := by
  refine cal_mk F sc_image (fun _ _ _ _ _ _ us hl => match us, hl with | [_, _], _ => rfl) (fun vs H Q E h => ?_) (fun f cdv A outer s H vs Q E hr h => ?_)
  · obtain ⟨x, y, j, m, rfl, _⟩ := h
    rfl
  · obtain ⟨x, y, j, m, rfl, hx, hy, hnd, hn, hs, k⟩ := h
    have nd := sc_image.nd
    refine ⟨_, (pss_one (ps_ret (pe_ix ixT (pe_c C_put_terms hr (by decide) rfl (pa_cons (pv 0) (pa_cons (pe_dc (own := [("name", 2), ("term", 3)]) (tt := tYes) rfl nd (piT (K := K) rfl (pv 1)) (blkOk_by (by kernel_rfl)) (fun _ _ _ _ _ => (pgT (K := K) (n := 2) rfl rfl (pgs_cons (pg_name (i := 2) nd rfl (.inl rfl)) (pgs_cons (pg_name (i := 3) nd rfl (.inl rfl)) pgs_nil)))) (fun _ _ _ _ _ => pts_nil) (fun _ _ _ _ _ => (pv 2)) (fun _ _ _ _ _ => (pv 3))) pa_nil))) pe_int (fun _ _ => rfl)))), ?_⟩
    obtain ⟨a, xs, rfl, ha, hxs⟩ := hy.tupE
    refine ⟨_, rfl, _, rfl, a, rfl, ⟨_, ha.seq⟩, fun D hD => ?_⟩
    refine dc_tup (K := K) (xs := xs) (fun i H' => Same H H' ∧ H D = none ∧ ∃ kvs, H' D = some (.dK kvs) ∧ DicE H' kvs (m.take i)) ⟨same_new hD, hD, [], upd_same, .nil⟩ (fun i H' _ p => (ha.same p.1).seq) (fun i v H' hi p => ?_) (fun H' p => ?_)
    · obtain ⟨e, n0, kvs, hk, hE⟩ := p
      obtain ⟨z, hz, hv⟩ := hxs.getM hi
      have hv := hv.mono (Same.tx e)
      obtain ⟨b, u, rfl, hb, hu, _⟩ := prE hv
      refine ⟨b, _, rfl, hb.seq, rfl, _, _, rfl, _, _, rfl, rfl, rfl, yesI ?_⟩
      refine ⟨_, rfl, _, rfl, kvs, Sum.inr z.1, rfl, hk, ?_, same_mut e n0, n0, _, upd_same, ?_⟩
      · rw [hE.length, List.length_take]
        exact szt (by omega)
      · have tx : Tx H' (upd H' D (.dK (putK kvs (Sum.inr z.1) u))) := tx_dct hk
        rw [List.take_add_one, hz]
        have h6 := (hE.mono tx).snoc (s := z.1) (hu.mono tx)
        rw [hE.putK (v := u) (lk_take hnd hz)] at h6 ⊢
        exact h6
    · obtain ⟨e, n0, kvs, hk, hE⟩ := p
      have hl : xs.length = m.length := by rw [hxs.length, List.length_map]
      rw [hl, List.take_length] at hE
      refine ⟨_, _, j, m, rfl, hx.mono (Same.tx e), ⟨D, kvs, rfl, hk, hE⟩, hs, fun w H2 e2 hw => ?_⟩
      obtain ⟨p, q, b, zs, ys, rfl, hp, hq, hzs, hb, hys⟩ := jnE hw
      exact ⟨p, _, 1, _, rfl, rfl, hp, rfl, k _ _ (e.trans e2) (.tup hb hys)⟩
theorem sc_is_part : FnScope ["atoms", "body", "atom"] ["atoms", "body"] (defScope st_is_part) := ⟨rfl, rfl, rfl, by decide +kernel, rfl, by decide +kernel, by decide +kernel⟩
-- slots: 0 atoms, 1 body, 2 atom
theorem ok_is_part (F : Def' K mg "is_part" st_is_part) (B : Bt mg) : Cal P w K mg base 1 "is_part" spPa [] := by
  refine cal_mk F sc_is_part (fun _ _ _ _ _ _ us hl => match us, hl with | [_, _], _ => rfl) (fun vs H Q E h => ?_) (fun f cdv A outer s H vs Q E hr h => ?_)
  · obtain ⟨x, y, b, c, rfl, _⟩ := h
    rfl
  · obtain ⟨x, y, b, c, rfl, hx, hy, hn, k1⟩ := h
    have nd := sc_is_part.nd
    have hu65 := hu65 hr
    refine ⟨_, (pss_one (ps_ret (pe_callB (allB rfl) rfl B.all_ bt_all (pa_cons (pe_lc (own := [("atom", 2)]) (g := (gName 2)) (tt := tYes) rfl nd (piT (K := K) rfl (pv 0)) (blkOk_by (by kernel_rfl)) (fun _ _ _ _ _ => (pg_name (i := 2) nd rfl (.inl rfl))) (fun _ _ _ _ _ => pts_nil) (fun _ _ _ _ _ => (pe_cmpR op_le (peTM PySem.F.slot_tuple_count PySem.F.type_tuple_count (mt_countT hu65) (pv 0) (pa_cons (pv 2) pa_nil)) (peTM PySem.F.slot_tuple_count PySem.F.type_tuple_count (mt_countT hu65) (pv 1) (pa_cons (pv 2) pa_nil)) (nomark _)))) pa_nil)))), ?_⟩
    obtain ⟨p, xs, rfl, hp, hxs⟩ := hx.tupE
    obtain ⟨q, ys, rfl, hq, hys⟩ := hy.tupE
    refine ⟨_, rfl, p, rfl, ⟨_, hp.seq⟩, lc_tv (l := b) (ea := encAt) (fv := fun a => .bl (decide (b.count a ≤ c.count a))) (c := fun _ => true) hp hxs (Nat.le_trans hn (by decide)) (fun a ha v H1 e1 hv R Qy _ kY => ?_) (fun D H1 _ e1 hD => ?_)⟩
    · refine ⟨rfl, yesI ?_⟩
      refine ⟨_, rfl, ⟨p, xs, rfl, hp.same e1⟩, _, rfl, a, b, p, xs, v, rfl, rfl, hp.same e1, hxs.mono (Same.tx e1), hv, ?_⟩
      refine ⟨_, rfl, ⟨q, ys, rfl, hq.same e1⟩, _, rfl, a, c, q, ys, v, rfl, rfl, hq.same e1, hys.mono (Same.tx e1), hv, ?_⟩
      refine ⟨_, _, rfl, rfl, kY rfl _ _ (Same.refl _) ?_⟩
      exact congrArg V.bl (decide_eq_decide.mpr Int.ofNat_le)
    · rw [filter_yes] at hD
      refine ⟨D, b.map fun a => decide (b.count a ≤ c.count a), rfl, by rw [List.map_map]; exact hD, ?_⟩
      have e : ((b.map fun a => decide (b.count a ≤ c.count a)).all _root_.id) = decide (∀ a ∈ b, b.count a ≤ c.count a) := by
        rw [List.all_map]
        refine Bool.eq_iff_iff.mpr ?_
        rw [List.all_eq_true, decide_eq_true_eq]
        exact ⟨fun h a ha => of_decide_eq_true (h a ha), fun h a ha => decide_eq_true (h a ha)⟩
      rw [e]
      exact k1 H1 e1
theorem sc_distinct : FnScope ["atoms", "found", "atom"] ["atoms"] (defScope st_distinct) := ⟨rfl, rfl, rfl, by decide +kernel, rfl, by decide +kernel, by decide +kernel⟩
-- slots: 0 atoms, 1 found, 2 atom
theorem ok_distinct (F : Def' K mg "distinct" st_distinct) (B : Bt mg) : Cal P w K mg base 1 "distinct" spDi [] := by
  refine cal_mk F sc_distinct (fun _ _ _ _ _ _ us hl => match us, hl with | [_], _ => rfl) (fun vs H Q E h => ?_) (fun f cdv A outer s H vs Q E hr h => ?_)
  · obtain ⟨x, b, rfl, _⟩ := h
    rfl
  · obtain ⟨x, b, rfl, hx, hn, k⟩ := h
    have nd := sc_distinct.nd
    have hu65 := hu65 hr
    refine ⟨_, (pss_cons (ps_set (i := 1) nd rfl (.inl rfl) (peL pa_nil))
      (pss_cons (ps_for PassesOwn.never rfl (piT (K := K) rfl (pv 0)) (pg_name (i := 2) nd rfl (.inl rfl))
      (pss_one (ps_if (pt_cmpR (notInAt hu65) (pv 2) (pv 1) rfl)
        (pss_one (ps_expr (peLM PySem.F.slot_list_append PySem.F.type_list_append mt_append (pv 1) (pa_cons (pv 2) pa_nil))))
        pss_nil)))
      (pss_one (ps_ret (pe_callTy tupOf rfl B.tuple_ bt_tuple (pa_cons (pv 1) pa_nil)))))), ?_⟩
    obtain ⟨p, xs, rfl, hp, hxs⟩ := hx.tupE
    have hl : xs.length = b.length := by rw [hxs.length, List.length_map]
    refine ⟨sz0, fun D H0 hD e0 h0 => ?_⟩
    refine ⟨_, rfl, p, rfl, ⟨_, (hp.same e0).seq⟩, ?_⟩
    refine for_tup (K := K) (xs := xs) (fun i σ H' => ∃ q ys fs, σ = [some (.ref p), some (.ref D), q] ∧ Same H H' ∧ H' D = some (.lst ys) ∧ Tps H' ys (fs.map encAt) ∧ fs.Nodup ∧ (∀ a, a ∈ fs ↔ a ∈ b.take i) ∧ fs.length ≤ i)
      ⟨_, [], [], rfl, e0, h0, .nil, .nil, fun a => by simp, Nat.le_refl _⟩ (fun i σ H' _ ⟨_, _, _, _, e, _⟩ => (hp.same e).seq) (fun i v σ H' hi hP => ?_) (fun σ H' hP => ?_)
    · obtain ⟨q, ys, fs, rfl, e, hDd, hys, hnd, hmem, hlen⟩ := hP
      obtain ⟨z, hz, hv⟩ := hxs.getM hi
      have hv := hv.mono (Same.tx e)
      have ht : b.take (i + 1) = b.take i ++ [z] := by rw [List.take_add_one, hz]; rfl
      have hib : i < b.length := (List.getElem?_eq_some_iff.mp hz).1
      refine ⟨_, rfl, _, rfl, z, fs, D, ys, hv, rfl, hDd, hys, _, rfl, iteN (fun hne => ?_) (fun hin => ?_)⟩
      · refine ⟨_, rfl, ⟨D, ys, rfl, hDd⟩, _, rfl, D, ys, _, rfl, rfl, hDd, ?_, ?_⟩
        · rw [hys.length, List.length_map]
          exact szt (by omega)
        · refine ⟨_, _, fs ++ [z], rfl, same_mut e hD, upd_same, ?_, ?_, fun a => ?_, ?_⟩
          · rw [List.map_append]
            exact (hys.snoc hv).mono (tx_lst hDd)
          · exact List.nodup_append.mpr ⟨hnd, by simp, fun x hx y hy e => hne (by rw [List.mem_singleton] at hy; rw [← hy, ← e]; exact hx)⟩
          · rw [ht, List.mem_append, List.mem_append, hmem a]
          · rw [List.length_append, List.length_singleton]
            omega
      · refine ⟨_, _, fs, rfl, e, hDd, hys, hnd, fun a => ?_, by omega⟩
        rw [ht, List.mem_append, hmem a, List.mem_singleton]
        constructor
        · exact .inl
        · rintro (z1 | z1)
          · exact z1
          · rw [z1]
            exact (hmem z).mp hin
    · obtain ⟨q, ys, fs, rfl, e, hDd, hys, hnd, hmem, hlen⟩ := hP
      rw [hl, List.take_length] at hmem
      refine ⟨_, rfl, D, ys, rfl, hDd, fun r H2 _ e2 h2 => ?_⟩
      exact k _ _ fs (e.trans e2) (.tup h2 (hys.mono (Same.tx e2))) hnd hmem (by omega)
theorem sc_fits : FnScope ["kind", "join", "other", "mapping", "atoms"] ["kind", "join", "other", "mapping"] (defScope st_fits) := ⟨rfl, rfl, rfl, by decide +kernel, rfl, by decide +kernel, by decide +kernel⟩
-- slots: 0 kind, 1 join, 2 other, 3 mapping, 4 atoms
theorem ok_fits (F : Def' K mg "fits" st_fits) (B : Bt mg) (C_image : Cal P w K mg base 3 "image" spIm []) (C_is_part : Cal P w K mg base 1 "is_part" spPa []) : Cal P w K mg base 4 "fits" spFi [] := by
  refine cal_mk F sc_fits (fun _ _ _ _ _ _ us hl => match us, hl with | [_, _, _, _], _ => rfl) (fun vs H Q E h => ?_) (fun f cdv A outer s H vs Q E hr h => ?_)
  · obtain ⟨kind, x, y, z, j, o, m, rfl, _⟩ := h
    rfl
  · obtain ⟨kind, x, y, z, j, o, m, rfl, hk3, hx, hy, hz, hnd, hn, hjn, hs, k1, k2⟩ := h
    have nd := sc_fits.nd
    refine ⟨_, (pss_cons (ps_if (pt_cmpR inS (pv 0) (peT (pa_cons pe_str (pa_cons pe_str pa_nil))) rfl)
      (pss_one (ps_ret pe_bl))
      pss_nil)
      (pss_cons (ps_set (i := 4) nd rfl (.inl rfl) (pe_c C_image hr (by decide) rfl (pa_cons (pv 1) (pa_cons (pv 3) pa_nil))))
      (pss_cons (ps_if (pt_not (pt_val (pe_c C_is_part hr (by decide) rfl (pa_cons (pv 4) (pa_cons (pe_ix ixT (pv 2) pe_int (fun _ _ => rfl)) pa_nil)))))
      (pss_one (ps_ret pe_bl))
      pss_nil)
      (pss_cons (ps_if (pt_cmpR op_eq (pv 0) pe_str (nomark _))
      (pss_one (ps_ret pe_bl))
      pss_nil)
      (pss_one (ps_ret (pe_and (pe_cmpR op_eq (pe_callB lenS rfl B.len_ bt_len (pa_cons (pv 4) pa_nil)) (pe_callB lenS rfl B.len_ bt_len (pa_cons (pe_ix ixT (pv 2) pe_int (fun _ _ => rfl)) pa_nil)) (nomark _)) (pe_one (pe_or (pe_cmpR op_eq (pv 0) pe_str (nomark _)) (pe_one pe_never)))))))))), ?_⟩
    obtain ⟨q, qa, qb, zs, ys, rfl, hq, hqa, hzs, hqb, hys⟩ := jnE hy
    refine ⟨_, rfl, sz2, fun T H1 _ e1 hT => ?_⟩
    refine ⟨T, _, rfl, .inr hT, rfl, rfl, _, rfl, ?_⟩
    have lenb : (subB m j.2).length = j.2.length := by unfold subB; rw [List.length_map]
    rcases Classical.em (kind = "yes") with hyes0 | hno0
    · subst hyes0
      exact ifT (by decide +kernel) (k1 (.inl rfl) _ e1)
    · have hk : kind = "once" ∨ kind = "prices" := by
        rcases hk3 with z | z | z
        · exact .inl z
        · exact .inr z
        · exact absurd z hno0
      have hin : inV (V.str kind) [V.str "sets", V.str "yes"] = false := by
        rcases hk with rfl | rfl <;> decide +kernel
      refine ifF hin ?_
      refine ⟨_, rfl, _, rfl, x, z, j, m, rfl, hx.mono (Same.tx e1), hz.mono (Same.tx e1), hnd, hn, hs, fun w H2 e2' hw => ?_⟩
      have e2 : Same H H2 := e1.trans e2'
      refine ⟨_, rfl, _, rfl, q, _, 1, _, rfl, rfl, hq.same e2, rfl, w, .ref qb, subB m j.2, o.2, rfl, hw, .tup (hqb.same e2) (hys.mono (Same.tx e2)), by rw [lenb]; exact hjn, fun H3 e3 => ⟨_, rfl, iteN (fun hno => ?_) (fun hyes => ?_)⟩⟩
      · refine k2 (fun z => ?_) _ (e2.trans e3)
        rcases z with z | ⟨z, _⟩
        · rcases hk with e | e <;> rw [e] at z <;> revert z <;> decide +kernel
        · exact hno z
      · refine ⟨_, rfl, rfl, _, rfl, iteD (fun he => ?_) (fun he => ?_)⟩
        · exact k1 (.inr ⟨hyes, .inl (V.str.inj he)⟩) _ (e2.trans e3)
        · have hone : kind = "once" := hk.resolve_right fun z => he (congrArg V.str z)
          obtain ⟨wa, ws, rfl, hwa, hws⟩ := hw.tupE
          refine ⟨_, rfl, wa, ws, rfl, .inr (hwa.same e3), _, rfl, q, _, 1, _, rfl, rfl, (hq.same e2).same e3, rfl, qb, ys, rfl, .inr ((hqb.same e2).same e3), rfl, _, rfl, ?_⟩
          have l1 : ws.length = (subB m j.2).length := by rw [hws.length, List.length_map]
          have l2 : ys.length = o.2.length := by rw [hys.length, List.length_map]
          refine iteD (fun hl => ?_) (fun hl => ?_)
          · have hl2 : (subB m j.2).length = o.2.length := by
              have := V.int.inj hl
              omega
            subst hone
            exact ⟨_, rfl, rfl, _, rfl, iteT (k1 (.inr ⟨hyes, .inr hl2⟩) _ (e2.trans e3))⟩
          · refine k2 (fun z => ?_) _ (e2.trans e3)
            subst hone
            rcases z with z | ⟨_, z | z⟩
            · revert z; decide +kernel
            · revert z; decide +kernel
            · exact hl (by rw [l1, l2, z])
end
end Aw

/-! A7: ordered_atoms. -/
namespace Aw
open PySem PySem.Spec PyProof.Rows L2
open C8 (Cal pe_c)
open LamX (CodeO TabS Tabs ExtN TabB lamEnv lam_make2)
/-- a def whose code object stands at c -/
structure DefC (K : PySem.W.Frag) (mg : Str → Option Value) (x : Str) (st : Stmt) (c : Addr) : Prop where
  ex : ∃ (f : Addr) (fd : FuncData), FnP K x st f fd ∧ mg x = some (.ref f) ∧ fd.code = .ref c
section
variable {P : Program} {w : World} {K : PySem.W.Frag} {mg : Str → Option Value} {base : Heap}
theorem cal_mkC {x : Str} {st : Stmt} {N ps : List Str} {k : Nat} {sp : Sp} {c : Addr} (F : DefC K mg x st c) (S : FnScope N ps (defScope st))
    (hb : ∀ (kV doc pm : Value) (an : Option Addr) (cdv ct : Value) (us : List Value), us.length = ps.length → bindArgs (PySem.W.fnOf x x (defArgs st) (defBody st) (defScope st) .none kV doc pm an cdv ct) ⟨us, []⟩ = pure (ps.zip us))
    (len : ∀ vs H Q E, sp vs H Q E → vs.length = ps.length)
    (hbody : ∀ (f : Addr) (A : Around) (outer : List Env) (s : Shared) (H : Hp) (vs : List V) (Q : VK) (E : XK), Room k (A.deeper (envOfC x (defScope st) s.heap.objs.size f (.ref c))) → sp vs H Q E →
      ∃ t, PSs (cxOf CX0 P w K mg base N x (defScope st) f (.ref c) A outer s H E).nox (defBody st) t ∧ t { nx := fun _ H' => Q .non H', rt := Q } (start N vs) H) : Cal P w K mg base (k + 1) x sp [] := by
  obtain ⟨f, fd, F, hm, hc⟩ := F.ex
  refine ⟨f, fd, ps, [], ?_, hm, F.kp, F.bindsN hb, .nil⟩
  obtain ⟨oc, od, dV, kV, doc, pm, an, cdv, ct, osl, rfl, lk, hcd, _, _⟩ := F.ex
  have e : cdv = .ref c := hc
  subst e
  refine fn_of lk hcd S len fun A outer s H vs Q E hr h => ?_
  obtain ⟨t, h1, h2⟩ := hbody f A outer s H vs Q E hr h
  exact ⟨t, h1.nox, h2⟩
end
/-! ### tables -/
theorem none_same {H H1 : Hp} {p : Addr} (e : Same H H1) (h : H1 p = none) : H p = none := by
  cases q : H p with
  | none => rfl
  | some o => rw [e _ _ q] at h; cases h
theorem extn_same {H H1 H2 : Hp} (a : ExtN H H1) (b : Same H1 H2) : ExtN H H2 := a.trans (ExtN.of b)
theorem extn_mut {H H' : Hp} {p : Addr} {o : HO} (e : ExtN H H') (h : H p = none) : ExtN H (upd H' p o) := fun b u q n => by
  rw [upd_ne (ne_of_none q h)]
  exact e b u q n
theorem extn_tx {H H' : Hp} (e : ExtN H H') : Tx H H' := fun a xs ⟨o, h1, h⟩ => ⟨o, h1, e a _ h fun ps z => by cases z⟩
theorem Tq.ext {H H' : Hp} {a : Addr} {xs : List V} (h : Tq H a xs) (e : ExtN H H') : Tq H' a xs := extn_tx e a xs h
theorem tabs_upd {T : List (Addr × Str)} {H : Hp} {p : Addr} {o : HO} (t : Tabs T H) (h1 : ∀ ps, H p ≠ some (.tbl ps)) (h2 : ∀ q, H p ≠ some (CodeO p q)) : Tabs T (upd H p o) := fun z hz => by
  obtain ⟨ps, a1, a2, a3⟩ := t z hz
  refine ⟨ps, ?_, a2, fun pos cv hc => ?_⟩
  · rw [upd_ne (fun e => h1 ps (by rw [← e]; exact a1))]
    exact a1
  · obtain ⟨c, e1, e2⟩ := a3 pos cv hc
    refine ⟨c, e1, ?_⟩
    rw [upd_ne (fun e => h2 z.2 (by rw [← e]; exact e2))]
    exact e2
theorem tabs_lst {T : List (Addr × Str)} {H : Hp} {p : Addr} {o : HO} {xs : List V} (t : Tabs T H) (h : H p = some (.lst xs)) : Tabs T (upd H p o) :=
  tabs_upd t (fun ps z => by rw [h] at z; cases z) fun q z => by
    rw [h] at z
    unfold CodeO at z
    cases z
theorem tabs_KD {P : Program} {w : World} {T : List (Addr × Str)} {H : Hp} {p : Addr} {o : HO} {ts : List Aw.T} (t : Tabs T H) (k : KD P w H p ts) : Tabs T (upd H p o) := by
  obtain ⟨es, ep, as, h, _, _, _, _, _, _, g, raw⟩ := k
  refine tabs_upd t (fun ps z => by rw [h] at z; unfold RawO at z; cases z) fun q z => ?_
  rw [h] at z
  unfold RawO CodeO at z
  have e : (fun h : Heap => DT.Raw h p es ep) = fun h => ∃ (oc : Obj) (vs : Array Value) (t : Tok), h.get? p = some oc ∧ oc.data = .fields vs ∧ vs[1]? = some (.str q t) := HO.ext.inj (Option.some.inj z)
  have e2 := congrFun e g
  have raw2 := raw
  rw [show DT.Raw g p es ep = ∃ (oc : Obj) (vs : Array Value) (t : Tok), g.get? p = some oc ∧ oc.data = .fields vs ∧ vs[1]? = some (.str q t) from e2] at raw2
  obtain ⟨oc, vs, tk, b1, b2, _⟩ := raw2
  obtain ⟨o', c1, c2, c3⟩ := raw
  rw [b1] at c1
  cases c1
  rw [b2] at c3
  cases c3
theorem tabs_same {T : List (Addr × Str)} {H H' : Hp} (t : Tabs T H) (e : Same H H') : Tabs T H' := t.ext e
def lamQ : Str := (envOfC "ordered_atoms" (defScope st_ordered_atoms) 0 0 .none).qual ++ "<lambda>"
abbrev T0 (P0 : Addr) : List (Addr × Str) := [(P0, lamQ)]
/-- all but the table stays -/
structure Gx (P0 : Addr) (H H' : Hp) : Prop where
  e : ExtN H H'
  t : Tabs (T0 P0) H'
theorem Gx.then_ {P0 : Addr} {H H1 H2 : Hp} (a : Gx P0 H H1) (b : Same H1 H2) : Gx P0 H H2 := ⟨extn_same a.e b, a.t.ext b⟩
theorem Gx.trans {P0 : Addr} {H H1 H2 : Hp} (a : Gx P0 H H1) (b : Gx P0 H1 H2) : Gx P0 H H2 := ⟨a.e.trans b.e, b.t⟩
theorem Gx.of {P0 : Addr} {H H1 : Hp} (t : Tabs (T0 P0) H) (b : Same H H1) : Gx P0 H H1 := ⟨ExtN.of b, t.ext b⟩
theorem Gx.lst {P0 : Addr} {H H1 : Hp} {p : Addr} {xs ys : List V} (a : Gx P0 H H1) (n : H p = none) (h : H1 p = some (.lst xs)) : Gx P0 H (upd H1 p (.lst ys)) := ⟨extn_mut a.e n, tabs_lst a.t h⟩
theorem Gx.tx {P0 : Addr} {H H1 : Hp} (a : Gx P0 H H1) : Tx H H1 := extn_tx a.e
theorem Gx.at_ {P0 : Addr} {H H1 : Hp} (a : Gx P0 H H1) {p : Addr} {xs : List V} (h : H p = some (.lst xs)) : H1 p = some (.lst xs) := a.e p _ h fun ps z => by cases z
theorem Gx.dic {P0 : Addr} {H H1 : Hp} (a : Gx P0 H H1) {p : Addr} {kvs : List (Key × V)} (h : H p = some (.dK kvs)) : H1 p = some (.dK kvs) := a.e p _ h fun ps z => by cases z
def spOa (P0 : Addr) : Sp := fun vs H Q _ => ∃ x b, vs = [x] ∧ Tp H x (ats b) ∧ b.length ≤ 100 ∧ (∀ a ∈ b, a.2.length ≤ 100) ∧ Tabs (T0 P0) H ∧
  ∀ b' : List Atm, b'.Perm b → ∀ p ys H', Gx P0 H H' → H' p = some (.lst ys) → Tps H' ys (b'.map encAt) → Q (.ref p) H'
theorem gx_KD {P : Program} {w : World} {P0 : Addr} {H H' : Hp} {d : Addr} {ts : List T} (k : KD P w H d ts) (g : Gx P0 H H') : KD P w H' d ts := by
  obtain ⟨es, ep, h⟩ := k.some
  exact k.move ((g.e d _ h fun ps z => by unfold RawO at z; cases z).trans h.symm) g.tx
section
variable {P : Program} {w : World} {K : PySem.W.Frag} {mg : Str → Option Value} {base : Heap}
def OaW (P : Program) (w : World) (P0 : Addr) (H : Hp) (x : V) (l d D : Addr) (b : List Atm) (ls fs : List Atm) (n : Nat) (σ : L2.St) (H' : Hp) : Prop := ∃ lsv fsv ts p q r s', σ = [some x, some (.ref l), some (.ref d), p, q, some (.ref D), r, s'] ∧ Gx P0 H H' ∧
  H' l = some (.lst lsv) ∧ Tps H' lsv (ls.map encAt) ∧ H' d = some (.lst fsv) ∧ Tps H' fsv (fs.map encAt) ∧ KD P w H' D ts ∧ ts.length ≤ n ∧ (fs ++ ls).Perm b
theorem putN_len {ts : List T} {t : T} : (putN ts t).length ≤ ts.length + 1 := by
  by_cases h : t ∈ ts
  · rw [putN_in h]; omega
  · rw [putN_out h, List.length_append]; exact Nat.le_refl _
theorem erase_perm : ∀ {ls : List Atm} {j : Nat} {z : Atm}, ls[j]? = some z → (z :: ls.eraseIdx j).Perm ls
  | [], _, _, h => by simp at h
  | a :: ls, 0, z, h => by
    have e : a = z := by simpa using h
    rw [e]
    exact List.Perm.refl _
  | a :: ls, j + 1, z, h => by
    have h2 := erase_perm (ls := ls) (j := j) (z := z) (by simpa using h)
    exact (List.Perm.swap _ _ _).trans (h2.cons a)
theorem erase_map {α β : Type} (f : α → β) : ∀ (l : List α) (j : Nat), (l.map f).eraseIdx j = (l.eraseIdx j).map f
  | [], _ => rfl
  | _ :: _, 0 => rfl
  | x :: l, j + 1 => congrArg (f x :: ·) (erase_map f l j)
theorem tmp_dp (t : Tm) : (encTm t).dp ≤ 8 := Nat.le_trans (dp_tm t) (by decide)
theorem sc_ordered_atoms : FnScope ["atoms", "left", "found", "best", "term", "known", "one", "atom"] ["atoms"] (defScope st_ordered_atoms) := ⟨rfl, rfl, rfl, by decide +kernel, rfl, by decide +kernel, by decide +kernel⟩
theorem ok_ordered_atoms {c P0 : Addr} (F : DefC K mg "ordered_atoms" st_ordered_atoms c) (B : Bt mg) (TB : TabB base mg c P0) : Cal P w K mg base 3 "ordered_atoms" (spOa P0) [] := by
  refine cal_mkC F sc_ordered_atoms (fun _ _ _ _ _ _ us hl => match us, hl with | [_], _ => rfl) (fun vs H Q E h => ?_) (fun f A outer s H vs Q E hr h => ?_)
  · obtain ⟨x, b, rfl, _⟩ := h
    rfl
  · obtain ⟨x, b, rfl, hx, hn, hn2, ht, k⟩ := h
    have nd := sc_ordered_atoms.nd
    have hu65 := hu65 hr
    have hr2 : Room 1 (A.deeper (envOfC "ordered_atoms" (defScope st_ordered_atoms) s.heap.objs.size f (.ref c))).in1 := hr.in1
    refine ⟨_, (pss_cons (ps_set (i := 1) nd rfl (.inl rfl) (pe_callTy listOf rfl B.list_ bt_list (pa_cons (pv 0) pa_nil)))
      (pss_cons (ps_set (i := 5) nd rfl (.inr rfl) (pe_newN rfl rfl))
      (pss_cons (ps_set (i := 2) nd rfl (.inl rfl) (peL pa_nil))
      (pss_cons (ps_while PassesOwn.never (pt_cmpR op_gt (pe_callB lenS rfl B.len_ bt_len (pa_cons (pv 1) pa_nil)) pe_int (nomark _))
      (pss_cons (ps_set (i := 3) nd rfl (.inl rfl) (pe_minL (T := T0 P0) (k := 0) (i := 7) (a := "atom") rfl B.min_ (pa_cons (pv 1) pa_nil) TB rfl (.head _) (fun p hp _ => by rw [List.mem_singleton.mp hp]; rfl) hr2 rfl nd rfl (lamS1_by (by kernel_rfl)) rfl rfl (fun _ _ _ _ _ _ => rfl) (fun s H f' c' hr3 => (pe_callB lenS rfl B.len_ bt_len (pa_cons (pe_lc (own := [("one", 6)]) (g := (gName 6)) rfl nd (piT (K := K) rfl (pe_ix ixT (pv 7) pe_int (fun _ _ => rfl))) (blkOk_by (by kernel_rfl)) (fun _ _ _ _ _ => (pg_name (i := 6) nd rfl (.inl rfl))) (fun _ _ _ _ _ => (pts_one (PW.pt (pw_and (pt_cmpR op_eq (pe_ix ixT (pv 6) pe_int (fun _ _ => rfl)) pe_str (nomark _)) (pw_and1 (pt_cmpR (notInN rfl rfl (Aw.hu65 hr3)) (pv 6) (pv 5) rfl)))))) (fun _ _ _ _ _ => (pv 6))) pa_nil)))))
        (pss_cons (ps_expr (peLM PySem.F.slot_list_remove PySem.F.type_list_remove (mt_removeD hu65) (pv 1) (pa_cons (pv 3) pa_nil)))
        (pss_cons (ps_expr (peLM PySem.F.slot_list_append PySem.F.type_list_append mt_append (pv 2) (pa_cons (pv 3) pa_nil)))
        (pss_one (ps_for PassesOwn.never rfl (piT (K := K) rfl (pe_ix ixT (pv 3) pe_int (fun _ _ => rfl))) (pg_name (i := 4) nd rfl (.inl rfl))
        (pss_one (ps_asg pe_bl (pg_sub (pv 5) (pv 4) (set_N rfl rfl hu65))))))))))
      (pss_one (ps_ret (pv 2))))))), ?_⟩
    obtain ⟨a, xs, rfl, ha, hxs⟩ := hx.tupE
    refine ⟨_, rfl, a, xs, rfl, .inr ha, fun l H1 hl0 e1 hl1 => ?_⟩
    refine fun D H2 hD0 e2 kD => ?_
    refine ⟨sz0, fun d H3 hd0 e3 hd3 => ?_⟩
    have nD : H D = none := none_same e1 hD0
    have nd' : H d = none := none_same (e1.trans e2) hd0
    have hl2 := e2 _ _ hl1
    have hl3 := e3 _ _ hl2
    have kD3 := kD.same e3
    have l_d : l ≠ d := ne_of_none hl2 hd0
    have l_D : l ≠ D := ne_of_none hl1 hD0
    have D_d : D ≠ d := fun z => by
      obtain ⟨es, ep, hh⟩ := kD.some
      exact ne_of_none hh hd0 z
    refine ⟨fun m σ H' => ∃ ls fs, m = ls.length ∧ OaW P w P0 H (.ref a) l d D b ls fs (100 * fs.length) σ H', ⟨_, b, [], rfl, xs, [], [], _, _, _, _, rfl, Gx.of ht (e1.trans (e2.trans e3)), hl3, hxs.mono (Same.tx (e1.trans (e2.trans e3))), hd3, .nil, kD3, Nat.le_refl _, List.Perm.refl _⟩, ?_⟩
    rintro m σ H4 ⟨ls, fs, rfl, lsv, fsv, ts, p, q, r, s', rfl, g4, hl4, tls, hd4, tfs, kd4, hts, perm⟩
    have lenl : lsv.length = ls.length := by rw [tls.length, List.length_map]
    have hb1 : fs.length + ls.length ≤ 100 := by
      have := perm.length_eq
      rw [List.length_append] at this
      omega
    refine ⟨_, rfl, l, lsv, rfl, .inl hl4, _, _, rfl, rfl, _, rfl, iteD (fun hpos => ?_) (fun hz => ?_)⟩
    · refine ⟨_, fun _ _ h => h, ?_⟩
      refine ⟨_, rfl, g4.t, l, lsv, rfl, hl4, fun z => by rw [z] at hpos; exact absurd hpos (by decide), fun H5 e5 t5 => ⟨fun v hv H6 e6 => ?_, fun v hv H6 e6 => ?_⟩⟩
      · have g6 : Gx P0 H4 H6 := ⟨extn_same e5 e6, t5.ext e6⟩
        obtain ⟨dd, hdd, hvt⟩ := (tls.mono g6.tx).mem hv
        obtain ⟨z, hz, rfl⟩ := List.mem_map.mp hdd
        obtain ⟨p', q', zs, rfl, h1, h2, h3, _⟩ := atE hvt
        have hzb : z ∈ b := perm.mem_iff.mp (List.mem_append_right _ hz)
        have kd6 : KD P w H6 D ts := gx_KD kd4 g6
        refine ⟨_, rfl, p', _, 1, _, rfl, rfl, h1, rfl, q', rfl, ⟨_, h2.seq⟩, lc_t (l := z.2) (ea := encTm) (f := encTm) (c := fun t => open Classical in decide ((∃ s, t = Tm.var s) ∧ encTm t ∉ ts)) h2 h3 (Nat.le_trans (hn2 z hzb) (by decide)) (fun t _ u H7 e7 hu R Qy kN kY => ?_) (fun pp ys H7 _ e7 hpp _ => ?_)⟩
        · obtain ⟨ta, rfl, hta, hto⟩ := tmE hu
          refine ⟨rfl, ?_⟩
          refine ⟨_, rfl, ta, _, 0, .str t.tag, rfl, rfl, hta, rfl, rfl, _, rfl, ?_⟩
          cases t with
          | val k0 =>
            refine iteD (fun zz => absurd (V.str.inj zz).symm tag_ne) fun _ => ?_
            exact iteF (kN (by classical exact decide_eq_false fun ⟨⟨s, hs⟩, _⟩ => by cases hs) _ (Same.refl _))
          | var s0 =>
            refine iteD (fun _ => ?_) fun zz => absurd rfl zz
            refine ⟨_, rfl, _, rfl, D, _, ts, rfl, hu, tmp_dp _, kd6.same e7, fun hin => ?_, fun hout => ?_⟩
            · exact ⟨_, rfl, iteF (kN (by classical exact decide_eq_false fun ⟨_, hno⟩ => hno hin) _ (Same.refl _))⟩
            · exact ⟨_, rfl, iteT ⟨_, rfl, kY (by classical exact decide_eq_true ⟨⟨s0, rfl⟩, hout⟩) _ _ (Same.refl _) hu⟩⟩
        · exact ⟨pp, ys, rfl, .inl hpp, e7, _, rfl⟩
      · have g6 : Gx P0 H4 H6 := ⟨extn_same e5 e6, t5.ext e6⟩
        have gH6 : Gx P0 H H6 := g4.trans g6
        have tls6 := tls.mono g6.tx
        obtain ⟨dd, hdd, hvt⟩ := tls6.mem hv
        obtain ⟨z, hz, rfl⟩ := List.mem_map.mp hdd
        have hzb : z ∈ b := perm.mem_iff.mp (List.mem_append_right _ hz)
        have hl6 := g6.at_ hl4
        have hd6 := g6.at_ hd4
        refine ⟨_, rfl, ⟨l, lsv, rfl, hl6⟩, _, rfl, z, ls, l, lsv, v, rfl, rfl, hl6, tls6, hvt, hz, fun j hj => ?_⟩
        have g7 : Gx P0 H (upd H6 l (.lst (lsv.eraseIdx j))) := gH6.lst hl0 hl6
        have tx7 : Tx H6 (upd H6 l (.lst (lsv.eraseIdx j))) := tx_lst hl6
        have hd7 : (upd H6 l (.lst (lsv.eraseIdx j))) d = some (.lst fsv) := by rw [upd_ne l_d.symm]; exact hd6
        refine ⟨_, rfl, ⟨d, fsv, rfl, hd7⟩, _, rfl, d, fsv, v, rfl, rfl, hd7, ?_, ?_⟩
        · rw [tfs.length, List.length_map]
          exact szt (by omega)
        have g8 : Gx P0 H (upd (upd H6 l (.lst (lsv.eraseIdx j))) d (.lst (fsv ++ [v]))) := g7.lst nd' hd7
        have tx8 := tx7.trans (tx_lst (o := .lst (fsv ++ [v])) hd7)
        have hl8 : (upd (upd H6 l (.lst (lsv.eraseIdx j))) d (.lst (fsv ++ [v]))) l = some (.lst (lsv.eraseIdx j)) := by rw [upd_ne l_d, upd_same]
        have kd8 : KD P w (upd (upd H6 l (.lst (lsv.eraseIdx j))) d (.lst (fsv ++ [v]))) D ts := (gx_KD kd4 g6).move (by rw [upd_ne D_d, upd_ne l_D.symm]) tx8
        have tls8 := (tls6.mono tx8).eraseIdx j
        rw [erase_map] at tls8
        have tfs8 : Tps (upd (upd H6 l (.lst (lsv.eraseIdx j))) d (.lst (fsv ++ [v]))) (fsv ++ [v]) ((fs ++ [z]).map encAt) := by
          rw [List.map_append]
          exact ((tfs.mono g6.tx).mono tx8).snoc (hvt.mono tx8)
        have perm8 : ((fs ++ [z]) ++ ls.eraseIdx j).Perm b := by
          rw [List.append_assoc]
          exact ((erase_perm hj).append_left fs).trans perm
        have lj : j < ls.length := (List.getElem?_eq_some_iff.mp hj).1
        have ll : (ls.eraseIdx j).length < ls.length := by
          rw [List.length_eraseIdx_of_lt lj]
          omega
        obtain ⟨p', q', zs, rfl, h1, h2, h3, _⟩ := atE (hvt.mono tx8)
        refine ⟨_, rfl, p', _, 1, _, rfl, rfl, h1, rfl, q', rfl, ⟨_, h2.seq⟩, ?_⟩
        generalize hH8 : upd (upd H6 l (.lst (lsv.eraseIdx j))) d (.lst (fsv ++ [V.ref p'])) = H8 at *
        refine for_tup (K := K) (xs := zs) (fun i σ H' => Tx H8 H' ∧ OaW P w P0 H (.ref a) l d D b (ls.eraseIdx j) (fs ++ [z]) (100 * fs.length + i) σ H') ⟨Tx.refl _, _, _, ts, _, _, _, _, rfl, g8, hl8, tls8, by rw [← hH8]; exact upd_same, tfs8, kd8, hts, perm8⟩ (fun i σ H' _ hp => (hp.1 _ _ h2).seq) (fun i v σ H' hi hp => ?_) (fun σ H' hp => ?_)
        · obtain ⟨g9, lsv9, fsv9, ts9, p9, q9, r9, s9, rfl, gH9, hl9, tls9, hd9, tfs9, kd9, hts9, _⟩ := hp
          obtain ⟨t, _, htv⟩ := h3.getM hi
          have htv := htv.mono g9
          have hil : i < z.2.length := by
            have := (List.getElem?_eq_some_iff.mp hi).1
            rw [h3.length, List.length_map] at this
            exact this
          have hzl := hn2 z hzb
          refine ⟨_, rfl, _, rfl, D, _, ts9, rfl, rfl, htv, tmp_dp _, kd9, by omega, fun u kd10 => ?_⟩
          have tx10 : Tx H' (upd H' D u) := by
            obtain ⟨es, ep, hh⟩ := kd9.some
            exact tx_raw hh
          have t10 : Tabs (T0 P0) (upd H' D u) := tabs_KD gH9.t kd9
          refine ⟨g9.trans tx10, lsv9, fsv9, _, _, _, _, _, rfl, ⟨extn_mut gH9.e nD, t10⟩, by rw [upd_ne l_D]; exact hl9, tls9.mono tx10, by rw [upd_ne D_d.symm]; exact hd9, tfs9.mono tx10, kd10, ?_, perm8⟩
          have := putN_len (ts := ts9) (t := encTm t)
          show (putN ts9 (encTm t)).length ≤ _
          omega
        · obtain ⟨g9, lsv9, fsv9, ts9, p9, q9, r9, s9, rfl, gH9, hl9, tls9, hd9, tfs9, kd9, hts9, _⟩ := hp
          refine ⟨_, ll, _, _, rfl, lsv9, fsv9, ts9, _, _, _, _, rfl, gH9, hl9, tls9, hd9, tfs9, kd9, ?_, perm8⟩
          have hzl := hn2 z hzb
          rw [h3.length, List.length_map] at hts9
          rw [List.length_append, List.length_singleton]
          omega
    · have hls : ls = [] := List.eq_nil_of_length_eq_zero (by
        rw [← lenl]
        omega)
      rw [hls, List.append_nil] at perm
      exact ⟨_, rfl, k fs perm d fsv H4 g4 hd4 tfs⟩
end
end Aw

/-! A8: matchings. -/
namespace Aw
open PySem PySem.Spec PyProof.Rows L2
open C8 (Cal pe_c)
open LamX (Tabs ExtN)
/-- lists of dicts -/
inductive Dics (H : Hp) : List V → List Mp → Prop
  | nil : Dics H [] []
  | cons {v : V} {m : Mp} {vs : List V} {ms : List Mp} : Dic H v m → Dics H vs ms → Dics H (v :: vs) (m :: ms)
theorem Dic.mono {H H' : Hp} {v : V} {m : Mp} (tx : Tx H H') (k : ∀ a kvs, H a = some (.dK kvs) → H' a = some (.dK kvs)) (h : Dic H v m) : Dic H' v m := by
  obtain ⟨a, kvs, rfl, h1, h2⟩ := h
  exact ⟨a, kvs, rfl, k _ _ h1, h2.mono tx⟩
theorem Dics.mono {H H' : Hp} (tx : Tx H H') (k : ∀ a kvs, H a = some (.dK kvs) → H' a = some (.dK kvs)) {vs : List V} {ms : List Mp} (h : Dics H vs ms) : Dics H' vs ms := by
  induction h with
  | nil => exact .nil
  | cons h _ ih => exact .cons (h.mono tx k) ih
theorem Dics.same {H H' : Hp} (e : Same H H') {vs : List V} {ms : List Mp} (h : Dics H vs ms) : Dics H' vs ms := h.mono (Same.tx e) fun a kvs q => e _ _ q
theorem Dics.snoc {H : Hp} {v : V} {m : Mp} {vs : List V} {ms : List Mp} (h : Dics H vs ms) (k : Dic H v m) : Dics H (vs ++ [v]) (ms ++ [m]) := by
  induction h with
  | nil => exact .cons k .nil
  | cons h _ ih => exact .cons h ih
theorem Dics.length {H : Hp} {vs : List V} {ms : List Mp} (h : Dics H vs ms) : vs.length = ms.length := by
  induction h with
  | nil => rfl
  | cons _ _ ih => rw [List.length_cons, List.length_cons, ih]
theorem Dics.get {H : Hp} : ∀ {vs : List V} {ms : List Mp}, Dics H vs ms → ∀ {i : Nat} {v : V}, vs[i]? = some v → ∃ m, ms[i]? = some m ∧ Dic H v m
  | _, _, .nil, i, v, h => by simp at h
  | _, _, .cons h r, 0, v, e => ⟨_, rfl, by cases e; exact h⟩
  | _, _, .cons h r, i + 1, v, e => r.get (i := i) (by simpa using e)
theorem dics_lst {H : Hp} {p : Addr} {xs : List V} {o : HO} (h : H p = some (.lst xs)) {vs : List V} {ms : List Mp} (d : Dics H vs ms) : Dics (upd H p o) vs ms := d.mono (tx_lst h) fun a kvs q => by
  rw [upd_ne (fun z => by rw [z, h] at q; cases q)]
  exact q
theorem dic_lst {H : Hp} {p : Addr} {xs : List V} {o : HO} (h : H p = some (.lst xs)) {v : V} {m : Mp} (d : Dic H v m) : Dic (upd H p o) v m := d.mono (tx_lst h) fun a kvs q => by
  rw [upd_ne (fun z => by rw [z, h] at q; cases q)]
  exact q
/-! ### the texts of variables -/
theorem tms_ok {H : Hp} {s : Str} : ∀ {xs : List V} {ts : List Tm}, Tps H xs (ts.map encTm) → Tm.var s ∈ ts → okS s
  | _, [], _, h => by cases h
  | _, t :: ts, .cons h1 h2, h => by
    rcases List.mem_cons.mp h with e | h
    · obtain ⟨a, _, _, o⟩ := tmE h1
      rw [← e] at o
      exact o
    · exact tms_ok h2 h
theorem occ_ok {H : Hp} {v : V} {j : Jn} {s : Str} (h : Tp H v (encJn j)) (o : occ s j) : okS s := by
  obtain ⟨p, a, b, xs, ys, rfl, hp, ha, hxs, hb, hys⟩ := jnE h
  rcases o with o | ⟨z, hz, o⟩
  · exact tms_ok hxs o
  · obtain ⟨i, hi, e⟩ := List.getElem_of_mem hz
    obtain ⟨v, _, hv⟩ := hys.atM (f := encAt) (l := j.2) (x := z) (i := i) (by rw [List.getElem?_eq_getElem hi, e])
    obtain ⟨_, _, _, _, _, _, h3, _⟩ := atE hv
    exact tms_ok h3 o
theorem tps_strs {H : Hp} : ∀ {ss : List Str}, (∀ s ∈ ss, okS s) → Tps H (ss.map V.str) (ss.map T.str)
  | [], _ => .nil
  | s :: ss, h => .cons (.str s (h s List.mem_cons_self)) (tps_strs fun r hr => h r (List.mem_cons_of_mem _ hr))
theorem dicE_keys {H : Hp} : ∀ {kvs : List (Key × V)} {m : Mp}, DicE H kvs m → kvs.map (·.1) = (keys m).map Sum.inr
  | _, _, .nil => rfl
  | _, _, .cons h r => congrArg (_ :: ·) (dicE_keys r)
/-! ### the keys for sorting -/
open PySem.W in
theorem alike_tk (t u : Tm) : alike (encTk t).py (encTk u).py = true := by
  cases t with
  | var s => cases u with
    | var r => rfl
    | val k => cases k <;> rfl
  | val k => cases u with
    | var r => cases k <;> rfl
    | val l => cases k <;> cases l <;> rfl
open PySem.W in
theorem alike_tks : ∀ m m' : Mp, alikeAll (T.pys (m.map fun p => encTk p.2)) (T.pys (m'.map fun p => encTk p.2)) = true
  | [], _ => by
    show alikeAll [] _ = true
    unfold alikeAll
    rfl
  | _ :: _, [] => by
    show alikeAll (_ :: _) [] = true
    unfold alikeAll
    rfl
  | p :: m, q :: m' => by
    show alikeAll (_ :: _) (_ :: _) = true
    unfold alikeAll
    rw [Bool.and_eq_true]
    exact ⟨alike_tk p.2 q.2, alike_tks m m'⟩
theorem mks_alike (ms : List Mp) : PySem.W.AllAlike (T.pys (ms.map encMk)) := by
  intro d hd d' hd'
  rw [T.pys_map] at hd hd'
  obtain ⟨m, _, rfl⟩ := List.mem_map.mp hd
  obtain ⟨m', _, rfl⟩ := List.mem_map.mp hd'
  show PySem.W.alike (.tuple (T.pys (m.map fun p => encTk p.2))) (.tuple (T.pys (m'.map fun p => encTk p.2))) = true
  unfold PySem.W.alike
  exact alike_tks m m'
theorem mks_sortable {ms : List Mp} (h : ∀ m ∈ ms, m ≠ []) : PySem.W.Sortable (T.pys (ms.map encMk)) := by
  refine .inl fun d hd => ?_
  rw [T.pys_map] at hd
  obtain ⟨m, hm, rfl⟩ := List.mem_map.mp hd
  cases m with
  | nil => exact absurd rfl (h _ hm)
  | cons p m => exact ⟨_, _, rfl⟩
theorem dp_tk (t : Tm) : (encTk t).dp ≤ 2 := by
  cases t with
  | var s => exact Nat.le_refl _
  | val k => cases k <;> exact Nat.le_refl _
theorem dp_mk (m : Mp) : (encMk m).dp ≤ 3 := by
  show T.dps (m.map fun p => encTk p.2) + 1 ≤ 3
  have := T.dps_le (l := m.map fun p => encTk p.2) (n := 2) fun d hd => by
    obtain ⟨p, _, rfl⟩ := List.mem_map.mp hd
    exact dp_tk p.2
  omega
theorem few_maps' {j o : Jn} {tgs ats : List Atm} (h3 : ats.length ≤ 5) (ht : tgs.length ≤ 5) : (mfold tgs ats (start0 j o)).length ≤ 3125 := by
  have h1 := mfold_len (tgs := tgs) ats (start0 j o)
  have h2 : (start0 j o).length ≤ 1 := by
    unfold start0
    cases bnd j.1 o.1 [] <;> simp
  have h4 : tgs.length ^ ats.length ≤ 5 ^ 5 := Nat.le_trans (Nat.pow_le_pow_left ht _) (Nat.pow_le_pow_right (by decide) h3)
  have h5 : (start0 j o).length * tgs.length ^ ats.length ≤ 1 * 5 ^ 5 := Nat.mul_le_mul h2 h4
  have h6 : (1 * 5 ^ 5 : Nat) = 3125 := by decide
  omega
theorem all_small' {j o : Jn} {tgs ats : List Atm} (h1 : j.1.length ≤ 8) (ha : ∀ a ∈ ats, a.2.length ≤ 8) (hl : ats.length ≤ 5) : ∀ m ∈ mfold tgs ats (start0 j o), m.length ≤ 48 := by
  intro m hm
  have := mfold_size (n := 0) (c := 8) ats (start0 j o) 8 ha (fun m hm => by
    unfold start0 at hm
    rw [Option.mem_toList] at hm
    have := bnd_size hm
    simp only [List.length_nil] at *
    omega) m hm
  omega
theorem fm_take {α β : Type} {f : α → Option β} {l : List α} {i : Nat} {x : α} (h : l[i]? = some x) : (l.take (i + 1)).filterMap f = (l.take i).filterMap f ++ (f x).toList := by
  rw [List.take_add_one, h, List.filterMap_append]
  congr 1
theorem flat_take {α β : Type} {f : α → List β} {l : List α} {i : Nat} {x : α} (h : l[i]? = some x) : (l.take (i + 1)).flatMap f = (l.take i).flatMap f ++ f x := by
  rw [List.take_add_one, h, List.flatMap_append]
  congr 1
  exact List.append_nil _
theorem mfold_take {tgs : List Atm} {l : List Atm} {i : Nat} {x : Atm} (h : l[i]? = some x) (f : List Mp) : mfold tgs (l.take (i + 1)) f = grow tgs (mfold tgs (l.take i) f) x := by
  unfold mfold
  rw [List.take_add_one, h, List.foldl_append]
  rfl
theorem Reord.snoc {l l' : List Mp} {m m' : Mp} (r : Reord l l') (p : m'.Perm m) : Reord (l ++ [m]) (l' ++ [m']) := by
  induction r with
  | nil => exact .cons p .nil
  | cons q _ ih => exact .cons q ih
def spMt (P0 : Addr) : Sp := fun vs H Q _ => ∃ x y j o, vs = [x, y] ∧ Tp H x (encJn j) ∧ Tp H y (encJn o) ∧ Sm j ∧ Sm o ∧ Tabs (T0 P0) H ∧
  ∀ ms : List Mp, Mts j o ms → ms.length ≤ 3125 → (∀ m ∈ ms, m.length ≤ 48) → ∀ p ys H', Gx P0 H H' → H' p = some (.lst ys) → Tps H' ys (ms.map encMp) → Q (.ref p) H'
section
variable {P : Program} {w : World} {K : PySem.W.Frag} {mg : Str → Option Value} {base : Heap} {P0 : Addr}
theorem sc_matchings : FnScope ["join", "other", "start", "found", "targets", "name", "terms", "row", "rows", "grown", "mapping", "more", "maps", "target", "known"] ["join", "other"] (defScope st_matchings) := ⟨rfl, rfl, rfl, by decide +kernel, rfl, by decide +kernel, by decide +kernel⟩
-- slots: 0 join, 1 other, 2 start, 3 found, 4 targets, 5 name, 6 terms, 7 row, 8 rows, 9 grown, 10 mapping, 11 more, 12 maps, 13 target, 14 known
theorem ok_matchings (F : Def' K mg "matchings" st_matchings) (B : Bt mg) (C_extended : Cal P w K mg base 1 "extended" spEx []) (C_ordered_atoms : Cal P w K mg base 3 "ordered_atoms" (spOa P0) []) (C_map_key : Cal P w K mg base 3 "map_key" spMk []) : Cal P w K mg base 6 "matchings" (spMt P0) [] := by
  refine cal_mk F sc_matchings (fun _ _ _ _ _ _ us hl => match us, hl with | [_, _], _ => rfl) (fun vs H Q E h => ?_) (fun f cdv A outer s H vs Q E hr h => ?_)
  · obtain ⟨x, y, j, o, rfl, _⟩ := h
    rfl
  · obtain ⟨x, y, j, o, rfl, hx, hy, sj, so, ht, k⟩ := h
    have nd := sc_matchings.nd
    have hu := hu_of hr
    have hu65 := hu65 hr
    refine ⟨_, (pss_cons (ps_setM (i := 2) nd rfl (.inl rfl) (pe_c C_extended hr (by decide) rfl (pa_cons (pe_ix ixT (pv 0) pe_int (fun _ _ => rfl)) (pa_cons (pe_ix ixT (pv 1) pe_int (fun _ _ => rfl)) (pa_cons pe_dnewK pa_nil)))))
      (pss_cons (ps_setM (i := 3) nd rfl (.inl rfl) (pe_ifExp (pt_cmpR op_isN (pv 2) pe_non (nomark _)) (peL pa_nil) (peL (pa_cons (pv 2) pa_nil))))
      (pss_cons (ps_set (i := 4) nd rfl (.inl rfl) (pe_callTy (listN rfl rfl rfl) rfl B.list_ bt_list (pa_cons (pe_dcN (own := [("target", 13)]) (g := (gName 13)) rfl rfl hu65 rfl nd (piT (K := K) rfl (pe_ix ixT (pv 1) pe_int (fun _ _ => rfl))) (blkOk_by (by kernel_rfl)) (fun _ _ _ _ _ => (pg_name (i := 13) nd rfl (.inl rfl))) (fun _ _ _ _ _ => (pv 13))) pa_nil)))
      (pss_cons (ps_for PassesOwn.never rfl (piL (K := K) rfl (pe_c C_ordered_atoms hr (by decide) rfl (pa_cons (pe_ix ixT (pv 0) pe_int (fun _ _ => rfl)) pa_nil))) (pgT (K := K) (n := 2) rfl rfl (pgs_cons (pg_name (i := 5) nd rfl (.inr rfl)) (pgs_cons (pg_name (i := 6) nd rfl (.inl rfl)) pgs_nil)))
      (pss_cons (ps_setLc (i := 8) (own := [("known", 14), ("row", 7)]) rfl nd rfl rfl (sw_true rfl rfl rfl (by kernel_rfl)) (piL (K := K) rfl (pv 4)) (blkOk_by (by kernel_rfl)) (fun _ _ _ _ _ => (pgT (K := K) (n := 2) rfl rfl (pgs_cons (pg_name (i := 14) nd rfl (.inl rfl)) (pgs_cons (pg_name (i := 7) nd rfl (.inl rfl)) pgs_nil)))) (fun _ _ _ _ _ => (pts_one (pt_cmpR op_eq (pv 14) (pv 5) (nomark _)))) (fun _ _ _ _ _ => (pv 7)))
        (pss_cons (ps_set (i := 9) nd rfl (.inl rfl) (peL pa_nil))
        (pss_cons (ps_for PassesOwn.never rfl (piL (K := K) rfl (pv 3)) (pg_name (i := 10) nd rfl (.inl rfl))
        (pss_one (ps_for PassesOwn.never rfl (piL (K := K) rfl (pv 8)) (pg_name (i := 7) nd rfl (.inl rfl))
          (pss_cons (ps_set (i := 11) nd rfl (.inl rfl) (pe_c C_extended hr (by decide) rfl (pa_cons (pv 6) (pa_cons (pv 7) (pa_cons (pv 10) pa_nil)))))
            (pss_one (ps_if (pt_cmpR op_notN (pv 11) pe_non (nomark _))
            (pss_one (ps_expr (peLM PySem.F.slot_list_append PySem.F.type_list_append mt_append (pv 9) (pa_cons (pv 11) pa_nil))))
            pss_nil))))))
        (pss_one (ps_set (i := 3) nd rfl (.inl rfl) (pv 9)))))))
      (pss_cons (ps_setLc (i := 12) (own := [("mapping", 10)]) (g := (gName 10)) (tt := tYes) rfl nd rfl rfl (sw_true rfl rfl rfl (by kernel_rfl)) (piL (K := K) rfl (pv 3)) (blkOk_by (by kernel_rfl)) (fun _ _ _ _ _ => (pg_name (i := 10) nd rfl (.inr rfl))) (fun _ _ _ _ _ => pts_nil) (fun _ _ _ _ _ => (pe_callTy tupOf rfl B.tuple_ bt_tuple (pa_cons (pe_lc (own := [("name", 5)]) (g := (gName 5)) (tt := tYes) rfl nd (piL (K := K) rfl (pe_callB (call_sortedD rfl) rfl B.sorted_ bt_sorted (pa_cons (pv 10) pa_nil))) (blkOk_by (by kernel_rfl)) (fun _ _ _ _ _ => (pg_name (i := 5) nd rfl (.inl rfl))) (fun _ _ _ _ _ => pts_nil) (fun _ _ _ _ _ => (peT (pa_cons (pv 5) (pa_cons (pe_dget hu (pv 10) (pv 5) (fun _ _ => rfl)) pa_nil))))) pa_nil))))
      (pss_one (ps_ret (pe_sortK (j := 3) C_map_key hr (by decide) rfl rfl B.sorted_ (pa_cons (pv 12) pa_nil))))))))), ?_⟩
    obtain ⟨p, pa, pb, xs, ys, rfl, hp, hpa, hxs, hpb, hys⟩ := jnE hx
    obtain ⟨q, qa, qb, zs, ws, rfl, hq, hqa, hzs, hqb, hws⟩ := jnE hy
    have lws : ws.length = o.2.length := by rw [hws.length, List.length_map]
    -- start
    refine ⟨fun σ H' => ∃ sv, σ = [some (.ref p), some (.ref q), some sv, none, none, none, none, none, none, none, none, none, none, none, none] ∧ Same H H' ∧ ((sv = .non ∧ bnd j.1 o.1 [] = none) ∨ ∃ m0, bnd j.1 o.1 [] = some m0 ∧ Dic H' sv m0), ?_, ?_⟩
    · refine ⟨_, rfl, p, _, 0, _, rfl, rfl, hp, rfl, _, rfl, q, _, 0, _, rfl, rfl, hq, rfl, fun D hD => ?_⟩
      have e1 := same_new (o := .dK []) hD
      exact ⟨_, _, _, j.1, o.1, [], rfl, .tup (hpa.same e1) (hxs.mono (Same.tx e1)), .tup (hqa.same e1) (hzs.mono (Same.tx e1)), ⟨D, [], rfl, upd_same, .nil⟩, Nat.le_trans sj.1 (by decide), Nat.zero_le _, fun hn H2 e2 => ⟨_, rfl, e1.trans e2, .inl ⟨rfl, hn⟩⟩, fun m' hm w H2 e2 hw => ⟨_, rfl, e1.trans e2, .inr ⟨m', hm, hw⟩⟩⟩
    rintro σ H1 ⟨sv, rfl, e1, hst⟩
    -- found
    refine ⟨fun σ H' => ∃ F fv, σ = [some (.ref p), some (.ref q), some sv, some (.ref F), none, none, none, none, none, none, none, none, none, none, none] ∧ Same H H' ∧ H' F = some (.lst fv) ∧ Dics H' fv (start0 j o), ?_, ?_⟩
    · refine ⟨_, rfl, rfl, _, rfl, ?_⟩
      rcases hst with ⟨rfl, hn⟩ | ⟨m0, hm, hd⟩
      · refine iteD (fun _ => ⟨sz0, fun F H2 hF e2 h2 => ⟨F, [], rfl, e1.trans e2, h2, ?_⟩⟩) (fun z => absurd rfl z)
        unfold start0
        rw [hn]
        exact .nil
      · obtain ⟨d, kvs, rfl, hd1, hd2⟩ := id hd
        refine iteD (fun z => by cases z) (fun _ => ⟨_, rfl, sz1, fun F H2 hF e2 h2 => ⟨F, _, rfl, e1.trans e2, h2, ?_⟩⟩)
        unfold start0
        rw [hm]
        exact .cons (hd.same e2) .nil
    rintro σ H2 ⟨F, fv, rfl, e2, hF, hfv⟩
    -- targets
    refine ⟨_, rfl, q, _, 1, _, rfl, rfl, hq.same e2, rfl, qb, rfl, ⟨_, (hqb.same e2).seq⟩, fun D ob hD kd0 => ?_⟩
    refine walk_tup (K := K) (xs := ws) (fun i H' => ∃ tg : List Atm, Same H2 H' ∧ KD P w H' D (tg.map encAt) ∧ tg.Nodup ∧ (∀ a, a ∈ tg ↔ a ∈ o.2.take i) ∧ tg.length ≤ i) ⟨[], same_new hD, kd0, .nil, fun a => by simp, Nat.le_refl _⟩ (fun i H' _ hP => ?_) (fun i v H' hi hP => ?_) (fun H' hP => ?_)
    · obtain ⟨tg, e, _⟩ := hP
      exact ((hqb.same e2).same e).seq
    · obtain ⟨tg, e, kd, tn, tm, tl⟩ := hP
      obtain ⟨z, hz, hv⟩ := hws.getM hi
      have hv := hv.mono (Same.tx (e2.trans e))
      have hz5 : i < o.2.length := (List.getElem?_eq_some_iff.mp hz).1
      have so2 := so.2.1
      refine ⟨rfl, _, rfl, _, _, hv, Nat.le_trans (dp_at z) (by decide), kd, by rw [List.length_map]; omega, fun u kd' => ?_⟩
      have ht2 : o.2.take (i + 1) = o.2.take i ++ [z] := by rw [List.take_add_one, hz]; rfl
      have hmem : encAt z ∈ tg.map encAt ↔ z ∈ tg := by
        rw [List.mem_map]
        exact ⟨fun ⟨a, ha, e⟩ => (encAt_inj e) ▸ ha, fun h => ⟨z, h, rfl⟩⟩
      by_cases hin : z ∈ tg
      · refine ⟨tg, same_mut e hD, ?_, tn, fun a => ?_, by omega⟩
        · have e9 : putN (tg.map encAt) (encAt z) = tg.map encAt := putN_in (hmem.mpr hin)
          rw [← e9]
          exact kd'
        · rw [ht2, List.mem_append, ← tm a, List.mem_singleton]
          exact ⟨.inl, fun h => h.elim _root_.id fun e => e ▸ hin⟩
      · refine ⟨tg ++ [z], same_mut e hD, ?_, ?_, fun a => ?_, by rw [List.length_append, List.length_singleton]; omega⟩
        · have e9 : putN (tg.map encAt) (encAt z) = (tg ++ [z]).map encAt := by
            rw [putN_out (fun h => hin (hmem.mp h)), List.map_append]
            rfl
          rw [← e9]
          exact kd'
        · exact List.nodup_append.mpr ⟨tn, by simp, fun a ha b hb e => hin (by rw [List.mem_singleton] at hb; rw [← hb, ← e]; exact ha)⟩
        · rw [ht2, List.mem_append, List.mem_append, ← tm a]
    obtain ⟨tg, e3, kd, tn, tm, tl⟩ := hP
    rw [lws, List.take_length] at tm
    rw [lws] at tl
    have tl5 : tg.length ≤ 5 := Nat.le_trans tl so.2.1
    refine ⟨D, _, rfl, kd, by rw [List.length_map]; omega, fun tgv ttg TG H4 hTG0 e4 hTG => ?_⟩
    have e24 : Same H2 H4 := e3.trans e4
    have e04 : Same H H4 := e2.trans e24
    have ttg4 := ttg.mono (Same.tx e4)
    have hF4 := e24 _ _ hF
    have hfv4 := hfv.same e24
    -- the loop over the atoms
    refine ⟨_, rfl, p, _, 1, _, rfl, rfl, hp.same e04, rfl, _, j.2, rfl, .tup (hpb.same e04) (hys.mono (Same.tx e04)), Nat.le_trans sj.2.1 (by decide), fun a ha => Nat.le_trans (sj.2.2 a ha) (by decide), ht.ext e04, fun b' perm OA oav H5 g5 hOA tOA => ?_⟩
    have hTG5 := g5.at_ hTG
    have ttg5 := ttg4.mono g5.tx
    have lb : b'.length ≤ 5 := by rw [perm.length_eq]; exact sj.2.1
    have lov : oav.length = b'.length := by rw [tOA.length, List.length_map]
    refine ⟨OA, rfl, ⟨_, SqL.of hOA⟩, ?_⟩
    refine for_list (K := K) (xs := oav) (fun i σ H' => ∃ FF fv a5 a6 a7 a8 a9 a10 a11 a12 a13 a14, σ = [some (.ref p), some (.ref q), some sv, some (.ref FF), some (.ref TG), a5, a6, a7, a8, a9, a10, a11, a12, a13, a14] ∧ Same H5 H' ∧ H' FF = some (.lst fv) ∧ Dics H' fv (mfold tg (b'.take i) (start0 j o)))
      ⟨F, fv, _, _, _, _, _, _, _, _, _, _, rfl, Same.refl _, g5.at_ hF4, hfv4.mono g5.tx fun a kvs h => g5.dic h⟩ (fun i σ H' _ hP => ?_) (fun i v σ H' hi hP => ?_) (fun σ H' hP => ?_)
    · obtain ⟨_, _, _, _, _, _, _, _, _, _, _, _, _, e, _⟩ := hP
      exact SqL.of (e _ _ hOA)
    · obtain ⟨FF, fv, a5, a6, a7, a8, a9, a10, a11, a12, a13, a14, rfl, e, hFF, hfv⟩ := hP
      obtain ⟨z, hz, hv⟩ := tOA.getM hi
      have hv := hv.mono (Same.tx e)
      have hzj : z ∈ j.2 := perm.mem_iff.mp (List.mem_of_getElem? hz)
      obtain ⟨r, r2, zv, rfl, h1, h2, h3, _⟩ := atE hv
      have lzv : zv.length = z.2.length := by rw [h3.length, List.length_map]
      generalize hms : mfold tg (b'.take i) (start0 j o) = ms at hfv
      have lms : ms.length ≤ 3125 := by
        rw [← hms]
        exact few_maps' (by rw [List.length_take]; omega) tl5
      have sms : ∀ m ∈ ms, m.length ≤ 48 := by
        rw [← hms]
        exact all_small' sj.1 (fun a ha => sj.2.2 a (perm.mem_iff.mp (List.mem_of_mem_take ha))) (by rw [List.length_take]; omega)
      refine ⟨r, _, rfl, h1.seq, rfl, _, _, rfl, _, _, rfl, rfl, ?_⟩
      refine ⟨_, rfl, TG, rfl, ⟨_, SqL.of (e _ _ hTG5)⟩, lc_l (l := tg) (ea := encAt) (f := fun r => tms r.2) (c := fun r => decide (r.1 = z.1)) (e _ _ hTG5) (ttg5.mono (Same.tx e)) (by omega) (fun x hxg v H6 e6 hv R Qy kN kY => ?_) (fun RW rwv H6 _ e6 hRW trw => ?_)⟩
      · obtain ⟨r', r2', zv', rfl, h1', h2', h3', _⟩ := atE hv
        refine ⟨r', _, rfl, h1'.seq, rfl, _, _, rfl, _, _, rfl, rfl, rfl, ?_⟩
        refine ⟨_, rfl, _, rfl, rfl, _, rfl, ?_⟩
        exact iteD (fun h => ⟨_, rfl, kY (decide_eq_true (V.str.inj h)) _ _ (Same.refl _) (.tup h2' h3')⟩) (fun h => kN (decide_eq_false fun h2 => h (congrArg V.str h2)) _ (Same.refl _))
      · generalize hrs : tg.filter (fun r => decide (r.1 = z.1)) = rs at trw
        have lrs : rs.length ≤ 5 := by
          rw [← hrs]
          exact Nat.le_trans (List.length_filter_le _ _) tl5
        have lrw : rwv.length = rs.length := by rw [trw.length, List.length_map]
        refine ⟨sz0, fun G H7 hG0 e7 hG7 => ?_⟩
        have e67 : Same H' H7 := e6.trans e7
        refine ⟨_, rfl, FF, rfl, ⟨_, SqL.of (e67 _ _ hFF)⟩, ?_⟩
        refine for_list (K := K) (xs := fv) (fun n σ H8 => ∃ gv b7 b10 b11 b12 b13 b14, σ = [some (.ref p), some (.ref q), some sv, some (.ref FF), some (.ref TG), some (.str z.1), some (.ref r2), b7, some (.ref RW), some (.ref G), b10, b11, b12, b13, b14] ∧ Same H6 H8 ∧ H8 G = some (.lst gv) ∧ Dics H8 gv ((ms.take n).flatMap fun m => rs.filterMap fun r => bnd z.2 r.2 m) ∧ gv.length ≤ 5 * n)
          ⟨[], _, _, _, _, _, _, rfl, e7, hG7, .nil, Nat.le_refl _⟩ (fun n σ H8 _ hP => ?_) (fun n mv σ H8 hn hP => ?_) (fun σ H8 hP => ?_)
        · obtain ⟨_, _, _, _, _, _, _, _, e8, _⟩ := hP
          exact SqL.of (e8 _ _ (e6 _ _ hFF))
        · obtain ⟨gv, b7, b10, b11, b12, b13, b14, rfl, e8, hG8, hgv, lgv⟩ := hP
          have hfv6 := hfv.same e6
          obtain ⟨m, hm, hmd⟩ := hfv6.get hn
          have lfv := hfv.length
          have hnl : n < fv.length := (List.getElem?_eq_some_iff.mp hn).1
          refine ⟨_, rfl, RW, rfl, ⟨_, SqL.of (e8 _ _ hRW)⟩, ?_⟩
          refine for_list (K := K) (xs := rwv) (fun i σ H9 => ∃ gv c7 c11 c12 c13 c14, σ = [some (.ref p), some (.ref q), some sv, some (.ref FF), some (.ref TG), some (.str z.1), some (.ref r2), c7, some (.ref RW), some (.ref G), some mv, c11, c12, c13, c14] ∧ Same H6 H9 ∧ H9 G = some (.lst gv) ∧ Dics H9 gv (((ms.take n).flatMap fun m => rs.filterMap fun r => bnd z.2 r.2 m) ++ (rs.take i).filterMap fun r => bnd z.2 r.2 m) ∧ gv.length ≤ 5 * n + i)
            ⟨gv, _, _, _, _, _, rfl, e8, hG8, by rw [List.take_zero]; show Dics H8 gv (_ ++ []); rw [List.append_nil]; exact hgv, lgv⟩ (fun i σ H9 _ hP => ?_) (fun i rv σ H9 hi hP => ?_) (fun σ H9 hP => ?_)
          · obtain ⟨_, _, _, _, _, _, _, e9, _⟩ := hP
            exact SqL.of (e9 _ _ hRW)
          · obtain ⟨gv, c7, c11, c12, c13, c14, rfl, e9, hG9, hgv9, lgv9⟩ := hP
            obtain ⟨rr, hrr, hrv⟩ := trw.getM hi
            have hrv := hrv.mono (Same.tx e9)
            have hil : i < rwv.length := (List.getElem?_eq_some_iff.mp hi).1
            refine ⟨_, rfl, _, rfl, _, rfl, _, _, _, z.2, rr.2, m, rfl, .tup (((h2.same e6).same e9)) (h3.mono (Same.tx (e6.trans e9))), hrv, hmd.same e9, Nat.le_trans (sj.2.2 z hzj) (by decide), Nat.le_trans (sms m (List.mem_of_getElem? hm)) (by decide), fun hno H10 e10 => ?_, fun m' hm' wv H10 e10 hw => ?_⟩
            · refine ⟨_, rfl, rfl, _, rfl, iteN (fun zz => absurd rfl zz) (fun _ => ?_)⟩
              refine ⟨gv, _, _, _, _, _, rfl, e9.trans e10, e10 _ _ hG9, ?_, by omega⟩
              rw [fm_take hrr, hno]
              show Dics H10 gv (_ ++ (_ ++ []))
              rw [List.append_nil]
              exact hgv9.same e10
            · obtain ⟨dd, kvs, rfl, hdd, hkk⟩ := id hw
              have hG10 := e10 _ _ hG9
              have nG : H6 G = none := hG0
              refine ⟨_, rfl, rfl, _, rfl, iteN (fun _ => ?_) (fun zz => by cases zz)⟩
              refine ⟨_, rfl, ⟨G, gv, rfl, hG10⟩, _, rfl, G, gv, _, rfl, rfl, hG10, szt (by omega), ?_⟩
              refine ⟨_, _, _, _, _, _, rfl, same_mut (e9.trans e10) nG, upd_same, ?_, by rw [List.length_append, List.length_singleton]; omega⟩
              rw [fm_take hrr, hm', ← List.append_assoc]
              exact (dics_lst hG10 (hgv9.same e10)).snoc (dic_lst hG10 hw)
          · obtain ⟨gv, c7, c11, c12, c13, c14, rfl, e9, hG9, hgv9, lgv9⟩ := hP
            rw [lrw, List.take_length] at hgv9
            refine ⟨gv, _, _, _, _, _, _, rfl, e9, hG9, ?_, by omega⟩
            rw [flat_take hm]
            exact hgv9
        · obtain ⟨gv, b7, b10, b11, b12, b13, b14, rfl, e8, hG8, hgv, lgv⟩ := hP
          rw [hfv.length, List.take_length] at hgv
          refine ⟨_, rfl, G, gv, _, _, _, _, _, _, _, _, _, _, rfl, e.trans (e6.trans e8), hG8, ?_⟩
          rw [mfold_take hz, hms]
          unfold grow
          rw [hrs]
          exact hgv
    · obtain ⟨FF, fv, a5, a6, a7, a8, a9, a10, a11, a12, a13, a14, rfl, e, hFF, hfv⟩ := hP
      rw [lov, List.take_length] at hfv
      have hmts : Mts j o (mfold tg b' (start0 j o)) := mts_of tm (fun a => perm.mem_iff)
      have lms := few_maps' (j := j) (o := o) lb tl5
      have sms := all_small (o := o) (tgs := tg) sj perm
      have hdis := mfold_dis tn b' _ (start_dis j o)
      generalize mfold tg b' (start0 j o) = ms at hfv hmts lms sms hdis
      obtain ⟨ks, hdis⟩ := hdis
      have gH' : Gx P0 H H' := (Gx.of ht e04).trans (g5.then_ e)
      refine ⟨_, rfl, FF, rfl, ⟨_, SqL.of hFF⟩, fun D hD => ?_⟩
      refine lc_list (K := K) (xs := fv) (fun i H6 => ∃ yv ms', Same H' H6 ∧ H6 D = some (.lst yv) ∧ Tps H6 yv (ms'.map encMp) ∧ Reord (ms.take i) ms') ⟨[], [], same_new hD, upd_same, .nil, by rw [List.take_zero]; exact .nil⟩ (fun i H6 _ hP => ?_) (fun i mv H6 hi hP => ?_) (fun H6 hP => ?_)
      · obtain ⟨_, _, e6, _⟩ := hP
        exact SqL.of (e6 _ _ hFF)
      · obtain ⟨yv, ms', e6, hD6, tyv, ro⟩ := hP
        obtain ⟨m, hm, hmd⟩ := (hfv.same e6).get hi
        have hmm := List.mem_of_getElem? hm
        have gm := hmts.sound m hmm
        obtain ⟨d, kvs, rfl, hd, hkv⟩ := hmd
        have hks := dicE_keys hkv
        refine ⟨rfl, yesI ?_⟩
        refine ⟨_, rfl, d, kvs, keys m, rfl, .inl hd, hks, by rw [keys_len]; exact Nat.lt_of_le_of_lt (sms m hmm) (by decide), fun ks' S pk _ hS0 => ?_⟩
        have eS := same_new (o := .lst (ks'.map V.str)) hS0
        refine ⟨S, rfl, ⟨_, SqL.of upd_same⟩, lc_l (l := ks') (ea := T.str) (f := fun s => encPr (s, subT m (.var s))) (c := fun _ => true) upd_same (tps_strs fun s hs => occ_ok hx ((gm.dom s).mp (pk.mem_iff.mp hs))) (by rw [pk.length_eq, keys_len]; exact Nat.le_trans (sms m hmm) (by decide)) (fun s hs v H7 e7 hv R Qy _ kY => ?_) (fun Z zv H7 _ e7 hZ tz => ?_)⟩
        · have hse := hv.strE
          subst hse
          have hok : okS s := occ_ok hx ((gm.dom s).mp (pk.mem_iff.mp hs))
          refine ⟨rfl, yesI ?_⟩
          have hd7 := e7 _ _ (eS _ _ hd)
          have hkv7 := (hkv.mono (Same.tx eS)).mono (Same.tx e7)
          rcases hkv7.get s with ⟨e1, e2⟩ | ⟨v, t, e1, e2, e3⟩
          · exact absurd (pk.mem_iff.mp hs) (lk_none.mp e2)
          · refine ⟨_, rfl, _, rfl, _, rfl, d, v, rfl, ?_, sz2, fun pr H8 _ e8 hpr => ?_⟩
            · rw [← e1]
              exact DGet.k (k := Sum.inr s) hd7
            · refine kY rfl _ _ e8 (prI (p := (s, subT m (.var s))) hpr ?_ hok)
              show Tp H8 v (encTm (subT m (.var s)))
              rw [subT_var e2]
              exact e3.mono (Same.tx e8)
        · rw [filter_yes] at tz
          refine ⟨Z, zv, rfl, hZ, fun U H8 _ e8 hU => ?_⟩
          have e68 : Same H6 H8 := eS.trans (e7.trans e8)
          have hD8 := e68 _ _ hD6
          have lyv : yv.length ≤ 3125 := by
            rw [tyv.length, List.length_map, ro.length, List.length_take]
            omega
          refine ⟨yv, hD8, szt (by omega), _, ms' ++ [ks'.map fun s => (s, subT m (.var s))], same_mut (e6.trans e68) hD, upd_same, ?_, ?_⟩
          · rw [List.map_append]
            refine ((tyv.mono (Same.tx e68)).snoc ?_).mono (tx_lst hD8)
            refine .tup hU ?_
            rw [List.map_map]
            exact tz.mono (Same.tx e8)
          · rw [List.take_add_one, hm]
            exact ro.snoc (map_perm gm.nd pk)
      · obtain ⟨yv, ms', e6, hD6, tyv, ro⟩ := hP
        rw [hfv.length, List.take_length] at ro
        have lyv : yv.length = ms'.length := by rw [tyv.length, List.length_map]
        have lro := ro.length
        have gH6 : Gx P0 H H6 := gH'.then_ e6
        refine ⟨_, rfl, D, yv, ms'.map encMk, rfl, hD6, by rw [List.length_map, lyv], by omega, mks_alike ms', fun h2 => ?_, ?_, fun i v d hv hd H7 e7 => ?_, fun yv' p' H7 pv e7 _ hp' => ?_⟩
        · refine mks_sortable fun m' hm' e => ?_
          obtain ⟨m, hm, pm⟩ := ro.mem1 m' hm'
          rw [e] at pm
          exact dis_ne hdis (by omega) m hm (List.nil_perm.mp pm)
        · refine T.dps_le fun d hd => ?_
          obtain ⟨m, _, rfl⟩ := List.mem_map.mp hd
          exact Nat.le_trans (dp_mk m) (by decide)
        · obtain ⟨m, hm, hmv⟩ := tyv.getM hv
          rw [List.getElem?_map, hm] at hd
          cases hd
          have hmm := List.mem_of_getElem? hm
          obtain ⟨m0, hm0, pm⟩ := ro.mem1 m hmm
          exact ⟨v, m, rfl, hmv.mono (Same.tx e7), by rw [pm.length_eq]; exact Nat.le_trans (sms m0 hm0) (by decide), fun w H8 e8 hw => ⟨e8, hw⟩⟩
        · obtain ⟨ms'', pm, tms''⟩ := tps_perm pv (tyv.mono (Same.tx e7))
          refine k ms'' (mts_perm (mts_reord hmts ro) pm) (by rw [pm.length_eq]; omega) (fun m hm => ?_) p' yv' H7 (gH6.then_ e7) hp' tms''
          obtain ⟨m0, hm0, pm0⟩ := ro.mem1 m (pm.mem_iff.mp hm)
          rw [pm0.length_eq]
          exact sms m0 hm0
end
end Aw

/-! M3: maps of a kind; cores; least questions. -/
namespace Aw
open PySem
/-- a map of the kind from s to t -/
def KM (kind : Str) (s t : Jn) : Prop := ∃ h, Hom s t h ∧ KOk kind (appB h s.2) t.2
theorem km_refl (kind : Str) (s : Jn) : KM kind s s := ⟨idF, Hom.refl s, .inr ⟨by rw [appB_id]; exact Prt.refl _, .inr (by rw [appB_id])⟩⟩
theorem km_trans {kind : Str} {a b c : Jn} (f : KM kind a b) (g : KM kind b c) : KM kind a c := by
  obtain ⟨h, h1, h2⟩ := f
  obtain ⟨k, k1, k2⟩ := g
  refine ⟨cmp h k, h1.comp k1, ?_⟩
  rcases h2 with e | ⟨p1, q1⟩
  · exact .inl e
  · rcases k2 with e | ⟨p2, q2⟩
    · exact .inl e
    · refine .inr ⟨?_, ?_⟩
      · rw [appB_cmp]
        exact (Prt.map p1 (appA k)).trans p2
      · rcases q1 with e | e
        · exact .inl e
        · rcases q2 with e2 | e2
          · exact .inl e2
          · refine .inr ?_
            rw [appB_cmp]
            unfold appB at *
            rw [List.length_map] at *
            rw [← e2, ← e]
            simp
/-- told by found maps -/
theorem km_of {kind : Str} {s t : Jn} {m : Mp} (g : Good s t m) (k : KOk kind (subB m s.2) t.2) : KM kind s t := ⟨fnOf m, g.hom, by rw [appB_fn]; exact k⟩
theorem subB_eq {m m' : Mp} (h : ∀ s, lk m' s = lk m s) (b : List Atm) : subB m' b = subB m b := by
  unfold subB
  rw [subA_eq h]
theorem km_found {kind : Str} {s t : Jn} {ms : List Mp} (h : Mts s t ms) (k : KM kind s t) : ∃ m ∈ ms, KOk kind (subB m s.2) t.2 := by
  obtain ⟨f, hf, hk⟩ := k
  obtain ⟨g, e⟩ := hf.good
  obtain ⟨m, hm, el⟩ := h.full _ g
  refine ⟨m, hm, ?_⟩
  rw [subB_eq el, e]
  exact hk
/-! ### cores -/
/-- no map onto itself has fewer atoms -/
def Mnl (c : Jn) : Prop := ∀ h, Hom c c h → ∀ b' : List Atm, b'.Nodup → (∀ a, a ∈ b' ↔ a ∈ appB h c.2) → c.2.length ≤ b'.length
structure Core (j c : Jn) : Prop where
  hd : c.1 = j.1
  nd : c.2.Nodup
  sub : ∀ a ∈ c.2, a ∈ j.2
  to : ∃ h, Hom j c h
  mnl : Mnl c
theorem mnl_of {c : Jn} {ms : List Mp} (h : Mts c c ms) (k : ∀ m ∈ ms, ∀ b' : List Atm, b'.Nodup → (∀ a, a ∈ b' ↔ a ∈ subB m c.2) → c.2.length ≤ b'.length) : Mnl c := fun f hf b' nd hb => by
  obtain ⟨g, e⟩ := hf.good
  obtain ⟨m, hm, el⟩ := h.full _ g
  refine k m hm b' nd fun a => ?_
  rw [subB_eq el, e]
  exact hb a
/-- a step towards the core -/
structure CoreTo (j c : Jn) : Prop where
  hd : c.1 = j.1
  nd : c.2.Nodup
  sub : ∀ a ∈ c.2, a ∈ j.2
  to : ∃ h, Hom j c h
theorem coreTo_start {j : Jn} {b : List Atm} (nd : b.Nodup) (h : ∀ a, a ∈ b ↔ a ∈ j.2) : CoreTo j (j.1, b) :=
  ⟨rfl, nd, fun a ha => (h a).mp ha, idF, by rw [app_id, List.map_id], fun a ha => by rw [appA_id]; exact (h a).mpr ha⟩
theorem coreTo_next {j c : Jn} {m : Mp} {b : List Atm} (t : CoreTo j c) (g : Good c c m) (nd : b.Nodup) (h : ∀ a, a ∈ b ↔ a ∈ subB m c.2) : CoreTo j (c.1, b) := by
  obtain ⟨f, hf⟩ := t.to
  refine ⟨t.hd, nd, fun a ha => ?_, cmp f (fnOf m), hf.comp ⟨?_, fun a ha => ?_⟩⟩
  · obtain ⟨z, hz, e⟩ := List.mem_map.mp ((h a).mp ha)
    rw [← e]
    exact t.sub _ (g.bd z hz)
  · rw [app_fn]
    exact g.hd
  · refine (h _).mpr ?_
    rw [appA_fn]
    exact List.mem_map.mpr ⟨a, ha, rfl⟩
/-! ### least questions -/
inductive Cores : List Jn → List Jn → Prop
  | nil : Cores [] []
  | cons {j c : Jn} {js cs : List Jn} : Core j c → Cores js cs → Cores (j :: js) (c :: cs)
theorem Cores.length {js cs : List Jn} (h : Cores js cs) : js.length = cs.length := by
  induction h with
  | nil => rfl
  | cons _ _ ih => rw [List.length_cons, List.length_cons, ih]
theorem Cores.snoc {js cs : List Jn} {j c : Jn} (h : Cores js cs) (k : Core j c) : Cores (js ++ [j]) (cs ++ [c]) := by
  induction h with
  | nil => exact .cons k .nil
  | cons h _ ih => exact .cons h ih
theorem Cores.mem2 {js cs : List Jn} (h : Cores js cs) : ∀ c ∈ cs, ∃ j ∈ js, Core j c := by
  induction h with
  | nil => intro c hc; cases hc
  | cons h _ ih =>
    intro c hc
    rcases List.mem_cons.mp hc with rfl | hc
    · exact ⟨_, List.mem_cons_self, h⟩
    · obtain ⟨j, h1, h2⟩ := ih c hc
      exact ⟨j, List.mem_cons_of_mem _ h1, h2⟩
theorem Cores.mem1 {js cs : List Jn} (h : Cores js cs) : ∀ j ∈ js, ∃ c ∈ cs, Core j c := by
  induction h with
  | nil => intro c hc; cases hc
  | cons h _ ih =>
    intro c hc
    rcases List.mem_cons.mp hc with rfl | hc
    · exact ⟨_, List.mem_cons_self, h⟩
    · obtain ⟨j, h1, h2⟩ := ih c hc
      exact ⟨j, List.mem_cons_of_mem _ h1, h2⟩
/-- what the joins are before the search: as they are, or cores -/
def Base (kind : Str) (js J0 : List Jn) : Prop := (kind ≠ "yes" ∧ J0 = js) ∨ (kind = "yes" ∧ Cores js J0)
structure Least (kind : Str) (J0 L : List Jn) : Prop where
  sub : ∀ s ∈ L, s ∈ J0
  cov : ∀ t ∈ J0, ∃ s ∈ L, KM kind s t
  anti : ∀ (i k : Nat) (s t : Jn), i ≠ k → L[i]? = some s → L[k]? = some t → ¬ KM kind s t
/-- the word of the search -/
structure Srch (kind : Str) (J0 L : List Jn) (n : Nat) : Prop where
  sub : ∀ s ∈ L, s ∈ J0
  cov : ∀ t ∈ J0, ∃ s ∈ L, KM kind s t
  anti : ∀ (i k : Nat) (s t : Jn), i ≠ k → k < n → L[i]? = some s → L[k]? = some t → ¬ KM kind s t
  le : n ≤ L.length
  len : L.length ≤ J0.length
theorem srch_start (kind : Str) (J0 : List Jn) : Srch kind J0 J0 0 := ⟨fun s h => h, fun t h => ⟨t, h, km_refl _ _⟩, fun i k s t _ hk => absurd hk (Nat.not_lt_zero _), Nat.zero_le _, Nat.le_refl _⟩
theorem srch_end {kind : Str} {J0 L : List Jn} {n : Nat} (h : Srch kind J0 L n) (e : n = L.length) : Least kind J0 L :=
  ⟨h.sub, h.cov, fun i k s t ne hi hk => h.anti i k s t ne (by rw [e]; exact (List.getElem?_eq_some_iff.mp hk).1) hi hk⟩
theorem cut_eq {L : List Jn} {n : Nat} : L.take n ++ L.drop (n + 1) = L.eraseIdx n := by
  induction L generalizing n with
  | nil => simp
  | cons a L ih =>
    cases n with
    | zero => rfl
    | succ n =>
      show a :: (L.take n ++ L.drop (n + 1)) = a :: L.eraseIdx n
      rw [ih]
theorem erase_at {L : List Jn} {n i : Nat} : (L.eraseIdx n)[i]? = if i < n then L[i]? else L[i + 1]? := List.getElem?_eraseIdx
/-- none of the others: on -/
theorem srch_on {kind : Str} {J0 L : List Jn} {n : Nat} {t : Jn} (h : Srch kind J0 L n) (ht : L[n]? = some t) (no : ∀ s ∈ L.eraseIdx n, ¬ KM kind s t) : Srch kind J0 L (n + 1) := by
  refine ⟨h.sub, h.cov, fun i k s u ne hk hi hu => ?_, (List.getElem?_eq_some_iff.mp ht).1, h.len⟩
  rcases Nat.lt_or_ge k n with z | z
  · exact h.anti i k s u ne z hi hu
  · have e : k = n := by omega
    subst e
    rw [ht] at hu
    cases hu
    refine no s ?_
    rcases Nat.lt_or_ge i k with y | y
    · exact List.mem_of_getElem? (i := i) (by rw [erase_at, if_pos y]; exact hi)
    · refine List.mem_of_getElem? (i := i - 1) ?_
      rw [erase_at, if_neg (by omega), show i - 1 + 1 = i by omega]
      exact hi
/-- one of the others: this one is left out -/
theorem srch_out {kind : Str} {J0 L : List Jn} {n : Nat} {t : Jn} (h : Srch kind J0 L n) (ht : L[n]? = some t) (yes : ∃ s ∈ L.eraseIdx n, KM kind s t) : Srch kind J0 (L.eraseIdx n) n := by
  have hl := (List.getElem?_eq_some_iff.mp ht).1
  have hle : (L.eraseIdx n).length = L.length - 1 := List.length_eraseIdx_of_lt hl
  refine ⟨fun s hs => h.sub s (List.mem_of_mem_eraseIdx hs), fun u hu => ?_, fun i k s u ne hk hi hu => ?_, by omega, by have := h.len; omega⟩
  · obtain ⟨s, hs, km⟩ := h.cov u hu
    obtain ⟨i, hi, e⟩ := List.getElem_of_mem hs
    by_cases z : i = n
    · subst z
      have est : s = t := by
        rw [List.getElem?_eq_getElem hi, e] at ht
        exact Option.some.inj ht
      obtain ⟨r, hr, kr⟩ := yes
      exact ⟨r, hr, km_trans kr (est ▸ km)⟩
    · refine ⟨s, ?_, km⟩
      rcases Nat.lt_or_ge i n with y | y
      · exact List.mem_of_getElem? (i := i) (by rw [erase_at, if_pos y, List.getElem?_eq_getElem hi, e])
      · refine List.mem_of_getElem? (i := i - 1) ?_
        rw [erase_at, if_neg (by omega), show i - 1 + 1 = i by omega, List.getElem?_eq_getElem hi, e]
  · rw [erase_at] at hi hu
    rw [if_pos hk] at hu
    by_cases y : i < n
    · rw [if_pos y] at hi
      exact h.anti i k s u ne hk hi hu
    · rw [if_neg y] at hi
      exact h.anti (i + 1) k s u (by omega) hk hi hu
end Aw

/-! A9: entry_of, smaller, core_of, least_question. -/
namespace Aw
open PySem PySem.Spec PyProof.Rows L2
open C8 (Cal pe_c)
open LamX (Tabs ExtN)
theorem for_en {K : PySem.W.Frag} {a : Addr} {xs : List V} {g : TG} {tb : TS} {D : Ends} {σ : L2.St} {H : Hp} (Pv : Nat → L2.St → Hp → Prop) (h0 : Pv 0 σ H) (hl : ∀ i σ H, i ≤ xs.length → Pv i σ H → SqL K H a xs)
    (hs : ∀ i x σ H T, xs[i]? = some x → Pv i σ H → H T = none → g (.ref T) σ (upd H T (.tup [.int (i : Nat), x])) fun σ2 H2 => tb { D with nx := Pv (i + 1), ct := Pv (i + 1), bk := D.nx } σ2 H2) (hd : ∀ σ H, Pv xs.length σ H → D.nx σ H) :
    ∃ W : Nat → Nat → L2.St → Hp → Prop, (∃ m, W 0 m σ H) ∧ ∀ i m σ H, W i m σ H →
      ((Ite K a).stop i H ∧ D.nx σ H) ∨ ((Ite K a).go i H ∧ ∃ N : L2.St → Hp → Prop, (∀ σ' H', N σ' H' → ∃ m', m' < m ∧ W (i + 1) m' σ' H') ∧ ∀ x H', (Ite K a).yld i H x H' → g x σ H' fun σ2 H2 => tb { D with nx := N, ct := N, bk := D.nx } σ2 H2) := by
  refine ⟨fun i m σ H => m = xs.length - i ∧ i ≤ xs.length ∧ Pv i σ H, ⟨xs.length, by simp, Nat.zero_le _, h0⟩, ?_⟩
  rintro i m σ H ⟨rfl, hi, p⟩
  have q := hl i σ H hi p
  by_cases hlt : i < xs.length
  · refine .inr ⟨⟨xs, xs[i], q, List.getElem?_eq_getElem hlt⟩, Pv (i + 1), fun σ' H' p' => ⟨xs.length - (i + 1), by omega, rfl, hlt, p'⟩, fun x H' y => ?_⟩
    obtain ⟨T, x0, rfl, hT, rfl, y⟩ := y
    exact hs i x0 σ H T (y xs q) p hT
  · refine .inl ⟨⟨xs, q, by omega⟩, hd σ H ?_⟩
    have e : i = xs.length := by omega
    rw [← e]
    exact p
theorem sqT_tup {K : PySem.W.Frag} {H : Hp} {a : Addr} {xs : List V} (h : H a = some (.tup xs)) : SqT K H a xs := .inl (.inl h)
def spEn (P0 : Addr) : Sp := fun vs H Q _ => ∃ (kind : Str) (a : Addr) (y : V) (jv : List V) (js : List Jn) (t : Jn), vs = [.str kind, .ref a, y] ∧ kind3 kind ∧ H a = some (.lst jv) ∧ Tps H jv (js.map encJn) ∧ Tp H y (encJn t) ∧ (∀ s ∈ js, Sm s) ∧ Sm t ∧ Tabs (T0 P0) H ∧
  ((∀ s ∈ js, ¬ KM kind s t) → ∀ H', Gx P0 H H' → Q .non H') ∧ ((∃ s ∈ js, KM kind s t) → ∀ p H', Gx P0 H H' → Q (.ref p) H')
def spSm (P0 : Addr) : Sp := fun vs H Q _ => ∃ x j, vs = [x] ∧ Tp H x (encJn j) ∧ Sm j ∧ Tabs (T0 P0) H ∧ (Mnl j → ∀ H', Gx P0 H H' → Q .non H') ∧
  ∀ (m : Mp) (b : List Atm), Good j j m → b.Nodup → (∀ a, a ∈ b ↔ a ∈ subB m j.2) → b.length < j.2.length → ∀ p H', Gx P0 H H' → Tp H' (.ref p) (encJn (j.1, b)) → Q (.ref p) H'
def spCo (P0 : Addr) : Sp := fun vs H Q _ => ∃ x j, vs = [x] ∧ Tp H x (encJn j) ∧ Sm j ∧ Tabs (T0 P0) H ∧ ∀ c, Core j c → ∀ w H', Gx P0 H H' → Tp H' w (encJn c) → Q w H'
def spLq (P0 : Addr) : Sp := fun vs H Q _ => ∃ (kind : Str) (x : V) (n : Int) (js : List Jn), vs = [.str kind, x] ∧ kind3 kind ∧ Tp H x (encQn (n, js)) ∧ (∀ s ∈ js, Sm s) ∧ js.length ≤ 100 ∧ Tabs (T0 P0) H ∧
  ∀ J0 L, Base kind js J0 → Least kind J0 L → L.length ≤ js.length → ∀ w H', Gx P0 H H' → Tp H' w (encQn (n, L)) → Q w H'
theorem CoreTo.sm {j c : Jn} (h : CoreTo j c) (s : Sm j) (l : c.2.length ≤ j.2.length) : Sm c := ⟨by rw [h.hd]; exact s.1, Nat.le_trans l s.2.1, fun a ha => s.2.2 a (h.sub a ha)⟩
theorem Core.sm {j c : Jn} (h : Core j c) (s : Sm j) : Sm c := ⟨by rw [h.hd]; exact s.1, Nat.le_trans (nodup_sub_len h.nd h.sub) s.2.1, fun a ha => s.2.2 a (h.sub a ha)⟩
theorem mem_take {α : Type} {l : List α} {i : Nat} {x y : α} (h : l[i]? = some x) (hy : y ∈ l.take (i + 1)) : y ∈ l.take i ∨ y = x := by
  rw [List.take_add_one, h, List.mem_append] at hy
  exact hy.imp _root_.id fun z => List.mem_singleton.mp z
theorem cut_to (xs : List V) (n : Nat) : cutV xs none (some (n : Int)) = xs.take n := by
  unfold cutV
  rw [HT.sIx_none, HT.sIx_nat, Nat.sub_zero, List.drop_zero]
  rcases Nat.le_total n xs.length with h | h
  · rw [Nat.min_eq_left h]
  · rw [Nat.min_eq_right h, List.take_of_length_le (Nat.le_refl _), List.take_of_length_le h]
theorem cut_from (xs : List V) (n : Nat) : cutV xs (some (n : Int)) none = xs.drop n := by
  unfold cutV
  rw [HT.sIx_none, HT.sIx_nat]
  rcases Nat.le_total n xs.length with h | h
  · rw [Nat.min_eq_left h, List.take_of_length_le (by rw [List.length_drop]; exact Nat.le_refl _)]
  · rw [Nat.min_eq_right h, Nat.sub_self, List.take_zero, List.drop_of_length_le h]
theorem prtK {b c : List Atm} : (∀ a ∈ b, b.count a ≤ c.count a) = Prt b c := rfl
section
variable {P : Program} {w : World} {K : PySem.W.Frag} {mg : Str → Option Value} {base : Heap} {P0 : Addr}
theorem sc_entry_of : FnScope ["kind", "joins", "join", "index", "source", "mapping"] ["kind", "joins", "join"] (defScope st_entry_of) := ⟨rfl, rfl, rfl, by decide +kernel, rfl, by decide +kernel, by decide +kernel⟩
-- slots: 0 kind, 1 joins, 2 join, 3 index, 4 source, 5 mapping
theorem ok_entry_of (F : Def' K mg "entry_of" st_entry_of) (B : Bt mg) (C_matchings : Cal P w K mg base 6 "matchings" (spMt P0) []) (C_fits : Cal P w K mg base 4 "fits" spFi []) : Cal P w K mg base 7 "entry_of" (spEn P0) [] := by
  refine cal_mk F sc_entry_of (fun _ _ _ _ _ _ us hl => match us, hl with | [_, _, _], _ => rfl) (fun vs H Q E h => ?_) (fun f cdv A outer s H vs Q E hr h => ?_)
  · obtain ⟨kind, a, y, jv, js, t, rfl, _⟩ := h
    rfl
  · obtain ⟨kind, a, y, jv, js, t, rfl, hk3, ha, hjv, hy, sjs, st, ht, k1, k2⟩ := h
    have nd := sc_entry_of.nd
    refine ⟨_, (pss_cons (ps_if (pt_cmpR op_eq (pv 0) pe_str (nomark _))
      (pss_one (ps_ret pe_never))
      pss_nil)
      (pss_cons (ps_for PassesOwn.never rfl (piE (K := K) rfl rfl B.enumerate_ (pa_cons (pv 1) pa_nil)) (pgT (K := K) (n := 2) rfl rfl (pgs_cons (pg_name (i := 3) nd rfl (.inl rfl)) (pgs_cons (pg_name (i := 4) nd rfl (.inl rfl)) pgs_nil)))
      (pss_one (ps_for PassesOwn.never rfl (piL (K := K) rfl (pe_c C_matchings hr (by decide) rfl (pa_cons (pv 4) (pa_cons (pv 2) pa_nil)))) (pg_name (i := 5) nd rfl (.inl rfl))
        (pss_one (ps_if (pt_val (pe_c C_fits hr (by decide) rfl (pa_cons (pv 0) (pa_cons (pv 4) (pa_cons (pv 2) (pa_cons (pv 5) pa_nil))))))
          (pss_one (ps_ret (peT (pa_cons (pv 3) (pa_cons (pv 5) pa_nil)))))
          pss_nil)))))
      (pss_one (ps_ret pe_non)))), ?_⟩
    have hno : kind ≠ "sets" := by
      rcases hk3 with rfl | rfl | rfl <;> decide +kernel
    have lj : jv.length = js.length := by rw [hjv.length, List.length_map]
    refine ⟨_, rfl, rfl, _, rfl, iteD (fun z => absurd (V.str.inj z) hno) (fun _ => ?_)⟩
    refine ⟨_, rfl, a, jv, rfl, SqL.of ha, ?_⟩
    refine for_en (K := K) (xs := jv) (fun i σ H' => ∃ c3 c4 c5, σ = [some (.str kind), some (.ref a), some y, c3, c4, c5] ∧ Gx P0 H H' ∧ ∀ s ∈ js.take i, ¬ KM kind s t) ⟨_, _, _, rfl, Gx.of ht (Same.refl _), fun s hs => by simp at hs⟩ (fun i σ H' _ hP => ?_) (fun i v σ H' T hi hP hT => ?_) (fun σ H' hP => ?_)
    · obtain ⟨_, _, _, _, g, _⟩ := hP
      exact SqL.of (g.at_ ha)
    · obtain ⟨c3, c4, c5, rfl, g, hno⟩ := hP
      have gT := g.then_ (same_new (o := .tup [.int (i : Nat), v]) hT)
      obtain ⟨s, hs, hsv⟩ := hjv.getM hi
      have hsj := List.mem_of_getElem? hs
      have hsv := hsv.mono gT.tx
      have hy1 := hy.mono gT.tx
      refine ⟨T, _, rfl, sqT_tup upd_same, rfl, _, _, rfl, _, _, rfl, rfl, ?_⟩
      refine ⟨_, rfl, _, rfl, v, y, s, t, rfl, hsv, hy1, sjs s hsj, st, gT.t, fun ms hms lms sms M mv H7 g7 hM tM => ?_⟩
      refine ⟨M, rfl, ⟨_, SqL.of hM⟩, ?_⟩
      have hsv7 := hsv.mono g7.tx
      have hy7 := hy1.mono g7.tx
      have lm : mv.length = ms.length := by rw [tM.length, List.length_map]
      refine for_list (K := K) (xs := mv) (fun n σ H8 => ∃ c5, σ = [some (.str kind), some (.ref a), some y, some (.int (i : Nat)), some v, c5] ∧ Same H7 H8 ∧ ∀ m ∈ ms.take n, ¬ KOk kind (subB m s.2) t.2) ⟨_, rfl, Same.refl _, fun s hs => by simp at hs⟩ (fun n σ H8 _ hP => ?_) (fun n u σ H8 hn hP => ?_) (fun σ H8 hP => ?_)
      · obtain ⟨_, _, e, _⟩ := hP
        exact SqL.of (e _ _ hM)
      · obtain ⟨c5, rfl, e8, hnk⟩ := hP
        obtain ⟨m, hm, hmu⟩ := tM.getM hn
        have hmm := List.mem_of_getElem? hm
        have gm := hms.sound m hmm
        refine ⟨_, rfl, _, rfl, _, rfl, _, rfl, kind, v, y, u, s, t, m, rfl, hk3, hsv7.mono (Same.tx e8), hy7.mono (Same.tx e8), hmu.mono (Same.tx e8), gm.nd, Nat.le_trans (sms m hmm) (by decide), Nat.le_trans (sjs s hsj).2.1 (by decide), (sjs s hsj).szs, fun ok H9 e9 => ?_, fun nok H9 e9 => ?_⟩
        · refine ⟨_, rfl, iteT ⟨_, rfl, _, rfl, sz2, fun U H10 _ e10 hU => ?_⟩⟩
          exact k2 ⟨s, hsj, km_of gm ok⟩ _ _ (gT.trans (g7.then_ (e8.trans (e9.trans e10))))
        · refine ⟨_, rfl, iteF ⟨_, rfl, e8.trans e9, fun m' hm' => ?_⟩⟩
          rcases mem_take hm hm' with z | rfl
          · exact hnk m' z
          · exact nok
      · obtain ⟨c5, rfl, e8, hnk⟩ := hP
        rw [lm, List.take_length] at hnk
        refine ⟨_, _, _, rfl, gT.trans (g7.then_ e8), fun s' hs' => ?_⟩
        rcases mem_take hs hs' with z | rfl
        · exact hno s' z
        · intro km
          obtain ⟨m, hm, ok⟩ := km_found hms km
          exact hnk m hm ok
    · obtain ⟨c3, c4, c5, rfl, g, hno⟩ := hP
      rw [lj, List.take_length] at hno
      exact k1 hno _ g
theorem sc_smaller : FnScope ["join", "mapping", "atoms"] ["join"] (defScope st_smaller) := ⟨rfl, rfl, rfl, by decide +kernel, rfl, by decide +kernel, by decide +kernel⟩
-- slots: 0 join, 1 mapping, 2 atoms
theorem ok_smaller (F : Def' K mg "smaller" st_smaller) (B : Bt mg) (C_matchings : Cal P w K mg base 6 "matchings" (spMt P0) []) (C_image : Cal P w K mg base 3 "image" spIm []) (C_distinct : Cal P w K mg base 1 "distinct" spDi []) : Cal P w K mg base 7 "smaller" (spSm P0) [] := by
  refine cal_mk F sc_smaller (fun _ _ _ _ _ _ us hl => match us, hl with | [_], _ => rfl) (fun vs H Q E h => ?_) (fun f cdv A outer s H vs Q E hr h => ?_)
  · obtain ⟨x, j, rfl, _⟩ := h
    rfl
  · obtain ⟨x, j, rfl, hx, sj, ht, k1, k2⟩ := h
    have nd := sc_smaller.nd
    refine ⟨_, (pss_cons (ps_for PassesOwn.never rfl (piL (K := K) rfl (pe_c C_matchings hr (by decide) rfl (pa_cons (pv 0) (pa_cons (pv 0) pa_nil)))) (pg_name (i := 1) nd rfl (.inl rfl))
      (pss_cons (ps_set (i := 2) nd rfl (.inl rfl) (pe_c C_distinct hr (by decide) rfl (pa_cons (pe_c C_image hr (by decide) rfl (pa_cons (pv 0) (pa_cons (pv 1) pa_nil))) pa_nil)))
        (pss_one (ps_if (pt_cmpR op_lt (pe_callB lenS rfl B.len_ bt_len (pa_cons (pv 2) pa_nil)) (pe_callB lenS rfl B.len_ bt_len (pa_cons (pe_ix ixT (pv 0) pe_int (fun _ _ => rfl)) pa_nil)) (nomark _))
        (pss_one (ps_ret (peT (pa_cons (pe_ix ixT (pv 0) pe_int (fun _ _ => rfl)) (pa_cons (pv 2) pa_nil)))))
        pss_nil))))
      (pss_one (ps_ret pe_non))), ?_⟩
    refine ⟨_, rfl, _, rfl, x, x, j, j, rfl, hx, hx, sj, sj, ht, fun ms hms lms sms M mv H7 g7 hM tM => ?_⟩
    refine ⟨M, rfl, ⟨_, SqL.of hM⟩, ?_⟩
    have hx7 := hx.mono g7.tx
    have lm : mv.length = ms.length := by rw [tM.length, List.length_map]
    obtain ⟨p, pa, pb, xs, ys, rfl, hp, hpa, hxs, hpb, hys⟩ := jnE hx7
    have lys : ys.length = j.2.length := by rw [hys.length, List.length_map]
    refine for_list (K := K) (xs := mv) (fun n σ H8 => ∃ c1 c2, σ = [some (.ref p), c1, c2] ∧ Same H7 H8 ∧ ∀ m ∈ ms.take n, ∀ b' : List Atm, b'.Nodup → (∀ a, a ∈ b' ↔ a ∈ subB m j.2) → j.2.length ≤ b'.length) ⟨_, _, rfl, Same.refl _, fun s hs => by simp at hs⟩ (fun n σ H8 _ hP => ?_) (fun n u σ H8 hn hP => ?_) (fun σ H8 hP => ?_)
    · obtain ⟨_, _, _, e, _⟩ := hP
      exact SqL.of (e _ _ hM)
    · obtain ⟨c1, c2, rfl, e8, hnk⟩ := hP
      obtain ⟨m, hm, hmu⟩ := tM.getM hn
      have hmm := List.mem_of_getElem? hm
      have gm := hms.sound m hmm
      have lsub : (subB m j.2).length = j.2.length := by unfold subB; rw [List.length_map]
      refine ⟨_, rfl, _, rfl, _, u, j, m, rfl, hx7.mono (Same.tx e8), hmu.mono (Same.tx e8), gm.nd, Nat.le_trans (sms m hmm) (by decide), sj.szs, fun iv H9 e9 hiv => ?_⟩
      refine ⟨iv, subB m j.2, rfl, hiv, by rw [lsub]; exact Nat.le_trans sj.2.1 (by decide), fun dv H10 b' e10 hdv hbn hbm hbl => ?_⟩
      obtain ⟨d, dvs, rfl, hd, hds⟩ := hdv.tupE
      have ld : dvs.length = b'.length := by rw [hds.length, List.length_map]
      have e710 : Same H7 H10 := e8.trans (e9.trans e10)
      refine ⟨_, rfl, d, dvs, rfl, .inr hd, _, rfl, p, _, 1, _, rfl, rfl, hp.same e710, rfl, pb, ys, rfl, .inr (hpb.same e710), _, _, rfl, rfl, _, rfl, iteD (fun hlt => ?_) (fun hge => ?_)⟩
      · refine ⟨_, rfl, p, _, 0, _, rfl, rfl, hp.same e710, rfl, _, rfl, sz2, fun U H11 _ e11 hU => ?_⟩
        refine k2 m b' gm hbn hbm (by omega) U H11 (g7.then_ (e710.trans e11)) ?_
        exact jnI (j := (j.1, b')) hU (hpa.same (e710.trans e11)) (hxs.mono (Same.tx (e710.trans e11))) (hd.same e11) (hds.mono (Same.tx e11))
      · refine ⟨_, _, rfl, e710, fun m' hm' => ?_⟩
        rcases mem_take hm hm' with z | rfl
        · exact hnk m' z
        · intro b2 n2 h2
          have := nodup_sub_len (D := b2) hbn fun a ha => (h2 a).mpr ((hbm a).mp ha)
          omega
    · obtain ⟨c1, c2, rfl, e8, hnk⟩ := hP
      rw [lm, List.take_length] at hnk
      exact k1 (mnl_of hms hnk) _ (g7.then_ e8)
theorem sc_core_of : FnScope ["join", "core", "k", "shrunk"] ["join"] (defScope st_core_of) := ⟨rfl, rfl, rfl, by decide +kernel, rfl, by decide +kernel, by decide +kernel⟩
-- slots: 0 join, 1 core, 2 k, 3 shrunk
theorem ok_core_of (F : Def' K mg "core_of" st_core_of) (B : Bt mg) (C_smaller : Cal P w K mg base 7 "smaller" (spSm P0) []) (C_distinct : Cal P w K mg base 1 "distinct" spDi []) : Cal P w K mg base 8 "core_of" (spCo P0) [] := by
  refine cal_mk F sc_core_of (fun _ _ _ _ _ _ us hl => match us, hl with | [_], _ => rfl) (fun vs H Q E h => ?_) (fun f cdv A outer s H vs Q E hr h => ?_)
  · obtain ⟨x, j, rfl, _⟩ := h
    rfl
  · obtain ⟨x, j, rfl, hx, sj, ht, k⟩ := h
    have nd := sc_core_of.nd
    refine ⟨_, (pss_cons (ps_set (i := 1) nd rfl (.inl rfl) (peT (pa_cons (pe_ix ixT (pv 0) pe_int (fun _ _ => rfl)) (pa_cons (pe_c C_distinct hr (by decide) rfl (pa_cons (pe_ix ixT (pv 0) pe_int (fun _ _ => rfl)) pa_nil)) pa_nil))))
      (pss_cons (ps_for PassesOwn.never rfl (pi_range1 rfl B.range_ (pa_cons (pe_callB lenS rfl B.len_ bt_len (pa_cons (pe_ix ixT (pv 1) pe_int (fun _ _ => rfl)) pa_nil)) pa_nil)) (pg_name (i := 2) nd rfl (.inl rfl))
      (pss_cons (ps_set (i := 3) nd rfl (.inl rfl) (pe_c C_smaller hr (by decide) rfl (pa_cons (pv 1) pa_nil)))
        (pss_cons (ps_if (pt_cmpR op_isN (pv 3) pe_non (nomark _))
        (pss_one ps_break)
        pss_nil)
        (pss_one (ps_set (i := 1) nd rfl (.inl rfl) (pv 3))))))
      (pss_one (ps_ret (pv 1))))), ?_⟩
    obtain ⟨p, pa, pb, xs, ys, rfl, hp, hpa, hxs, hpb, hys⟩ := jnE hx
    refine ⟨_, rfl, p, _, 0, _, rfl, rfl, hp, rfl, _, rfl, p, _, 1, _, rfl, rfl, hp, rfl, _, j.2, rfl, .tup hpb hys, Nat.le_trans sj.2.1 (by decide), fun dv H1 b' e1 hdv hbn hbm hbl => ⟨sz2, fun C H2 _ e2 hC => ?_⟩⟩
    obtain ⟨d, dvs, rfl, hd, hds⟩ := hdv.tupE
    have ld : dvs.length = b'.length := by rw [hds.length, List.length_map]
    have e12 := e1.trans e2
    have hc0 : Tp H2 (.ref C) (encJn (j.1, b')) := jnI (j := (j.1, b')) hC (hpa.same e12) (hxs.mono (Same.tx e12)) (hd.same e2) (hds.mono (Same.tx e2))
    have lb5 : b'.length ≤ 5 := Nat.le_trans hbl sj.2.1
    refine ⟨_, rfl, C, _, 1, _, rfl, rfl, hC, rfl, d, dvs, rfl, .inr (hd.same e2), _, rfl, (rng_lo (by omega)).1, (rng_lo (by omega)).2, ?_⟩
    refine for_range (fun i σ H' => ∃ cv c c2 c3, σ = [some (.ref p), some cv, c2, c3] ∧ Gx P0 H H' ∧ Tp H' cv (encJn c) ∧ CoreTo j c ∧ c.2.length + i ≤ b'.length) ⟨_, _, _, _, rfl, Gx.of ht e12, hc0, coreTo_start hbn hbm, Nat.le_refl _⟩ (fun i σ H' hi hP => ?_) (fun σ H' hP => ?_)
    · obtain ⟨cv, c, c2, c3, rfl, g, hcv, hct, hcl⟩ := hP
      refine ⟨_, rfl, cv, c, rfl, hcv, hct.sm sj (by omega), g.t, fun mnl H3 g3 => ?_, fun m b gm nb hb hlt p' H3 g3 hp' => ?_⟩
      · refine ⟨_, rfl, rfl, _, rfl, iteD (fun _ => ?_) (fun z => absurd rfl z)⟩
        exact ⟨_, rfl, k c ⟨hct.hd, hct.nd, hct.sub, hct.to, mnl⟩ _ _ (g.trans g3) (hcv.mono g3.tx)⟩
      · refine ⟨_, rfl, rfl, _, rfl, iteD (fun z => by cases z) (fun _ => ?_)⟩
        exact ⟨_, rfl, _, _, _, _, rfl, g.trans g3, hp', coreTo_next hct gm nb hb, by show b.length + (i + 1) ≤ _; omega⟩
    · obtain ⟨cv, c, c2, c3, rfl, g, hcv, hct, hcl⟩ := hP
      rw [Int.toNat_natCast, ld] at hcl
      have hz : c.2.length = 0 := by omega
      exact ⟨_, rfl, k c ⟨hct.hd, hct.nd, hct.sub, hct.to, fun _ _ b2 _ _ => by rw [hz]; exact Nat.zero_le _⟩ _ _ g hcv⟩
theorem sc_least_question : FnScope ["kind", "question", "joins", "index", "others", "join"] ["kind", "question"] (defScope st_least_question) := ⟨rfl, rfl, rfl, by decide +kernel, rfl, by decide +kernel, by decide +kernel⟩
-- slots: 0 kind, 1 question, 2 joins, 3 index, 4 others, 5 join
theorem ok_least_question (F : Def' K mg "least_question" st_least_question) (B : Bt mg) (C_entry_of : Cal P w K mg base 7 "entry_of" (spEn P0) []) (C_core_of : Cal P w K mg base 8 "core_of" (spCo P0) []) : Cal P w K mg base 9 "least_question" (spLq P0) [] := by
  refine cal_mk F sc_least_question (fun _ _ _ _ _ _ us hl => match us, hl with | [_, _], _ => rfl) (fun vs H Q E h => ?_) (fun f cdv A outer s H vs Q E hr h => ?_)
  · obtain ⟨kind, x, n, js, rfl, _⟩ := h
    rfl
  · obtain ⟨kind, x, n, js, rfl, hk3, hx, sjs, ljs, ht, k⟩ := h
    have nd := sc_least_question.nd
    refine ⟨_, (pss_cons (ps_set (i := 2) nd rfl (.inl rfl) (pe_callTy listOf rfl B.list_ bt_list (pa_cons (pe_ix ixT (pv 1) pe_int (fun _ _ => rfl)) pa_nil)))
      (pss_cons (ps_ifM (pt_cmpR op_eq (pv 0) pe_str (nomark _))
      (pss_one (ps_setLc (i := 2) (own := [("join", 5)]) (g := (gName 5)) (tt := tYes) rfl nd rfl rfl (sw_true rfl rfl rfl (by kernel_rfl)) (piL (K := K) rfl (pv 2)) (blkOk_by (by kernel_rfl)) (fun _ _ _ _ _ => (pg_name (i := 5) nd rfl (.inl rfl))) (fun _ _ _ _ _ => pts_nil) (fun _ _ _ _ _ => (pe_c C_core_of hr (by decide) rfl (pa_cons (pv 5) pa_nil)))))
      pss_nil)
      (pss_cons (ps_set (i := 3) nd rfl (.inl rfl) pe_int)
      (pss_cons (ps_while PassesOwn.never (pt_cmpR op_lt (pv 3) (pe_callB lenS rfl B.len_ bt_len (pa_cons (pv 2) pa_nil)) (nomark _))
      (pss_cons (ps_set (i := 4) nd rfl (.inl rfl) (pe_op catL (pe_slice slL (pv 2) po_none (po_some (pv 3))) (pe_slice slL (pv 2) (po_some (pe_op op_add (pv 3) pe_int)) po_none)))
        (pss_one (ps_if (pt_cmpR op_isN (pe_c C_entry_of hr (by decide) rfl (pa_cons (pv 0) (pa_cons (pv 4) (pa_cons (pe_ix ixL (pv 2) (pv 3) (fun _ _ => rfl)) pa_nil)))) pe_non (nomark _))
        (pss_one (ps_aug (i := 3) nd rfl (.inl rfl) pe_int ip_add))
        (pss_one (ps_set (i := 2) nd rfl (.inl rfl) (pv 4)))))))
      (pss_one (ps_ret (peT (pa_cons (pe_ix ixT (pv 1) pe_int (fun _ _ => rfl)) (pa_cons (pe_callTy tupOf rfl B.tuple_ bt_tuple (pa_cons (pv 2) pa_nil)) pa_nil))))))))), ?_⟩
    obtain ⟨q, b, ys, rfl, hq, hb, hys⟩ := qnE hx
    have lys : ys.length = js.length := by rw [hys.length, List.length_map]
    refine ⟨_, rfl, q, _, 1, _, rfl, rfl, hq, rfl, b, ys, rfl, .inr hb, fun L1 H1 hL10 e1 hL1 => ?_⟩
    refine ⟨fun σ H' => ∃ L lv J0, σ = [some (.str kind), some (.ref q), some (.ref L), none, none, none] ∧ Gx P0 H H' ∧ H' L = some (.lst lv) ∧ Tps H' lv (J0.map encJn) ∧ Base kind js J0 ∧ J0.length = js.length ∧ ∀ s ∈ J0, Sm s, ?_, ?_⟩
    · refine ⟨_, rfl, rfl, _, rfl, iteD (fun hyes => ?_) (fun hno => ?_)⟩
      · have hyes : kind = "yes" := V.str.inj hyes
        refine ⟨_, rfl, L1, rfl, ⟨_, SqL.of hL1⟩, fun D hD => ?_⟩
        refine lc_list (K := K) (xs := ys) (fun i H6 => ∃ yv cs, Gx P0 H1 H6 ∧ H6 D = some (.lst yv) ∧ Tps H6 yv (cs.map encJn) ∧ Cores (js.take i) cs) ⟨[], [], Gx.of (ht.ext e1) (same_new hD), upd_same, .nil, by rw [List.take_zero]; exact .nil⟩ (fun i H6 _ hP => ?_) (fun i v H6 hi hP => ?_) (fun H6 hP => ?_)
        · obtain ⟨_, _, g, _⟩ := hP
          exact SqL.of (g.at_ hL1)
        · obtain ⟨yv, cs, g, hD6, tyv, hcs⟩ := hP
          obtain ⟨j, hj, hjv⟩ := hys.getM hi
          have hjv := (hjv.mono (Same.tx e1)).mono g.tx
          refine ⟨rfl, yesI ?_⟩
          refine ⟨_, rfl, v, j, rfl, hjv, sjs j (List.mem_of_getElem? hj), g.t, fun c hc w H7 g7 hw => ?_⟩
          have hD7 := g7.at_ hD6
          have lcs : yv.length ≤ 100 := by
            rw [tyv.length, List.length_map, ← hcs.length, List.length_take]
            omega
          refine ⟨yv, hD7, szt (by omega), _, cs ++ [c], (g.trans g7).lst hD hD7, upd_same, ?_, ?_⟩
          · rw [List.map_append]
            exact ((tyv.mono g7.tx).snoc hw).mono (tx_lst hD7)
          · rw [List.take_add_one, hj]
            exact hcs.snoc hc
        · obtain ⟨yv, cs, g, hD6, tyv, hcs⟩ := hP
          rw [lys, List.take_length] at hcs
          exact ⟨D, yv, cs, rfl, (Gx.of ht e1).trans g, hD6, tyv, .inr ⟨hyes, hcs⟩, hcs.length.symm, fun s hs => by
            obtain ⟨j, hj, hc⟩ := hcs.mem2 s hs
            exact hc.sm (sjs j hj)⟩
      · exact ⟨L1, ys, js, rfl, Gx.of ht e1, hL1, hys.mono (Same.tx e1), .inl ⟨fun z => hno (congrArg V.str z), rfl⟩, rfl, sjs⟩
    rintro σ H2 ⟨L, lv, J0, rfl, g2, hL, tlv, hbase, hJl, sJ0⟩
    refine ⟨fun m σ H' => ∃ L lv Lj n c4 c5, σ = [some (.str kind), some (.ref q), some (.ref L), some (.int (n : Nat)), c4, c5] ∧ Gx P0 H H' ∧ H' L = some (.lst lv) ∧ Tps H' lv (Lj.map encJn) ∧ Srch kind J0 Lj n ∧ m = 2 * Lj.length - n, ⟨_, L, lv, J0, 0, _, _, rfl, g2, hL, tlv, srch_start kind J0, rfl⟩, ?_⟩
    rintro m σ H3 ⟨L, lv, Lj, i, c4, c5, rfl, g3, hL, tlv, hS, rfl⟩
    have llv : lv.length = Lj.length := by rw [tlv.length, List.length_map]
    have hSl := hS.len
    have hSle := hS.le
    refine ⟨_, rfl, _, rfl, L, lv, rfl, .inl hL, _, _, rfl, rfl, _, rfl, iteD (fun hlt => ?_) (fun hge => ?_)⟩
    · have hi : i < Lj.length := by omega
      obtain ⟨t, htj⟩ : ∃ t, Lj[i]? = some t := ⟨_, List.getElem?_eq_getElem hi⟩
      obtain ⟨tv, htv, hT⟩ := tlv.atM htj
      refine ⟨_, fun _ _ h => h, ?_⟩
      refine ⟨_, rfl, _, rfl, _, rfl, L, lv, rfl, hL, fun A1 H4 _ e4 hA1 => ?_⟩
      refine ⟨_, rfl, _, rfl, _, _, rfl, rfl, _, rfl, L, lv, rfl, e4 _ _ hL, fun A2 H5 _ e5 hA2 => ?_⟩
      refine ⟨A1, A2, _, _, rfl, rfl, e5 _ _ hA1, hA2, ?_, fun O H6 _ e6 hO => ?_⟩
      · have h1 := cutV_length lv none (some (i : Int))
        have h2 := cutV_length lv (some ((i : Int) + 1)) none
        exact szl (by omega)
      have e36 := e4.trans (e5.trans e6)
      have g6 := g3.then_ e36
      have tO : Tps H6 (cutV lv none (some (i : Int)) ++ cutV lv (some ((i : Int) + 1)) none) ((Lj.eraseIdx i).map encJn) := by
        rw [cut_to, show ((i : Int) + 1) = ((i + 1 : Nat) : Int) by omega, cut_from, ← cut_eq, List.map_append, List.map_take, List.map_drop]
        exact ((tlv.mono (Same.tx e36)).take i).append ((tlv.mono (Same.tx e36)).drop (i + 1))
      have sO : ∀ s ∈ Lj.eraseIdx i, Sm s := fun s hs => sJ0 s (hS.sub s (List.mem_of_mem_eraseIdx hs))
      have st : Sm t := sJ0 t (hS.sub t (List.mem_of_getElem? htj))
      refine ⟨_, rfl, _, rfl, _, rfl, _, rfl, L, lv, _, _, rfl, rfl, e36 _ _ hL, atI_nat htv, kind, O, tv, _, Lj.eraseIdx i, t, rfl, hk3, hO, tO, hT.mono (Same.tx e36), sO, st, g6.t, fun no H7 g7 => ?_, fun yes p H7 g7 => ?_⟩
      · refine ⟨rfl, _, rfl, iteD (fun _ => ?_) (fun z => absurd rfl z)⟩
        have hS' := srch_on hS htj no
        refine ⟨_, rfl, ?_⟩
        refine ⟨_, _, rfl, rfl, _, ?_, L, lv, Lj, i + 1, _, _, rfl, g6.trans g7, g7.at_ (e36 _ _ hL), (tlv.mono (Same.tx e36)).mono g7.tx, hS', rfl⟩
        omega
      · refine ⟨rfl, _, rfl, iteD (fun z => by cases z) (fun _ => ?_)⟩
        have hS' := srch_out hS htj yes
        have hl' : (Lj.eraseIdx i).length = Lj.length - 1 := List.length_eraseIdx_of_lt hi
        refine ⟨_, rfl, _, ?_, O, _, Lj.eraseIdx i, i, _, _, rfl, g6.trans g7, g7.at_ hO, tO.mono g7.tx, hS', rfl⟩
        omega
    · have hend : i = Lj.length := by omega
      refine ⟨_, rfl, q, _, 0, _, rfl, rfl, hq.ext g3.e, rfl, _, rfl, L, lv, rfl, hL, fun U H4 _ e4 hU => ⟨sz2, fun R H5 _ e5 hR => ?_⟩⟩
      refine k J0 Lj hbase (srch_end hS hend) (by omega) _ _ (g3.then_ (e4.trans e5)) ?_
      exact qnI (q := (n, Lj)) hR (hU.same e5) (tlv.mono (Same.tx (e4.trans e5)))
end
end Aw

/-! B1: the law's search: put, put_join, join_variables, bound, distinct, image. -/
namespace Aw
open PySem PySem.Spec PyProof.Rows L2
open C8 (Cal pe_c)
/-! ### over a list or a tuple in a name -/
def iSqV (K : PySem.W.Frag) (i : Nat) : TI := fun σ H R => ∃ a xs, σ[i]? = some (some (.ref a)) ∧ ((H a = some (.lst xs) ∧ R (Itl K a) H) ∨ (Tq H a xs ∧ R (Itt K a) H))
theorem piSq {X : Cx} {K : PySem.W.Frag} {l tg : Expr} {i : Nat} (hK : X.K = K) (hl : PE X l (tVar i)) : PI X tg l (iSqV K i) := by
  subst hK
  refine ⟨fun pins s σ H R I h => ?_⟩
  obtain ⟨a, xs, hi, h | h⟩ := h
  · exact (pi_list hl).run pins s σ H R I ⟨.ref a, hi, a, rfl, ⟨xs, SqL.of h.1⟩, h.2⟩
  · exact (pi_tup hl).run pins s σ H R I ⟨.ref a, hi, a, rfl, ⟨xs, h.1.seq⟩, h.2⟩
theorem Sq.same {H H' : Hp} {a : Addr} {xs : List V} (e : Same H H') (h : Sq H a xs) : Sq H' a xs := h.imp (fun q => e _ _ q) fun q => q.same e
/-! ### promises -/
def spLp : Sp := fun vs H Q _ => ∃ (x : V) (a : Addr) (mv : List V) (t : Tm) (m : Mp), vs = [x, .ref a] ∧ Tp H x (encTm t) ∧ Sq H a mv ∧ Tps H mv (m.map encPr) ∧ ∀ w H', Same H H' → Tp H' w (encTm (subT m t)) → Q w H'
def spLpj : Sp := fun vs H Q _ => ∃ (x : V) (a : Addr) (mv : List V) (j : Jn) (m : Mp), vs = [x, .ref a] ∧ Tp H x (encJn j) ∧ Sq H a mv ∧ Tps H mv (m.map encPr) ∧ Szs j ∧ ∀ w H', Same H H' → Tp H' w (encJn (subJ m j)) → Q w H'
def spLim : Sp := fun vs H Q _ => ∃ (x : V) (a : Addr) (mv : List V) (j : Jn) (m : Mp), vs = [x, .ref a] ∧ Tp H x (encJn j) ∧ Sq H a mv ∧ Tps H mv (m.map encPr) ∧ Szs j ∧ ∀ w H', Same H H' → Tp H' w (ats (subB m j.2)) → Q w H'
def bocc (s : Str) (j : Jn) : Prop := ∃ a ∈ j.2, Tm.var s ∈ a.2
def spLjv : Sp := fun vs H Q _ => ∃ (x : V) (j : Jn), vs = [x] ∧ Tp H x (encJn j) ∧ j.2.length ≤ 10 ∧ (∀ a ∈ j.2, a.2.length ≤ 10) ∧ ∀ ns : List Str, ns.Nodup → (∀ s, s ∈ ns ↔ bocc s j) → ∀ p H', H p = none → Same H H' → H' p = some (.lst (ns.map V.str)) → Q (.ref p) H'
def spLbd : Sp := fun vs H Q _ => ∃ (x y : V) (a : Addr) (mv : List V) (ts us : List Tm) (m : Mp), vs = [x, y, .ref a] ∧ Tp H x (tms ts) ∧ Tp H y (tms us) ∧ Sq H a mv ∧ Tps H mv (m.map encPr) ∧ ts.length ≤ 1000 ∧ m.length ≤ 50000 ∧
  (bnd ts us m = none → ∀ H', Same H H' → Q .non H') ∧ ∀ m', bnd ts us m = some m' → ∀ p mv' H', H p = none → Same H H' → H' p = some (.lst mv') → Tps H' mv' (m'.map encPr) → Q (.ref p) H'
/-- the first of each -/
def ddp (b : List Atm) : List Atm := b.foldl (fun f a => if a ∈ f then f else f ++ [a]) []
theorem ddp_take {b : List Atm} {i : Nat} {z : Atm} (h : b[i]? = some z) : ddp (b.take (i + 1)) = if z ∈ ddp (b.take i) then ddp (b.take i) else ddp (b.take i) ++ [z] := by
  unfold ddp
  rw [List.take_add_one, h, List.foldl_append]
  rfl
theorem ddp_gen : ∀ (b f : List Atm), f.Nodup → (b.foldl (fun f a => if a ∈ f then f else f ++ [a]) f).Nodup ∧ ∀ a, a ∈ b.foldl (fun f a => if a ∈ f then f else f ++ [a]) f ↔ a ∈ f ∨ a ∈ b
  | [], f, h => ⟨h, fun a => by simp⟩
  | x :: b, f, h => by
    rw [List.foldl_cons]
    by_cases hx : x ∈ f
    · rw [if_pos hx]
      obtain ⟨h1, h2⟩ := ddp_gen b f h
      refine ⟨h1, fun a => ?_⟩
      rw [h2 a, List.mem_cons]
      constructor
      · rintro (z | z)
        · exact .inl z
        · exact .inr (.inr z)
      · rintro (z | z | z)
        · exact .inl z
        · exact .inl (z ▸ hx)
        · exact .inr z
    · rw [if_neg hx]
      obtain ⟨h1, h2⟩ := ddp_gen b (f ++ [x]) (List.nodup_append.mpr ⟨h, by simp, fun a ha c hc e => hx (by rw [List.mem_singleton] at hc; rw [← hc, ← e]; exact ha)⟩)
      refine ⟨h1, fun a => ?_⟩
      rw [h2 a, List.mem_append, List.mem_singleton, List.mem_cons, or_assoc]
theorem ddp_nodup (b : List Atm) : (ddp b).Nodup := (ddp_gen b [] .nil).1
theorem mem_ddp (b : List Atm) (a : Atm) : a ∈ ddp b ↔ a ∈ b := by
  have := (ddp_gen b [] .nil).2 a
  unfold ddp
  rw [this]
  simp
theorem ddp_len (b : List Atm) : (ddp b).length ≤ b.length := nodup_sub_len (ddp_nodup b) fun a h => (mem_ddp b a).mp h
def spLdi : Sp := fun vs H Q _ => ∃ (x : V) (b : List Atm), vs = [x] ∧ Tp H x (ats b) ∧ b.length ≤ 1000 ∧ ∀ p ys H', H p = none → Same H H' → H' p = some (.lst ys) → Tps H' ys ((ddp b).map encAt) → Q (.ref p) H'
theorem encTm_var (s : Str) : encTm (.var s) = .tup [.str "var", .str s] := rfl
section
variable {P : Program} {w : World} {K : PySem.W.Frag} {mg : Str → Option Value} {base : Heap}
theorem sc_l_put : FnScope ["_law_term_here", "_law_mapping", "_law_pair"] ["_law_term_here", "_law_mapping"] (defScope st_l_put) := ⟨rfl, rfl, rfl, by decide +kernel, rfl, by decide +kernel, by decide +kernel⟩
-- slots: 0 _law_term_here, 1 _law_mapping, 2 _law_pair
theorem ok_l_put (F : Def' K mg "_law_put" st_l_put) (B : Bt mg) : Cal P w K mg base 1 "_law_put" spLp [] := by
  refine cal_mk F sc_l_put (fun _ _ _ _ _ _ us hl => match us, hl with | [_, _], _ => rfl) (fun vs H Q E h => ?_) (fun f cdv A outer s H vs Q E hr h => ?_)
  · obtain ⟨x, a, mv, t, m, rfl, _⟩ := h
    rfl
  · obtain ⟨x, a, mv, t, m, rfl, hx, ha, hm, k⟩ := h
    have nd := sc_l_put.nd
    have hu64 := hu64 hr
    refine ⟨_, (pss_cons (ps_for PassesOwn.never rfl (piSq (K := K) rfl (pv 1)) (pg_name (i := 2) nd rfl (.inl rfl))
      (pss_one (ps_if (pt_cmpR (eqTm hu64) (pv 0) (peT (pa_cons pe_str (pa_cons (pe_ix ixT (pv 2) pe_int (fun _ _ => rfl)) pa_nil))) (nomark _))
        (pss_one (ps_ret (pe_ix ixT (pv 2) pe_int (fun _ _ => rfl))))
        pss_nil)))
      (pss_one (ps_ret (pv 0)))), ?_⟩
    have lm : mv.length = m.length := by rw [hm.length, List.length_map]
    -- the loop's word
    have step : ∀ (i : Nat) (v : V) (σ : L2.St) (H1 : Hp), mv[i]? = some v → (∃ c2, σ = [some x, some (.ref a), c2] ∧ Same H H1 ∧ subT m t = subT (m.drop i) t) →
        gName 2 v σ H1 fun σ2 H2 => tIfS (tTest (tOp rEqTm (tVar 0) (tTq (tCons (tC (.str "var")) (tCons (tOp rIxQ (tVar 2) (tC (.int 0))) tNil))))) (tRet (tOp rIxQ (tVar 2) (tC (.int 1)))) tNext
          { nx := fun σ' H' => ∃ c2, σ' = [some x, some (.ref a), c2] ∧ Same H H' ∧ subT m t = subT (m.drop (i + 1)) t, rt := Q, ct := fun σ' H' => ∃ c2, σ' = [some x, some (.ref a), c2] ∧ Same H H' ∧ subT m t = subT (m.drop (i + 1)) t, bk := tRet (tVar 0) { nx := fun _ H' => Q .non H', rt := Q } } σ2 H2 := fun i v σ H1 hi hP => by
      obtain ⟨c2, rfl, e, hs⟩ := hP
      obtain ⟨p, hp, hv⟩ := hm.getM hi
      have hv := hv.mono (Same.tx e)
      obtain ⟨b, u, rfl, hb, hu, hok⟩ := prE hv
      obtain ⟨hl, he⟩ := List.getElem?_eq_some_iff.mp hp
      have hd : m.drop i = p :: m.drop (i + 1) := by rw [List.drop_eq_getElem_cons hl, he]
      refine ⟨_, rfl, _, rfl, b, _, 0, _, rfl, rfl, hb, rfl, sz2, fun T H2 _ e2 hT => ?_⟩
      refine ⟨t, .var p.1, hx.mono (Same.tx (e.trans e2)), tmI (t := .var p.1) hT hok, _, rfl, iteD (fun heq => ?_) (fun hne => ?_)⟩
      · refine ⟨_, rfl, b, _, 1, _, rfl, rfl, hb.same e2, rfl, ?_⟩
        refine k _ _ (e.trans e2) ?_
        rw [hs, hd, heq]
        have : subT (p :: m.drop (i + 1)) (.var p.1) = p.2 := subT_var (by rw [lk_cons, if_pos rfl])
        rw [this]
        exact hu.mono (Same.tx e2)
      · refine ⟨_, rfl, e.trans e2, ?_⟩
        rw [hs, hd]
        cases t with
        | val k0 => rfl
        | var s =>
          show (lk (p :: m.drop (i + 1)) s).getD _ = (lk (m.drop (i + 1)) s).getD _
          rw [lk_cons, if_neg (fun z => hne (by rw [z]))]
    have fin : ∀ (σ : L2.St) (H1 : Hp), (∃ c2, σ = [some x, some (.ref a), c2] ∧ Same H H1 ∧ subT m t = subT (m.drop mv.length) t) → tRet (tVar 0) { nx := fun _ H' => Q .non H', rt := Q } σ H1 := fun σ H1 hP => by
      obtain ⟨c2, rfl, e, hs⟩ := hP
      rw [lm, List.drop_length] at hs
      refine ⟨_, rfl, k _ _ e ?_⟩
      rw [hs]
      have : subT [] t = t := by cases t <;> rfl
      rw [this]
      exact hx.mono (Same.tx e)
    refine ⟨a, mv, rfl, ?_⟩
    rcases ha with ha | ha
    · exact .inl ⟨ha, for_list (K := K) (xs := mv) (fun i σ H1 => ∃ c2, σ = [some x, some (.ref a), c2] ∧ Same H H1 ∧ subT m t = subT (m.drop i) t) ⟨_, rfl, Same.refl _, rfl⟩ (fun i σ H1 _ ⟨_, _, e, _⟩ => SqL.of (e _ _ ha)) step fin⟩
    · exact .inr ⟨ha, for_tup (K := K) (xs := mv) (fun i σ H1 => ∃ c2, σ = [some x, some (.ref a), c2] ∧ Same H H1 ∧ subT m t = subT (m.drop i) t) ⟨_, rfl, Same.refl _, rfl⟩ (fun i σ H1 _ ⟨_, _, e, _⟩ => (ha.same e).seq) step fin⟩
theorem sc_l_put_join : FnScope ["_law_join_here", "_law_mapping", "_law_head", "_law_body", "_law_term_here", "_law_atom_here"] ["_law_join_here", "_law_mapping"] (defScope st_l_put_join) := ⟨rfl, rfl, rfl, by decide +kernel, rfl, by decide +kernel, by decide +kernel⟩
-- slots: 0 _law_join_here, 1 _law_mapping, 2 _law_head, 3 _law_body, 4 _law_term_here, 5 _law_atom_here
theorem ok_l_put_join (F : Def' K mg "_law_put_join" st_l_put_join) (B : Bt mg) (C_l_put : Cal P w K mg base 1 "_law_put" spLp []) : Cal P w K mg base 2 "_law_put_join" spLpj [] := by
  refine cal_mk F sc_l_put_join (fun _ _ _ _ _ _ us hl => match us, hl with | [_, _], _ => rfl) (fun vs H Q E h => ?_) (fun f cdv A outer s H vs Q E hr h => ?_)
  · obtain ⟨x, a, mv, j, m, rfl, _⟩ := h
    rfl
  · obtain ⟨x, a, mv, j, m, rfl, hj, hm, hmv, ⟨n1, n2, n3⟩, k⟩ := h
    have nd := sc_l_put_join.nd
    refine ⟨_, (pss_cons (ps_set (i := 2) nd rfl (.inl rfl) (pe_callTy tupOf rfl B.tuple_ bt_tuple (pa_cons (pe_lc (own := [("_law_term_here", 4)]) (g := (gName 4)) (tt := tYes) rfl nd (piT (K := K) rfl (pe_ix ixT (pv 0) pe_int (fun _ _ => rfl))) (blkOk_by (by kernel_rfl)) (fun _ _ _ _ _ => (pg_name (i := 4) nd rfl (.inl rfl))) (fun _ _ _ _ _ => pts_nil) (fun _ _ _ _ _ => (pe_c C_l_put hr (by decide) rfl (pa_cons (pv 4) (pa_cons (pv 1) pa_nil))))) pa_nil)))
      (pss_cons (ps_set (i := 3) nd rfl (.inl rfl) (pe_callTy tupOf rfl B.tuple_ bt_tuple (pa_cons (pe_lc (own := [("_law_atom_here", 5)]) (g := (gName 5)) (tt := tYes) rfl nd (piT (K := K) rfl (pe_ix ixT (pv 0) pe_int (fun _ _ => rfl))) (blkOk_by (by kernel_rfl)) (fun _ _ _ _ _ => (pg_name (i := 5) nd rfl (.inl rfl))) (fun _ _ _ _ _ => pts_nil) (fun _ _ _ _ _ => (peT (pa_cons (pe_ix ixT (pv 5) pe_int (fun _ _ => rfl)) (pa_cons (pe_callTy tupOf rfl B.tuple_ bt_tuple (pa_cons (pe_lc (own := [("_law_term_here", 4)]) (g := (gName 4)) (tt := tYes) rfl nd (piT (K := K) rfl (pe_ix ixT (pv 5) pe_int (fun _ _ => rfl))) (blkOk_by (by kernel_rfl)) (fun _ _ _ _ _ => (pg_name (i := 4) nd rfl (.inl rfl))) (fun _ _ _ _ _ => pts_nil) (fun _ _ _ _ _ => (pe_c C_l_put hr (by decide) rfl (pa_cons (pv 4) (pa_cons (pv 1) pa_nil))))) pa_nil)) pa_nil))))) pa_nil)))
      (pss_one (ps_ret (peT (pa_cons (pv 2) (pa_cons (pv 3) pa_nil))))))), ?_⟩
    obtain ⟨p, pa, pb, xs, ys, rfl, hp, hpa, hxs, hpb, hys⟩ := jnE hj
    refine ⟨_, rfl, p, _, 0, _, rfl, rfl, hp, rfl, pa, rfl, ⟨_, hpa.seq⟩, lc_t (l := j.1) (ea := encTm) (f := fun t => encTm (subT m t)) (c := fun _ => true) hpa hxs n1 (fun t ht v H2 e2 hv R2 Qy2 _ kY2 => ?_) (fun q1 zs1 H1 _ e1 hq1 rz1 => ?_)⟩
    · refine ⟨rfl, yesI ⟨_, rfl, _, rfl, v, a, mv, t, m, rfl, hv, hm.same e2, hmv.mono (Same.tx e2), fun w H3 e3 hw => ?_⟩⟩
      exact kY2 rfl w H3 e3 hw
    rw [filter_yes] at rz1
    refine ⟨q1, zs1, rfl, hq1, fun r1 H2 _ e2 h2 => ?_⟩
    have e02 := e1.trans e2
    refine ⟨_, rfl, p, _, 1, _, rfl, rfl, hp.same e02, rfl, pb, rfl, ⟨_, (hpb.same e02).seq⟩, lc_t (l := j.2) (ea := encAt) (f := fun x => encAt (subA m x)) (c := fun _ => true) (hpb.same e02) (hys.mono (Same.tx e02)) n2 (fun x hx v H3 e3 hv R Qy _ kY => ?_) (fun q zs H3 _ e3 hq rz => ?_)⟩
    · obtain ⟨p', q', ws, rfl, h1, h2, h3, h4⟩ := atE hv
      refine ⟨rfl, yesI ?_⟩
      refine ⟨_, rfl, p', _, 0, _, rfl, rfl, h1, rfl, _, rfl, p', _, 1, _, rfl, rfl, h1, rfl, q', rfl, ⟨_, h2.seq⟩, lc_t (l := x.2) (ea := encTm) (f := fun t => encTm (subT m t)) (c := fun _ => true) h2 h3 (n3 x hx) (fun t ht v H4 e4 hv R2 Qy2 _ kY2 => ?_) (fun q2 zs2 H4 _ e4 hq2 rz2 => ?_)⟩
      · refine ⟨rfl, yesI ⟨_, rfl, _, rfl, v, a, mv, t, m, rfl, hv, ((hm.same e02).same e3).same e4, hmv.mono (Same.tx (e02.trans (e3.trans e4))), fun w H5 e5 hw => ?_⟩⟩
        exact kY2 rfl w H5 e5 hw
      · refine ⟨q2, zs2, rfl, hq2, fun r H5 _ e5 h5 => ⟨sz2, fun r2 H6 _ e6 h6 => ?_⟩⟩
        rw [filter_yes] at rz2
        refine kY rfl _ _ ((e4.trans e5).trans e6) (atI' (a := subA m x) (q := r) (xs := zs2) h6 (h5.same e6) ?_ h4)
        rw [show (subA m x).2.map encTm = x.2.map fun t => encTm (subT m t) from List.map_map ..]
        exact (rz2.mono (Same.tx e5)).mono (Same.tx e6)
    · rw [filter_yes] at rz
      refine ⟨q, zs, rfl, hq, fun r3 H4 _ e4 h4 => ?_⟩
      refine ⟨_, rfl, _, rfl, sz2, fun r4 H5 _ e5 h5 => ?_⟩
      refine k _ _ (e02.trans (e3.trans (e4.trans e5))) ?_
      refine jnI (j := subJ m j) (a := r1) (b := r3) (xs := zs1) (ys := zs) h5 (((h2.same e3).same e4).same e5) ?_ (h4.same e5) ?_
      · rw [show (subJ m j).1.map encTm = j.1.map fun t => encTm (subT m t) from List.map_map ..]
        exact rz1.mono (Same.tx (e2.trans (e3.trans (e4.trans e5))))
      · rw [show (subJ m j).2.map encAt = j.2.map fun x => encAt (subA m x) from List.map_map ..]
        exact rz.mono (Same.tx (e4.trans e5))
theorem sc_l_image : FnScope ["_law_join_here", "_law_mapping"] ["_law_join_here", "_law_mapping"] (defScope st_l_image) := ⟨rfl, rfl, rfl, by decide +kernel, rfl, by decide +kernel, by decide +kernel⟩
-- slots: 0 _law_join_here, 1 _law_mapping
theorem ok_l_image (F : Def' K mg "_law_image" st_l_image) (B : Bt mg) (C_l_put_join : Cal P w K mg base 2 "_law_put_join" spLpj []) : Cal P w K mg base 3 "_law_image" spLim [] := by
  refine cal_mk F sc_l_image (fun _ _ _ _ _ _ us hl => match us, hl with | [_, _], _ => rfl) (fun vs H Q E h => ?_) (fun f cdv A outer s H vs Q E hr h => ?_)
  · obtain ⟨x, a, mv, j, m, rfl, _⟩ := h
    rfl
  · obtain ⟨x, a, mv, j, m, rfl, hj, hm, hmv, hs, k⟩ := h
    have nd := sc_l_image.nd
    refine ⟨_, (pss_one (ps_ret (pe_ix ixT (pe_c C_l_put_join hr (by decide) rfl (pa_cons (pv 0) (pa_cons (pv 1) pa_nil))) pe_int (fun _ _ => rfl)))), ?_⟩
    refine ⟨_, rfl, _, rfl, x, a, mv, j, m, rfl, hj, hm, hmv, hs, fun w H2 e2 hw => ?_⟩
    obtain ⟨p, q, b, zs, ys, rfl, hp, hq, hzs, hb, hys⟩ := jnE hw
    exact ⟨p, _, 1, _, rfl, rfl, hp, rfl, k _ _ e2 (.tup hb hys)⟩
end
end Aw

/-! B2: join_variables, bound, distinct. -/
namespace Aw
open PySem PySem.Spec PyProof.Rows L2
open C8 (Cal pe_c)
def isVar : Tm → Bool
  | .var _ => true
  | .val _ => false
theorem vars_map : ∀ ts : List Tm, (ts.filter isVar).map Tm.pay = (vnames ts).map V.str
  | [] => rfl
  | .var s :: ts => by
    show V.str s :: (ts.filter isVar).map Tm.pay = V.str s :: (vnames ts).map V.str
    rw [vars_map ts]
  | .val k :: ts => vars_map ts
theorem vnames_len : ∀ ts : List Tm, (vnames ts).length ≤ ts.length
  | [] => Nat.le_refl _
  | .var s :: ts => Nat.succ_le_succ (vnames_len ts)
  | .val k :: ts => Nat.le_succ_of_le (vnames_len ts)
theorem flat_len {ats : List Atm} (h : ∀ a ∈ ats, a.2.length ≤ 10) : (ats.flatMap (·.2)).length ≤ 10 * ats.length := by
  induction ats with
  | nil => simp
  | cons a ats ih =>
    rw [List.flatMap_cons, List.length_append, List.length_cons]
    have := ih fun b hb => h b (List.mem_cons_of_mem _ hb)
    have := h a List.mem_cons_self
    omega
theorem lk_filter : ∀ (mi : Mp) (s : Str), ((mi.filter fun p => decide (Tm.var s = .var p.1)).map (·.2))[0]? = lk mi s
  | [], _ => rfl
  | p :: mi, s => by
    rw [lk_cons]
    by_cases q : p.1 = s
    · rw [if_pos q, List.filter_cons_of_pos (by rw [q]; exact decide_eq_true rfl)]
      rfl
    · rw [if_neg q, List.filter_cons_of_neg (by simp; exact fun z => q z.symm)]
      exact lk_filter mi s
section
variable {P : Program} {w : World} {K : PySem.W.Frag} {mg : Str → Option Value} {base : Heap}
theorem sc_l_distinct : FnScope ["_law_atoms", "_law_found", "_law_atom_here"] ["_law_atoms"] (defScope st_l_distinct) := ⟨rfl, rfl, rfl, by decide +kernel, rfl, by decide +kernel, by decide +kernel⟩
-- slots: 0 _law_atoms, 1 _law_found, 2 _law_atom_here
theorem ok_l_distinct (F : Def' K mg "_law_distinct" st_l_distinct) (B : Bt mg) : Cal P w K mg base 1 "_law_distinct" spLdi [] := by
  refine cal_mk F sc_l_distinct (fun _ _ _ _ _ _ us hl => match us, hl with | [_], _ => rfl) (fun vs H Q E h => ?_) (fun f cdv A outer s H vs Q E hr h => ?_)
  · obtain ⟨x, b, rfl, _⟩ := h
    rfl
  · obtain ⟨x, b, rfl, hx, hn, k⟩ := h
    have nd := sc_l_distinct.nd
    have hu65 := hu65 hr
    refine ⟨_, (pss_cons (ps_set (i := 1) nd rfl (.inl rfl) (peL pa_nil))
      (pss_cons (ps_for PassesOwn.never rfl (piT (K := K) rfl (pv 0)) (pg_name (i := 2) nd rfl (.inl rfl))
      (pss_one (ps_if (pt_cmpR (notInAt hu65) (pv 2) (pv 1) rfl)
        (pss_one (ps_expr (peLM PySem.F.slot_list_append PySem.F.type_list_append mt_append (pv 1) (pa_cons (pv 2) pa_nil))))
        pss_nil)))
      (pss_one (ps_ret (pv 1))))), ?_⟩
    obtain ⟨p, xs, rfl, hp, hxs⟩ := hx.tupE
    have hl : xs.length = b.length := by rw [hxs.length, List.length_map]
    refine ⟨sz0, fun D H0 hD e0 h0 => ?_⟩
    refine ⟨_, rfl, p, rfl, ⟨_, (hp.same e0).seq⟩, ?_⟩
    refine for_tup (K := K) (xs := xs) (fun i σ H' => ∃ q ys, σ = [some (.ref p), some (.ref D), q] ∧ Same H H' ∧ H' D = some (.lst ys) ∧ Tps H' ys ((ddp (b.take i)).map encAt))
      ⟨_, [], rfl, e0, h0, .nil⟩ (fun i σ H' _ ⟨_, _, _, e, _⟩ => (hp.same e).seq) (fun i v σ H' hi hP => ?_) (fun σ H' hP => ?_)
    · obtain ⟨q, ys, rfl, e, hDd, hys⟩ := hP
      obtain ⟨z, hz, hv⟩ := hxs.getM hi
      have hv := hv.mono (Same.tx e)
      have hdl := ddp_len (b.take i)
      rw [List.length_take] at hdl
      refine ⟨_, rfl, _, rfl, z, _, D, ys, hv, rfl, hDd, hys, _, rfl, iteN (fun hne => ?_) (fun hin => ?_)⟩
      · refine ⟨_, rfl, ⟨D, ys, rfl, hDd⟩, _, rfl, D, ys, _, rfl, rfl, hDd, ?_, ?_⟩
        · rw [hys.length, List.length_map]
          exact szt (by omega)
        · refine ⟨_, _, rfl, same_mut e hD, upd_same, ?_⟩
          rw [ddp_take hz, if_neg hne, List.map_append]
          exact (hys.snoc hv).mono (tx_lst hDd)
      · refine ⟨_, _, rfl, e, hDd, ?_⟩
        rw [ddp_take hz, if_pos hin]
        exact hys
    · obtain ⟨q, ys, rfl, e, hDd, hys⟩ := hP
      rw [hl, List.take_length] at hys
      exact ⟨_, rfl, k _ _ _ hD e hDd hys⟩
theorem sc_l_join_variables : FnScope ["_law_join_here", "_law_terms", "_law_atom_here", "_law_term_here"] ["_law_join_here"] (defScope st_l_join_variables) := ⟨rfl, rfl, rfl, by decide +kernel, rfl, by decide +kernel, by decide +kernel⟩
-- slots: 0 _law_join_here, 1 _law_terms, 2 _law_atom_here, 3 _law_term_here
theorem ok_l_join_variables (F : Def' K mg "_law_join_variables" st_l_join_variables) (B : Bt mg) : Cal P w K mg base 1 "_law_join_variables" spLjv [] := by
  refine cal_mk F sc_l_join_variables (fun _ _ _ _ _ _ us hl => match us, hl with | [_], _ => rfl) (fun vs H Q E h => ?_) (fun f cdv A outer s H vs Q E hr h => ?_)
  · obtain ⟨x, j, rfl, _⟩ := h
    rfl
  · obtain ⟨x, j, rfl, hx, n1, n2, k⟩ := h
    have nd := sc_l_join_variables.nd
    refine ⟨_, (pss_cons (ps_set (i := 1) nd rfl (.inl rfl) (peL pa_nil))
      (pss_cons (ps_for PassesOwn.never rfl (piT (K := K) rfl (pe_ix ixT (pv 0) pe_int (fun _ _ => rfl))) (pg_name (i := 2) nd rfl (.inl rfl))
      (pss_one (ps_set (i := 1) nd rfl (.inl rfl) (pe_op catL (pv 1) (pe_callTy listOf rfl B.list_ bt_list (pa_cons (pe_ix ixT (pv 2) pe_int (fun _ _ => rfl)) pa_nil))))))
      (pss_one (ps_ret (pe_sortSet rfl rfl B.sorted_ rfl B.set_ (pe_lc (own := [("_law_term_here", 3)]) (g := (gName 3)) rfl nd (piL (K := K) rfl (pv 1)) (blkOk_by (by kernel_rfl)) (fun _ _ _ _ _ => (pg_name (i := 3) nd rfl (.inl rfl))) (fun _ _ _ _ _ => (pts_one (pt_cmpR op_eq (pe_ix ixT (pv 3) pe_int (fun _ _ => rfl)) pe_str (nomark _)))) (fun _ _ _ _ _ => (pe_ix ixT (pv 3) pe_int (fun _ _ => rfl))))))))), ?_⟩
    obtain ⟨p, pa, pb, xs, ys, rfl, hp, hpa, hxs, hpb, hys⟩ := jnE hx
    have lys : ys.length = j.2.length := by rw [hys.length, List.length_map]
    refine ⟨sz0, fun D0 H0 hD0 e0 h0 => ?_⟩
    refine ⟨_, rfl, p, _, 1, _, rfl, rfl, hp.same e0, rfl, pb, rfl, ⟨_, (hpb.same e0).seq⟩, ?_⟩
    refine for_tup (K := K) (xs := ys) (fun i σ H' => ∃ D tv c2 c3, σ = [some (.ref p), some (.ref D), c2, c3] ∧ Same H H' ∧ H' D = some (.lst tv) ∧ Tps H' tv (((j.2.take i).flatMap (·.2)).map encTm))
      ⟨D0, [], _, _, rfl, e0, h0, .nil⟩ (fun i σ H' _ ⟨_, _, _, _, _, e, _⟩ => (hpb.same e).seq) (fun i v σ H' hi hP => ?_) (fun σ H' hP => ?_)
    · obtain ⟨D, tv, c2, c3, rfl, e, hD, ht⟩ := hP
      obtain ⟨z, hz, hv⟩ := hys.getM hi
      have hv := hv.mono (Same.tx e)
      obtain ⟨q, q2, zv, rfl, h1, h2, h3, _⟩ := atE hv
      refine ⟨_, rfl, _, rfl, q, _, 1, _, rfl, rfl, h1, rfl, q2, zv, rfl, .inr h2, fun E1 H2 _ e2 hE1 => ?_⟩
      refine ⟨D, E1, tv, zv, rfl, rfl, e2 _ _ hD, hE1, ?_, fun E2 H3 _ e3 hE2 => ?_⟩
      · have a1 := flat_len (ats := j.2.take i) fun a ha => n2 a (List.mem_of_mem_take ha)
        rw [List.length_take] at a1
        have a2 := n2 z (List.mem_of_getElem? hz)
        have a3 : zv.length = z.2.length := by rw [h3.length, List.length_map]
        have a4 : tv.length = ((j.2.take i).flatMap (·.2)).length := by rw [ht.length, List.length_map]
        exact szl (by omega)
      · refine ⟨E2, _, _, _, rfl, e.trans (e2.trans e3), hE2, ?_⟩
        rw [flat_take hz, List.map_append]
        exact (ht.mono (Same.tx (e2.trans e3))).append (h3.mono (Same.tx (e2.trans e3)))
    · obtain ⟨D, tv, c2, c3, rfl, e, hD, ht⟩ := hP
      rw [lys, List.take_length] at ht
      have a1 := flat_len n2
      refine ⟨_, rfl, D, rfl, ⟨_, SqL.of hD⟩, lc_lv (l := j.2.flatMap (·.2)) (ea := encTm) (fv := Tm.pay) (c := isVar) hD ht (by omega) (fun t _ v H2 e2 hv R Qy kN kY => ?_) (fun S H2 _ e2 hS => ?_)⟩
      · obtain ⟨b, rfl, hb, _⟩ := tmE hv
        refine ⟨rfl, ?_⟩
        refine ⟨_, rfl, b, _, 0, _, rfl, rfl, hb, rfl, rfl, _, rfl, ?_⟩
        cases t with
        | var s => exact iteD (fun _ => ⟨_, rfl, b, _, 1, _, rfl, rfl, hb, rfl, kY rfl _ _ (Same.refl _) rfl⟩) (fun z => absurd rfl z)
        | val k0 => exact iteD (fun z => absurd (V.str.inj z).symm tag_ne) (fun _ => kN rfl _ (Same.refl _))
      · rw [vars_map] at hS
        refine ⟨S, vnames (j.2.flatMap (·.2)), rfl, hS, ?_, fun ns hn hm p' H3 hp0' e3 hp' => ?_⟩
        · have := vnames_len (j.2.flatMap (·.2))
          omega
        · refine k ns hn (fun s => ?_) p' H3 (none_same (e.trans e2) hp0') (e.trans (e2.trans e3)) hp'
          rw [hm s, mem_vnames, List.mem_flatMap]
          exact Iff.rfl
theorem sc_l_bound : FnScope ["_law_terms", "_law_targets", "_law_mapping", "_law_k", "_law_known", "_law_pair"] ["_law_terms", "_law_targets", "_law_mapping"] (defScope st_l_bound) := ⟨rfl, rfl, rfl, by decide +kernel, rfl, by decide +kernel, by decide +kernel⟩
-- slots: 0 _law_terms, 1 _law_targets, 2 _law_mapping, 3 _law_k, 4 _law_known, 5 _law_pair
theorem ok_l_bound (F : Def' K mg "_law_bound" st_l_bound) (B : Bt mg) : Cal P w K mg base 1 "_law_bound" spLbd [] := by
  refine cal_mk F sc_l_bound (fun _ _ _ _ _ _ us hl => match us, hl with | [_, _, _], _ => rfl) (fun vs H Q E h => ?_) (fun f cdv A outer s H vs Q E hr h => ?_)
  · obtain ⟨x, y, a, mv, ts, us, m, rfl, _⟩ := h
    rfl
  · obtain ⟨x, y, a, mv, ts, us, m, rfl, hx, hy, ha, hm, n1, n2, k1, k2⟩ := h
    have nd := sc_l_bound.nd
    have hu64 := hu64 hr
    refine ⟨_, (pss_cons (ps_if (pt_cmpR op_ne (pe_callB lenS rfl B.len_ bt_len (pa_cons (pv 0) pa_nil)) (pe_callB lenS rfl B.len_ bt_len (pa_cons (pv 1) pa_nil)) (nomark _))
      (pss_one (ps_ret pe_non))
      pss_nil)
      (pss_cons (ps_set (i := 2) nd rfl (.inl rfl) (pe_callTy listOf rfl B.list_ bt_list (pa_cons (pv 2) pa_nil)))
      (pss_cons (ps_for PassesOwn.never rfl (pi_range1 rfl B.range_ (pa_cons (pe_callB lenS rfl B.len_ bt_len (pa_cons (pv 0) pa_nil)) pa_nil)) (pg_name (i := 3) nd rfl (.inr rfl))
      (pss_cons (ps_setLc (i := 4) (own := [("_law_pair", 5)]) (g := (gName 5)) rfl nd rfl rfl (sw_true rfl rfl rfl (by kernel_rfl)) (piL (K := K) rfl (pv 2)) (blkOk_by (by kernel_rfl)) (fun _ _ _ _ _ => (pg_name (i := 5) nd rfl (.inl rfl))) (fun _ _ _ _ _ => (pts_one (pt_cmpR (eqTm hu64) (pe_ix ixT (pv 0) (pv 3) (fun _ _ => rfl)) (peT (pa_cons pe_str (pa_cons (pe_ix ixT (pv 5) pe_int (fun _ _ => rfl)) pa_nil))) (nomark _)))) (fun _ _ _ _ _ => (pe_ix ixT (pv 5) pe_int (fun _ _ => rfl))))
        (pss_cons (ps_ifM (pt_cmpR op_eq (pe_ix ixT (pe_ix ixT (pv 0) (pv 3) (fun _ _ => rfl)) pe_int (fun _ _ => rfl)) pe_str (nomark _))
        (pss_one (ps_set (i := 4) nd rfl (.inl rfl) (peL (pa_cons (pe_ix ixT (pv 0) (pv 3) (fun _ _ => rfl)) pa_nil))))
        pss_nil)
        (pss_one (ps_if (pt_cmpR op_eq (pe_callB lenS rfl B.len_ bt_len (pa_cons (pv 4) pa_nil)) pe_int (nomark _))
        (pss_one (ps_expr (peLM PySem.F.slot_list_append PySem.F.type_list_append mt_append (pv 2) (pa_cons (peT (pa_cons (pe_ix ixT (pe_ix ixT (pv 0) (pv 3) (fun _ _ => rfl)) pe_int (fun _ _ => rfl)) (pa_cons (pe_ix ixT (pv 1) (pv 3) (fun _ _ => rfl)) pa_nil))) pa_nil))))
        (pss_one (ps_if (pt_cmpR (neTm hu64) (pe_ix ixL (pv 4) pe_int (fun _ _ => rfl)) (pe_ix ixT (pv 1) (pv 3) (fun _ _ => rfl)) (nomark _))
          (pss_one (ps_ret pe_non))
          pss_nil)))))))
      (pss_one (ps_ret (pv 2)))))), ?_⟩
    obtain ⟨b, xs, rfl, hb, hxs⟩ := hx.tupE
    obtain ⟨d, ys, rfl, hd, hys⟩ := hy.tupE
    have lx : xs.length = ts.length := by rw [hxs.length, List.length_map]
    have ly : ys.length = us.length := by rw [hys.length, List.length_map]
    refine ⟨_, rfl, b, xs, rfl, .inr hb, _, rfl, d, ys, rfl, .inr hd, rfl, _, rfl, iteN (fun hne => ?_) (fun heq => ?_)⟩
    · refine k1 (bnd_len fun z => hne ?_) _ (Same.refl _)
      rw [lx, ly, z]
    have le : ts.length = us.length := by
      have := V.int.inj heq
      omega
    refine ⟨_, rfl, a, mv, rfl, ha, fun D H1 hD e1 hD1 => ?_⟩
    refine ⟨_, rfl, b, xs, rfl, .inr (hb.same e1), _, rfl, (rng_lo (by omega)).1, (rng_lo (by omega)).2, ?_⟩
    refine for_range (fun i σ H' => ∃ mv' mi c3 c4 c5, σ = [some (.ref b), some (.ref d), some (.ref D), c3, c4, c5] ∧ Same H H' ∧ H' D = some (.lst mv') ∧ Tps H' mv' (mi.map encPr) ∧ bnd (ts.drop i) (us.drop i) mi = bnd ts us m ∧ mi.length ≤ m.length + i)
      ⟨mv, m, _, _, _, rfl, e1, hD1, hm.mono (Same.tx e1), rfl, Nat.le_refl _⟩ (fun i σ H' hi hP => ?_) (fun σ H' hP => ?_)
    · rw [Int.toNat_natCast, lx] at hi
      obtain ⟨mv', mi, c3, c4, c5, rfl, e, hDd, hmi, hbn, hml⟩ := hP
      obtain ⟨t, ht⟩ : ∃ t, ts[i]? = some t := ⟨_, List.getElem?_eq_getElem hi⟩
      obtain ⟨u, hu'⟩ : ∃ u, us[i]? = some u := ⟨_, List.getElem?_eq_getElem (by omega)⟩
      obtain ⟨tv, htv, tT⟩ := hxs.atM ht
      obtain ⟨uv, huv, uT⟩ := hys.atM hu'
      have tT := tT.mono (Same.tx e)
      have uT := uT.mono (Same.tx e)
      have hbs := bnd_step ht hu' mi
      rw [hbs] at hbn
      rw [Int.zero_add]
      -- what is known of the term
      refine ⟨_, rfl, D, rfl, ⟨_, SqL.of hDd⟩, lc_l (l := mi) (ea := encPr) (f := fun p => encTm p.2) (c := fun p => decide (t = .var p.1)) hDd hmi (by omega) (fun p hp v H2 e2 hv R Qy kN kY => ?_) (fun KN knv H2 hKN0 e2 hKN tKN => ?_)⟩
      · obtain ⟨q, w', rfl, hq, hw, hok⟩ := prE hv
        refine ⟨rfl, ?_⟩
        refine ⟨_, rfl, _, rfl, b, xs, _, _, rfl, rfl, (hb.same e).same e2, atI_nat htv, _, rfl, q, _, 0, _, rfl, rfl, hq, rfl, sz2, fun T H3 _ e3 hT => ?_⟩
        refine ⟨t, .var p.1, tT.mono (Same.tx (e2.trans e3)), tmI (t := .var p.1) hT hok, _, rfl, iteD (fun heq => ?_) (fun hne => ?_)⟩
        · exact ⟨_, rfl, q, _, 1, _, rfl, rfl, hq.same e3, rfl, kY (decide_eq_true heq) _ _ e3 (hw.mono (Same.tx e3))⟩
        · exact kN (decide_eq_false hne) _ e3
      obtain ⟨ta, rfl, hta, hto⟩ := tmE tT
      have e02 := e.trans e2
      -- a value is known
      refine ⟨fun σ H3 => ∃ KN knv kn, σ = [some (.ref b), some (.ref d), some (.ref D), some (.int (i : Nat)), some (.ref KN), c5] ∧ Same H' H3 ∧ H3 KN = some (.lst knv) ∧ Tps H3 knv (kn.map encTm) ∧ ((∃ k0, t = .val k0 ∧ kn = [t]) ∨ ∃ s, t = .var s ∧ kn = (mi.filter fun p => decide (t = .var p.1)).map (·.2)), ?_, ?_⟩
      · refine ⟨_, rfl, _, rfl, b, xs, _, _, rfl, rfl, hb.same e02, atI_nat htv, ta, _, 0, _, rfl, rfl, hta.same e2, rfl, rfl, _, rfl, ?_⟩
        cases t with
        | val k0 =>
          refine iteD (fun _ => ?_) (fun z => absurd rfl z)
          exact ⟨_, rfl, _, rfl, b, xs, _, _, rfl, rfl, hb.same e02, atI_nat htv, sz1, fun K2 H3 _ e3 hK2 => ⟨K2, _, [.val k0], rfl, e2.trans e3, hK2, .one (tT.mono (Same.tx (e2.trans e3))), .inl ⟨k0, rfl, rfl⟩⟩⟩
        | var s =>
          refine iteD (fun z => absurd (V.str.inj z) tag_ne) (fun _ => ?_)
          refine ⟨KN, knv, (mi.filter fun p => decide (Tm.var s = .var p.1)).map (·.2), rfl, e2, hKN, ?_, .inr ⟨s, rfl, rfl⟩⟩
          rw [List.map_map]
          exact tKN
      rintro σ H3 ⟨KN, knv, kn, rfl, e3, hKN, tkn, hkn⟩
      have e03 := e.trans e3
      have lkn : knv.length = kn.length := by rw [tkn.length, List.length_map]
      have hD3 := e3 _ _ hDd
      have uT3 := uT.mono (Same.tx e3)
      refine ⟨_, rfl, KN, knv, rfl, .inl hKN, rfl, _, rfl, ?_⟩
      cases kn with
      | nil =>
        have hl0 : knv.length = 0 := by rw [lkn]; rfl
        refine iteD (fun _ => ?_) (fun z => absurd (by rw [hl0]; rfl) z)
        rcases hkn with ⟨k0, _, z⟩ | ⟨s, rfl, z⟩
        · cases z
        have hlk : lk mi s = none := by
          rw [← lk_filter mi s, ← z]
          rfl
        refine ⟨_, rfl, ⟨D, mv', rfl, hD3⟩, _, rfl, _, rfl, b, xs, _, _, rfl, rfl, hb.same e03, atI_nat htv, ta, _, 1, _, rfl, rfl, hta.same e3, rfl, _, rfl, _, rfl, d, ys, _, _, rfl, rfl, hd.same e03, atI_nat huv, sz2, fun U H4 _ e4 hU => ?_⟩
        have hD4 := e4 _ _ hD3
        have lmv : mv'.length = mi.length := by rw [hmi.length, List.length_map]
        refine ⟨D, mv', _, rfl, rfl, hD4, szt (by omega), ?_⟩
        refine ⟨_, mi ++ [(s, u)], _, _, _, rfl, same_mut (e03.trans e4) hD, upd_same, ?_, ?_, ?_⟩
        · rw [List.map_append]
          exact ((hmi.mono (Same.tx (e3.trans e4))).snoc (prI (p := (s, u)) hU (uT3.mono (Same.tx e4)) hto)).mono (tx_lst hD4)
        · rw [← hbn]
          conv => rhs; unfold bnd
          rw [hlk]
        · rw [List.length_append, List.length_singleton]
          omega
      | cons t0 kn =>
        have hl0 : knv.length = kn.length + 1 := by rw [lkn]; rfl
        refine iteD (fun z => absurd (V.int.inj z) (by omega)) (fun _ => ?_)
        obtain ⟨kv0, hkv0, hT0⟩ := tkn.atM (i := 0) (x := t0) rfl
        have key : bnd (ts.drop i) (us.drop i) mi = if t0 = u then bnd (ts.drop (i + 1)) (us.drop (i + 1)) mi else none := by
          rw [hbs]
          rcases hkn with ⟨k0, rfl, z⟩ | ⟨s, rfl, z⟩
          · have z1 := (List.cons.inj z).1
            rw [z1, bnd]
          · rw [bnd]
            have : lk mi s = some t0 := by
              rw [← lk_filter mi s, ← z]
              rfl
            simp only [this]
        refine ⟨_, rfl, KN, knv, 0, kv0, rfl, rfl, hKN, atI_nat (i := 0) hkv0, _, rfl, _, rfl, d, ys, _, _, rfl, rfl, hd.same e03, atI_nat huv, t0, u, hT0, uT3, _, rfl, iteN (fun hne => ?_) (fun heq => ?_)⟩
        · refine k1 ?_ _ e03
          rw [← hbn, ← hbs, key, if_neg hne]
        · refine ⟨mv', mi, _, _, _, rfl, e03, hD3, hmi.mono (Same.tx e3), ?_, by omega⟩
          rw [← hbn, ← hbs, key, if_pos heq]
    · rw [Int.toNat_natCast, lx] at hP
      obtain ⟨mv', mi, c3, c4, c5, rfl, e, hDd, hmi, hbn, hml⟩ := hP
      rw [List.drop_length, le, List.drop_length] at hbn
      exact ⟨_, rfl, k2 mi hbn.symm _ _ _ hD e hDd hmi⟩
end
end Aw

/-! B3: the law's matchings. -/
namespace Aw
open PySem PySem.Spec PyProof.Rows L2
open C8 (Cal pe_c)
/-- lists of maps or None; none of the lists stands at G -/
inductive OptE (H : Hp) (G : Addr) : List V → List (Option Mp) → Prop
  | nil : OptE H G [] []
  | no {vs : List V} {ms : List (Option Mp)} : OptE H G vs ms → OptE H G (.non :: vs) (none :: ms)
  | yes {a : Addr} {mv : List V} {m : Mp} {vs : List V} {ms : List (Option Mp)} : H a = some (.lst mv) → Tps H mv (m.map encPr) → a ≠ G → OptE H G vs ms → OptE H G (.ref a :: vs) (some m :: ms)
section
variable {H H' : Hp} {G G' : Addr} {vs ws : List V} {ms ns : List (Option Mp)}
theorem OptE.same (e : Same H H') (h : OptE H G vs ms) : OptE H' G vs ms := by
  induction h with
  | nil => exact .nil
  | no _ ih => exact .no ih
  | yes h1 h2 h3 _ ih => exact .yes (e _ _ h1) (h2.mono (Same.tx e)) h3 ih
theorem OptE.fresh (n : H G' = none) (h : OptE H G vs ms) : OptE H G' vs ms := by
  induction h with
  | nil => exact .nil
  | no _ ih => exact .no ih
  | yes h1 h2 h3 _ ih => exact .yes h1 h2 (ne_of_none h1 n) ih
theorem OptE.put {gv gv' : List V} (hG : H G = some (.lst gv)) (h : OptE H G vs ms) : OptE (upd H G (.lst gv')) G vs ms := by
  induction h with
  | nil => exact .nil
  | no _ ih => exact .no ih
  | yes h1 h2 h3 _ ih => exact .yes (by rw [upd_ne h3]; exact h1) (h2.mono (tx_lst hG)) h3 ih
theorem OptE.append (h : OptE H G vs ms) (k : OptE H G ws ns) : OptE H G (vs ++ ws) (ms ++ ns) := by
  induction h with
  | nil => exact k
  | no _ ih => exact .no ih
  | yes h1 h2 h3 _ ih => exact .yes h1 h2 h3 ih
theorem OptE.length (h : OptE H G vs ms) : vs.length = ms.length := by
  induction h with
  | nil => rfl
  | no _ ih => rw [List.length_cons, List.length_cons, ih]
  | yes _ _ _ _ ih => rw [List.length_cons, List.length_cons, ih]
theorem OptE.get : ∀ {vs : List V} {ms : List (Option Mp)}, OptE H G vs ms → ∀ {i : Nat} {v : V}, vs[i]? = some v → (ms[i]? = some none ∧ v = .non) ∨ ∃ m a mv, ms[i]? = some (some m) ∧ v = .ref a ∧ H a = some (.lst mv) ∧ Tps H mv (m.map encPr)
  | _, _, .nil, i, v, h => by simp at h
  | _, _, .no r, 0, v, e => .inl ⟨rfl, by cases e; rfl⟩
  | _, _, .yes h1 h2 _ r, 0, v, e => .inr ⟨_, _, _, rfl, by cases e; rfl, h1, h2⟩
  | _, _, .no r, i + 1, v, e => r.get (i := i) (by simpa using e)
  | _, _, .yes _ _ _ r, i + 1, v, e => r.get (i := i) (by simpa using e)
end
def gO (a : Atm) (l : List Atm) : Option Mp → List (Option Mp)
  | none => []
  | some m => (l.filter fun r => decide (r.1 = a.1)).map fun r => bnd a.2 r.2 m
def growO (tg : List Atm) (fo : List (Option Mp)) (a : Atm) : List (Option Mp) := fo.flatMap (gO a tg)
def ofold (tg ats : List Atm) (fo : List (Option Mp)) : List (Option Mp) := ats.foldl (growO tg) fo
theorem growO_id (tg : List Atm) (a : Atm) : ∀ fo : List (Option Mp), (growO tg fo a).filterMap id = grow tg (fo.filterMap id) a
  | [] => rfl
  | none :: fo => growO_id tg a fo
  | some m :: fo => by
    have ih := growO_id tg a fo
    unfold growO grow at *
    rw [List.flatMap_cons, List.filterMap_append, ih]
    show _ = List.flatMap _ (m :: List.filterMap id fo)
    rw [List.flatMap_cons]
    congr 1
    show List.filterMap id (List.map _ _) = _
    rw [List.filterMap_map]
    rfl
theorem ofold_id (tg : List Atm) : ∀ (ats : List Atm) (fo : List (Option Mp)), (ofold tg ats fo).filterMap id = mfold tg ats (fo.filterMap id)
  | [], _ => rfl
  | a :: ats, fo => by
    have := ofold_id tg ats (growO tg fo a)
    unfold ofold mfold at *
    rw [List.foldl_cons, List.foldl_cons, this, growO_id]
theorem growO_len {tg : List Atm} {a : Atm} : ∀ fo : List (Option Mp), (growO tg fo a).length ≤ fo.length * tg.length
  | [] => by simp [growO]
  | om :: fo => by
    have ih := growO_len (tg := tg) (a := a) fo
    unfold growO at *
    rw [List.flatMap_cons, List.length_append, List.length_cons, Nat.succ_mul]
    have : (gO a tg om).length ≤ tg.length := by
      cases om with
      | none => exact Nat.zero_le _
      | some m =>
        show (List.map _ _).length ≤ _
        rw [List.length_map]
        exact List.length_filter_le _ _
    omega
theorem ofold_len {tg : List Atm} : ∀ (ats : List Atm) (fo : List (Option Mp)), (ofold tg ats fo).length ≤ fo.length * tg.length ^ ats.length
  | [], fo => by simp [ofold]
  | a :: ats, fo => by
    have h1 := ofold_len (tg := tg) ats (growO tg fo a)
    have h2 := growO_len (tg := tg) (a := a) fo
    rw [List.length_cons, Nat.pow_succ]
    refine Nat.le_trans h1 (Nat.le_trans (Nat.mul_le_mul_right _ h2) ?_)
    rw [Nat.mul_assoc, Nat.mul_comm tg.length]
    exact Nat.le_refl _
theorem ofold_few {tg ats : List Atm} {om : Option Mp} (h3 : ats.length ≤ 5) (ht : tg.length ≤ 5) : (ofold tg ats [om]).length ≤ 3125 := by
  have h1 := ofold_len (tg := tg) ats [om]
  have h4 : tg.length ^ ats.length ≤ 5 ^ 5 := Nat.le_trans (Nat.pow_le_pow_left ht _) (Nat.pow_le_pow_right (by decide) h3)
  have h6 : (5 ^ 5 : Nat) = 3125 := by decide
  rw [List.length_singleton, Nat.one_mul] at h1
  omega
theorem ofold_take {tg : List Atm} {l : List Atm} {i : Nat} {x : Atm} (h : l[i]? = some x) (f : List (Option Mp)) : ofold tg (l.take (i + 1)) f = growO tg (ofold tg (l.take i) f) x := by
  unfold ofold
  rw [List.take_add_one, h, List.foldl_append]
  rfl
theorem gO_take_no {a z : Atm} {l : List Atm} {i : Nat} {m : Mp} (h : l[i]? = some z) (n : ¬ z.1 = a.1) : gO a (l.take (i + 1)) (some m) = gO a (l.take i) (some m) := by
  unfold gO
  rw [List.take_add_one, h, List.filter_append]
  simp [n]
theorem gO_take_yes {a z : Atm} {l : List Atm} {i : Nat} {m : Mp} (h : l[i]? = some z) (n : z.1 = a.1) : gO a (l.take (i + 1)) (some m) = gO a (l.take i) (some m) ++ [bnd a.2 z.2 m] := by
  unfold gO
  rw [List.take_add_one, h, List.filter_append]
  simp [n]
theorem fmap_take {l : List (Option Mp)} {i : Nat} {x : Option Mp} (h : l[i]? = some x) : (l.take (i + 1)).filterMap id = (l.take i).filterMap id ++ x.toList := by
  rw [List.take_add_one, h, List.filterMap_append]
  cases x <;> rfl
def spLmt : Sp := fun vs H Q _ => ∃ (x y : V) (j o : Jn), vs = [x, y] ∧ Tp H x (encJn j) ∧ Tp H y (encJn o) ∧ Sm j ∧ Sm o ∧
  ∀ ms : List Mp, Mts j o ms → ms.length ≤ 3125 → (∀ m ∈ ms, m.length ≤ 48) → ∀ p ys H', Same H H' → H' p = some (.lst ys) → Tps H' ys (ms.map encMp) → Q (.ref p) H'
section
variable {P : Program} {w : World} {K : PySem.W.Frag} {mg : Str → Option Value} {base : Heap}
theorem sc_l_matchings : FnScope ["_law_join_here", "_law_target", "_law_found", "_law_atom_here", "_law_grown", "_law_mapping", "_law_other"] ["_law_join_here", "_law_target"] (defScope st_l_matchings) := ⟨rfl, rfl, rfl, by decide +kernel, rfl, by decide +kernel, by decide +kernel⟩
-- slots: 0 _law_join_here, 1 _law_target, 2 _law_found, 3 _law_atom_here, 4 _law_grown, 5 _law_mapping, 6 _law_other
theorem ok_l_matchings (F : Def' K mg "_law_matchings" st_l_matchings) (B : Bt mg) (C_l_bound : Cal P w K mg base 1 "_law_bound" spLbd []) (C_l_distinct : Cal P w K mg base 1 "_law_distinct" spLdi []) : Cal P w K mg base 2 "_law_matchings" spLmt [] := by
  refine cal_mk F sc_l_matchings (fun _ _ _ _ _ _ us hl => match us, hl with | [_, _], _ => rfl) (fun vs H Q E h => ?_) (fun f cdv A outer s H vs Q E hr h => ?_)
  · obtain ⟨x, y, j, o, rfl, _⟩ := h
    rfl
  · obtain ⟨x, y, j, o, rfl, hx, hy, sj, so, k⟩ := h
    have nd := sc_l_matchings.nd
    refine ⟨_, (pss_cons (ps_setM (i := 2) nd rfl (.inl rfl) (peL (pa_cons (pe_c C_l_bound hr (by decide) rfl (pa_cons (pe_ix ixT (pv 0) pe_int (fun _ _ => rfl)) (pa_cons (pe_ix ixT (pv 1) pe_int (fun _ _ => rfl)) (pa_cons (peL pa_nil) pa_nil)))) pa_nil)))
      (pss_cons (ps_for PassesOwn.never rfl (piT (K := K) rfl (pe_ix ixT (pv 0) pe_int (fun _ _ => rfl))) (pg_name (i := 3) nd rfl (.inl rfl))
      (pss_cons (ps_set (i := 4) nd rfl (.inl rfl) (peL pa_nil))
        (pss_cons (ps_for PassesOwn.never rfl (piL (K := K) rfl (pv 2)) (pg_name (i := 5) nd rfl (.inl rfl))
        (pss_one (ps_for PassesOwn.never rfl (piL (K := K) rfl (pe_c C_l_distinct hr (by decide) rfl (pa_cons (pe_ix ixT (pv 1) pe_int (fun _ _ => rfl)) pa_nil))) (pg_name (i := 6) nd rfl (.inl rfl))
          (pss_one (ps_if (PW.pt (pw_and (pt_cmpR op_notN (pv 5) pe_non (nomark _)) (pw_and1 (pt_cmpR op_eq (pe_ix ixT (pv 3) pe_int (fun _ _ => rfl)) (pe_ix ixT (pv 6) pe_int (fun _ _ => rfl)) (nomark _)))))
            (pss_one (ps_expr (peLM PySem.F.slot_list_append PySem.F.type_list_append mt_append (pv 4) (pa_cons (pe_c C_l_bound hr (by decide) rfl (pa_cons (pe_ix ixT (pv 3) pe_int (fun _ _ => rfl)) (pa_cons (pe_ix ixT (pv 6) pe_int (fun _ _ => rfl)) (pa_cons (pv 5) pa_nil)))) pa_nil))))
            pss_nil)))))
        (pss_one (ps_set (i := 2) nd rfl (.inl rfl) (pv 4))))))
      (pss_one (ps_ret (pe_lc (own := [("_law_mapping", 5)]) (g := (gName 5)) rfl nd (piL (K := K) rfl (pv 2)) (blkOk_by (by kernel_rfl)) (fun _ _ _ _ _ => (pg_name (i := 5) nd rfl (.inl rfl))) (fun _ _ _ _ _ => (pts_one (pt_cmpR op_notN (pv 5) pe_non (nomark _)))) (fun _ _ _ _ _ => (pe_callTy tupOf rfl B.tuple_ bt_tuple (pa_cons (pe_callB cr_sortPr rfl B.sorted_ bt_sorted (pa_cons (pv 5) pa_nil)) pa_nil)))))))), ?_⟩
    obtain ⟨p, pa, pb, xs, ys, rfl, hp, hpa, hxs, hpb, hys⟩ := jnE hx
    obtain ⟨q, qa, qb, zs, ws, rfl, hq, hqa, hzs, hqb, hws⟩ := jnE hy
    have lys : ys.length = j.2.length := by rw [hys.length, List.length_map]
    have lo5 : (ddp o.2).length ≤ 5 := Nat.le_trans (ddp_len o.2) so.2.1
    -- the first
    refine ⟨fun σ H' => ∃ F fv, σ = [some (.ref p), some (.ref q), some (.ref F), none, none, none, none] ∧ Same H H' ∧ H' F = some (.lst fv) ∧ OptE H' F fv [bnd j.1 o.1 []], ?_, ?_⟩
    · refine ⟨_, rfl, p, _, 0, _, rfl, rfl, hp, rfl, _, rfl, q, _, 0, _, rfl, rfl, hq, rfl, sz0, fun E H1 hE0 e1 hE => ?_⟩
      refine ⟨_, _, E, [], j.1, o.1, [], rfl, .tup (hpa.same e1) (hxs.mono (Same.tx e1)), .tup (hqa.same e1) (hzs.mono (Same.tx e1)), .inl hE, .nil, Nat.le_trans sj.1 (by decide), Nat.zero_le _, fun hn H2 e2 => ⟨sz1, fun F H3 hF e3 hF3 => ⟨F, _, rfl, e1.trans (e2.trans e3), hF3, ?_⟩⟩, fun m' hm p' mv' H2 hp0 e2 hp' tm => ⟨sz1, fun F H3 hF e3 hF3 => ⟨F, _, rfl, e1.trans (e2.trans e3), hF3, ?_⟩⟩⟩
      · rw [hn]
        exact .no .nil
      · rw [hm]
        exact .yes (e3 _ _ hp') (tm.mono (Same.tx e3)) (ne_of_none hp' hF) .nil
    rintro σ H1 ⟨F, fv, rfl, e1, hF, hfv⟩
    refine ⟨_, rfl, p, _, 1, _, rfl, rfl, hp.same e1, rfl, pb, rfl, ⟨_, (hpb.same e1).seq⟩, ?_⟩
    refine for_tup (K := K) (xs := ys) (fun i σ H' => ∃ FF fv c3 c4 c5 c6, σ = [some (.ref p), some (.ref q), some (.ref FF), c3, c4, c5, c6] ∧ Same H H' ∧ H' FF = some (.lst fv) ∧ OptE H' FF fv (ofold (ddp o.2) (j.2.take i) [bnd j.1 o.1 []]))
      ⟨F, fv, _, _, _, _, rfl, e1, hF, hfv⟩ (fun i σ H' _ ⟨_, _, _, _, _, _, _, e, _⟩ => (hpb.same e).seq) (fun i v σ H' hi hP => ?_) (fun σ H' hP => ?_)
    · obtain ⟨FF, fv, c3, c4, c5, c6, rfl, e, hFF, hfv⟩ := hP
      obtain ⟨z, hz, hv⟩ := hys.getM hi
      have hzj : z ∈ j.2 := List.mem_of_getElem? hz
      have hv := hv.mono (Same.tx e)
      obtain ⟨r, r2, zv, rfl, h1, h2, h3, _⟩ := atE hv
      generalize hfo : ofold (ddp o.2) (j.2.take i) [bnd j.1 o.1 []] = fo at hfv
      have lfo : fo.length ≤ 3125 := by
        rw [← hfo]
        exact ofold_few (by rw [List.length_take]; have := sj.2.1; omega) lo5
      have sfo : ∀ m ∈ fo.filterMap id, m.length ≤ 48 := by
        rw [← hfo, ofold_id]
        have e0 : [bnd j.1 o.1 []].filterMap id = start0 j o := by
          unfold start0
          cases bnd j.1 o.1 [] <;> rfl
        rw [e0]
        exact all_small' sj.1 (fun a ha => sj.2.2 a (List.mem_of_mem_take ha)) (by rw [List.length_take]; have := sj.2.1; omega)
      refine ⟨sz0, fun G H2 hG0 e2 hG => ?_⟩
      have lfv := hfv.length
      refine ⟨_, rfl, FF, rfl, ⟨_, SqL.of (e2 _ _ hFF)⟩, ?_⟩
      refine for_list (K := K) (xs := fv) (fun n σ H8 => ∃ gv c5 c6, σ = [some (.ref p), some (.ref q), some (.ref FF), some (.ref r), some (.ref G), c5, c6] ∧ Same H' H8 ∧ H8 G = some (.lst gv) ∧ OptE H8 G gv ((fo.take n).flatMap (gO z (ddp o.2))) ∧ gv.length ≤ 5 * n)
        ⟨[], _, _, rfl, e2, hG, .nil, Nat.le_refl _⟩ (fun n σ H8 _ ⟨_, _, _, _, e8, _⟩ => SqL.of (e8 _ _ hFF)) (fun n mv σ H8 hn hP => ?_) (fun σ H8 hP => ?_)
      · obtain ⟨gv, c5, c6, rfl, e8, hG8, hgv, lgv⟩ := hP
        have hnl : n < fv.length := (List.getElem?_eq_some_iff.mp hn).1
        have e08 := e.trans e8
        refine ⟨_, rfl, q, _, 1, _, rfl, rfl, hq.same e08, rfl, _, o.2, rfl, .tup (hqb.same e08) (hws.mono (Same.tx e08)), Nat.le_trans so.2.1 (by decide), fun DD dv H9 hDD0 e9 hDD tDD => ?_⟩
        have ldv : dv.length = (ddp o.2).length := by rw [tDD.length, List.length_map]
        have hG9 := e9 _ _ hG8
        refine ⟨DD, rfl, ⟨_, SqL.of hDD⟩, ?_⟩
        obtain ⟨om, hom⟩ : ∃ om, fo[n]? = some om := ⟨_, List.getElem?_eq_getElem (by omega)⟩
        refine for_list (K := K) (xs := dv) (fun i σ H10 => ∃ gv c6, σ = [some (.ref p), some (.ref q), some (.ref FF), some (.ref r), some (.ref G), some mv, c6] ∧ Same H' H10 ∧ H10 DD = some (.lst dv) ∧ Tps H10 dv ((ddp o.2).map encAt) ∧ H10 G = some (.lst gv) ∧ OptE H10 G gv ((fo.take n).flatMap (gO z (ddp o.2)) ++ gO z ((ddp o.2).take i) om) ∧ gv.length ≤ 5 * n + i)
          ⟨gv, _, rfl, e8.trans e9, hDD, tDD, hG9, by
            have : gO z ((ddp o.2).take 0) om = [] := by
              rw [List.take_zero]
              cases om <;> rfl
            rw [this, List.append_nil]
            exact hgv.same e9, lgv⟩ (fun i σ H10 _ ⟨_, _, _, _, h, _⟩ => SqL.of h) (fun i ov σ H10 hi hP => ?_) (fun σ H10 hP => ?_)
        · obtain ⟨gv, c6, rfl, e10, hDD10, tDD10, hG10, hgv10, lgv10⟩ := hP
          obtain ⟨rr, hrr, hrv⟩ := tDD10.getM hi
          have hil : i < dv.length := (List.getElem?_eq_some_iff.mp hi).1
          obtain ⟨ra, ra2, rvv, rfl, g1, g2, g3, _⟩ := atE hrv
          have DD_G : DD ≠ G := fun zz => ne_of_none hG8 hDD0 zz.symm
          rcases (hfv.same e10).get hn with ⟨hn1, rfl⟩ | ⟨m, ma, mvv, hm1, rfl, hma, tma⟩
          · rw [hom] at hn1
            cases hn1
            refine ⟨_, rfl, rfl, _, rfl, iteN (fun zz => absurd rfl zz) (fun _ => ?_)⟩
            exact iteF ⟨gv, _, rfl, e10, hDD10, tDD10, hG10, hgv10, by omega⟩
          · rw [hom] at hm1
            cases hm1
            have hmm : m ∈ fo.filterMap id := List.mem_filterMap.mpr ⟨some m, List.mem_of_getElem? hom, rfl⟩
            refine ⟨_, rfl, rfl, _, rfl, iteN (fun _ => ?_) (fun zz => by cases zz)⟩
            refine ⟨_, rfl, r, _, 0, _, rfl, rfl, h1.same e10, rfl, _, rfl, ra, _, 0, _, rfl, rfl, g1, rfl, rfl, _, rfl, iteD (fun heq => ?_) (fun hne => ?_)⟩
            · have heq : rr.1 = z.1 := (V.str.inj heq).symm
              refine ⟨_, rfl, ⟨G, gv, rfl, hG10⟩, _, rfl, r, _, 1, _, rfl, rfl, h1.same e10, rfl, _, rfl, ra, _, 1, _, rfl, rfl, g1, rfl, _, rfl, _, _, ma, mvv, z.2, rr.2, m, rfl, .tup (h2.same e10) (h3.mono (Same.tx e10)), .tup g2 g3, .inl hma, tma, Nat.le_trans (sj.2.2 z hzj) (by decide), Nat.le_trans (sfo m hmm) (by decide), fun hno H11 e11 => ?_, fun m' hm' p' mv' H11 hp0 e11 hp' tm' => ?_⟩
              · have hG11 := e11 _ _ hG10
                refine ⟨G, gv, _, rfl, rfl, hG11, szt (by omega), ?_⟩
                refine ⟨_, _, rfl, same_mut (e10.trans e11) hG0, by rw [upd_ne DD_G]; exact e11 _ _ hDD10, (tDD10.mono (Same.tx e11)).mono (tx_lst hG11), upd_same, ?_, by rw [List.length_append, List.length_singleton]; omega⟩
                rw [gO_take_yes hrr heq, hno, ← List.append_assoc]
                exact ((hgv10.same e11).append (.no .nil)).put hG11
              · have hG11 := e11 _ _ hG10
                refine ⟨G, gv, _, rfl, rfl, hG11, szt (by omega), ?_⟩
                refine ⟨_, _, rfl, same_mut (e10.trans e11) hG0, by rw [upd_ne DD_G]; exact e11 _ _ hDD10, (tDD10.mono (Same.tx e11)).mono (tx_lst hG11), upd_same, ?_, by rw [List.length_append, List.length_singleton]; omega⟩
                rw [gO_take_yes hrr heq, hm', ← List.append_assoc]
                exact ((hgv10.same e11).append (.yes hp' tm' (fun zz => by rw [zz, hG10] at hp0; cases hp0) .nil)).put hG11
            · refine ⟨gv, _, rfl, e10, hDD10, tDD10, hG10, ?_, by omega⟩
              rw [gO_take_no hrr (fun zz => hne (by rw [zz]))]
              exact hgv10
        · obtain ⟨gv, c6, rfl, e10, hDD10, tDD10, hG10, hgv10, lgv10⟩ := hP
          rw [ldv, List.take_length] at hgv10
          refine ⟨gv, _, _, rfl, e10, hG10, ?_, by omega⟩
          rw [flat_take hom]
          exact hgv10
      · obtain ⟨gv, c5, c6, rfl, e8, hG8, hgv, lgv⟩ := hP
        rw [lfv, List.take_length] at hgv
        refine ⟨_, rfl, G, gv, _, _, _, _, rfl, e.trans e8, hG8, ?_⟩
        rw [ofold_take hz, hfo]
        exact hgv
    · obtain ⟨FF, fv, c3, c4, c5, c6, rfl, e, hFF, hfv⟩ := hP
      rw [lys, List.take_length] at hfv
      have e0 : [bnd j.1 o.1 []].filterMap id = start0 j o := by
        unfold start0
        cases bnd j.1 o.1 [] <;> rfl
      have lfo := ofold_few (om := bnd j.1 o.1 []) sj.2.1 lo5
      have hid := ofold_id (ddp o.2) j.2 [bnd j.1 o.1 []]
      rw [e0] at hid
      have hmts : Mts j o (mfold (ddp o.2) j.2 (start0 j o)) := mts_of (mem_ddp o.2) (fun a => Iff.rfl)
      have sms := all_small (o := o) (tgs := ddp o.2) sj (List.Perm.refl j.2)
      rw [← hid] at hmts sms
      generalize ofold (ddp o.2) j.2 [bnd j.1 o.1 []] = fo at hfv hmts lfo sms
      have lfv := hfv.length
      refine ⟨_, rfl, FF, rfl, ⟨_, SqL.of hFF⟩, fun D hD => ?_⟩
      refine lc_list (K := K) (xs := fv) (fun i H6 => ∃ yv ms', Same H' H6 ∧ H6 D = some (.lst yv) ∧ Tps H6 yv (ms'.map encMp) ∧ Reord ((fo.take i).filterMap id) ms' ∧ yv.length ≤ i) ⟨[], [], same_new hD, upd_same, .nil, by rw [List.take_zero]; exact .nil, Nat.le_refl _⟩ (fun i H6 _ ⟨_, _, e6, _⟩ => SqL.of (e6 _ _ hFF)) (fun i mv H6 hi hP => ?_) (fun H6 hP => ?_)
      · obtain ⟨yv, ms', e6, hD6, tyv, ro, lyv⟩ := hP
        have hil : i < fv.length := (List.getElem?_eq_some_iff.mp hi).1
        refine ⟨rfl, ?_⟩
        rcases (hfv.same e6).get hi with ⟨hn1, rfl⟩ | ⟨m, ma, mvv, hm1, rfl, hma, tma⟩
        · refine ⟨_, rfl, rfl, _, rfl, iteN (fun zz => absurd rfl zz) (fun _ => ?_)⟩
          refine ⟨yv, ms', e6, hD6, tyv, ?_, by omega⟩
          rw [fmap_take hn1]
          show Reord (_ ++ []) _
          rw [List.append_nil]
          exact ro
        · have hmm : m ∈ fo.filterMap id := List.mem_filterMap.mpr ⟨some m, List.mem_of_getElem? hm1, rfl⟩
          refine ⟨_, rfl, rfl, _, rfl, iteN (fun _ => ?_) (fun zz => by cases zz)⟩
          refine ⟨_, rfl, ma, mvv, m, rfl, hma, tma, Nat.le_trans (sms m hmm) (by decide), (hmts.sound m hmm).nd, fun sv m' pm tsv S H7 _ e7 hS => ?_⟩
          refine ⟨S, sv, rfl, hS, fun U H8 _ e8 hU => ?_⟩
          have e68 := e7.trans e8
          have hD8 := e68 _ _ hD6
          refine ⟨yv, hD8, szt (by omega), _, ms' ++ [m'], same_mut (e6.trans e68) hD, upd_same, ?_, ?_, by rw [List.length_append, List.length_singleton]; omega⟩
          · rw [List.map_append]
            exact ((tyv.mono (Same.tx e68)).snoc (.tup hU (tsv.mono (Same.tx e68)))).mono (tx_lst hD8)
          · rw [fmap_take hm1]
            exact ro.snoc pm
      · obtain ⟨yv, ms', e6, hD6, tyv, ro, lyv⟩ := hP
        rw [lfv, List.take_length] at ro
        have lyv' : yv.length = ms'.length := by rw [tyv.length, List.length_map]
        refine k ms' (mts_reord hmts ro) (by omega) (fun m hm => ?_) D yv H6 (e.trans e6) hD6 tyv
        obtain ⟨m0, hm0, pm0⟩ := ro.mem1 m hm
        rw [pm0.length_eq]
        exact sms m0 hm0
end
end Aw

/-! B4: the law's fits, good_maps, entries, half_of. -/
namespace Aw
open PySem PySem.Spec PyProof.Rows L2
open C8 (Cal pe_c)
/-- variables to different variables -/
def Turn (m : Mp) : Prop := (∀ s t, lk m s = some t → ∃ r, t = .var r) ∧ ∀ s s' t, lk m s = some t → lk m s' = some t → s = s'
theorem turn_iff {m : Mp} (nd : (keys m).Nodup) : Turn m ↔ (∀ p ∈ m, isVar p.2 = true) ∧ (m.map (·.2)).Nodup := by
  constructor
  · rintro ⟨h1, h2⟩
    refine ⟨fun p hp => ?_, ?_⟩
    · obtain ⟨r, hr⟩ := h1 p.1 p.2 (mem_lk nd hp)
      rw [hr]
      rfl
    · have key : ∀ m' : Mp, (keys m').Nodup → (∀ p ∈ m', ∀ q ∈ m', p.2 = q.2 → p.1 = q.1) → (m'.map (·.2)).Nodup := by
        intro m'
        induction m' with
        | nil => intro _ _; exact .nil
        | cons p m' ih =>
          intro n1 h
          obtain ⟨n2, n3⟩ := List.nodup_cons.mp (show (p.1 :: keys m').Nodup from n1)
          rw [List.map_cons]
          refine List.nodup_cons.mpr ⟨fun z => ?_, ih n3 fun a ha b hb => h a (List.mem_cons_of_mem _ ha) b (List.mem_cons_of_mem _ hb)⟩
          obtain ⟨q, hq, e⟩ := List.mem_map.mp z
          refine n2 ?_
          rw [h p List.mem_cons_self q (List.mem_cons_of_mem _ hq) e.symm]
          exact List.mem_map.mpr ⟨q, hq, rfl⟩
      refine key m nd fun p hp q hq e => h2 p.1 q.1 p.2 (mem_lk nd hp) ?_
      rw [e]
      exact mem_lk nd hq
  · rintro ⟨h1, h2⟩
    refine ⟨fun s t h => ?_, fun s s' t h h' => ?_⟩
    · have := h1 _ (lk_mem h)
      cases t with
      | var r => exact ⟨r, rfl⟩
      | val k => cases this
    · have m1 := lk_mem h
      have m2 := lk_mem h'
      clear h h' h1 nd
      induction m with
      | nil => cases m1
      | cons p m ih =>
        rw [List.map_cons] at h2
        obtain ⟨n1, n2⟩ := List.nodup_cons.mp h2
        rcases List.mem_cons.mp m1 with e1 | m1
        · rcases List.mem_cons.mp m2 with e2 | m2
          · rw [← e1] at e2
            exact (congrArg Prod.fst e2).symm
          · exfalso
            refine n1 ?_
            rw [← e1]
            exact List.mem_map.mpr ⟨_, m2, rfl⟩
        · rcases List.mem_cons.mp m2 with e2 | m2
          · exfalso
            refine n1 ?_
            rw [← e2]
            exact List.mem_map.mpr ⟨_, m1, rfl⟩
          · exact ih n2 m1 m2
def LOk (kind : Str) (b c : List Atm) (m : Mp) : Prop := kind = "yes" ∨ (Prt b c ∧ (kind = "prices" ∨ (b.length = c.length ∧ (kind = "once" ∨ Turn m))))
def kind4 (k : Str) : Prop := k = "once" ∨ k = "prices" ∨ k = "yes" ∨ k = "all"
/-- a map of the kind, for the law's search -/
def KMA (kind : Str) (s t : Jn) : Prop := ∃ m, Good s t m ∧ LOk kind (subB m s.2) t.2 m
theorem kma_found {kind : Str} {s t : Jn} {ms : List Mp} (h : Mts s t ms) : KMA kind s t ↔ ∃ m ∈ ms, LOk kind (subB m s.2) t.2 m := by
  constructor
  · rintro ⟨m0, g, hk⟩
    obtain ⟨m, hm, el⟩ := h.full _ g
    refine ⟨m, hm, ?_⟩
    rw [subB_eq el]
    have ht : Turn m0 → Turn m := fun ⟨a, b⟩ => ⟨fun s t e => a s t (by rw [← el]; exact e), fun s s' t e e' => b s s' t (by rw [← el]; exact e) (by rw [← el]; exact e')⟩
    exact hk.imp _root_.id fun ⟨p, q⟩ => ⟨p, q.imp _root_.id fun ⟨l, r⟩ => ⟨l, r.imp _root_.id ht⟩⟩
  · rintro ⟨m, hm, hk⟩
    exact ⟨m, h.sound m hm, hk⟩
def encEn (e : Int × Mp) : T := .tup [.int e.1, encMp e.2]
def spLfi : Sp := fun vs H Q _ => ∃ (kind : Str) (x y z : V) (j o : Jn) (m : Mp), vs = [.str kind, x, y, z] ∧ kind4 kind ∧ Tp H x (encJn j) ∧ Tp H y (encJn o) ∧ Tp H z (encMp m) ∧ (keys m).Nodup ∧ m.length ≤ 48 ∧ Sm j ∧ Sm o ∧
  (LOk kind (subB m j.2) o.2 m → ∀ H', Same H H' → Q (.bl true) H') ∧ (¬ LOk kind (subB m j.2) o.2 m → ∀ H', Same H H' → Q (.bl false) H')
def spLgm : Sp := fun vs H Q _ => ∃ (kind : Str) (x y : V) (j o : Jn), vs = [.str kind, x, y] ∧ kind4 kind ∧ Tp H x (encJn j) ∧ Tp H y (encJn o) ∧ Sm j ∧ Sm o ∧
  ∀ gs : List Mp, (gs = [] ↔ ¬ KMA kind j o) → gs.length ≤ 3125 → ∀ p ys H', H p = none → Same H H' → H' p = some (.lst ys) → Tps H' ys (gs.map encMp) → Q (.ref p) H'
def spLes : Sp := fun vs H Q _ => ∃ (kind : Str) (x y : V) (js : List Jn) (t : Jn), vs = [.str kind, x, y] ∧ kind4 kind ∧ Tp H x (.tup (js.map encJn)) ∧ Tp H y (encJn t) ∧ js.length ≤ 20 ∧ (∀ s ∈ js, Sm s) ∧ Sm t ∧
  ∀ es : List (Int × Mp), (es = [] ↔ ∀ s ∈ js, ¬ KMA kind s t) → es.length ≤ 62500 → ∀ p ys H', Same H H' → H' p = some (.lst ys) → Tps H' ys (es.map encEn) → Q (.ref p) H'
def spLho : Sp := fun vs H Q _ => ∃ (kind : Str) (x y : V) (n n2 : Int) (js1 js2 : List Jn), vs = [.str kind, x, y] ∧ kind4 kind ∧ Tp H x (encQn (n, js1)) ∧ Tp H y (encQn (n2, js2)) ∧ js1.length ≤ 20 ∧ js2.length ≤ 20 ∧ (∀ s ∈ js1, Sm s) ∧ (∀ s ∈ js2, Sm s) ∧
  ((∀ t ∈ js1, ∃ s ∈ js2, KMA kind s t) → ∀ p H', Same H H' → Q (.ref p) H') ∧ ((¬ ∀ t ∈ js1, ∃ s ∈ js2, KMA kind s t) → ∀ H', Same H H' → Q .non H')
theorem filt_nil {b c : List Atm} : (b.filter fun a => decide (c.count a < b.count a)) = [] ↔ Prt b c := by
  rw [List.filter_eq_nil_iff]
  unfold Prt
  constructor
  · intro h a ha
    have := h a ha
    simp at this
    exact this
  · intro h a ha
    have := h a ha
    simp
    exact this
theorem filt_all {m : Mp} : (m.filter fun p => isVar p.2).length = m.length ↔ ∀ p ∈ m, isVar p.2 = true := by
  rw [List.length_filter_eq_length_iff]
section
variable {P : Program} {w : World} {K : PySem.W.Frag} {mg : Str → Option Value} {base : Heap}
theorem sc_l_fits : FnScope ["_law_kind", "_law_join_here", "_law_target", "_law_mapping", "_law_image_here", "_law_terms", "_law_atom_here", "_law_pair"] ["_law_kind", "_law_join_here", "_law_target", "_law_mapping"] (defScope st_l_fits) := ⟨rfl, rfl, rfl, by decide +kernel, rfl, by decide +kernel, by decide +kernel⟩
-- slots: 0 _law_kind, 1 _law_join_here, 2 _law_target, 3 _law_mapping, 4 _law_image_here, 5 _law_terms, 6 _law_atom_here, 7 _law_pair
theorem ok_l_fits (F : Def' K mg "_law_fits" st_l_fits) (B : Bt mg) (C_l_image : Cal P w K mg base 3 "_law_image" spLim []) : Cal P w K mg base 4 "_law_fits" spLfi [] := by
  refine cal_mk F sc_l_fits (fun _ _ _ _ _ _ us hl => match us, hl with | [_, _, _, _], _ => rfl) (fun vs H Q E h => ?_) (fun f cdv A outer s H vs Q E hr h => ?_)
  · obtain ⟨kind, x, y, z, j, o, m, rfl, _⟩ := h
    rfl
  · obtain ⟨kind, x, y, z, j, o, m, rfl, hk4, hx, hy, hz, hnd, hm48, sj, so, k1, k2⟩ := h
    have nd := sc_l_fits.nd
    have hu64 := hu64 hr
    have hu65 := hu65 hr
    refine ⟨_, (pss_cons (ps_set (i := 4) nd rfl (.inr rfl) (pe_c C_l_image hr (by decide) rfl (pa_cons (pv 1) (pa_cons (pv 3) pa_nil))))
      (pss_cons (ps_if (PW.pt (pw_or (pt_cmpR op_eq (pv 0) pe_str (nomark _)) (pw_or1 (pt_cmpR op_eq (pv 0) pe_str (nomark _)))))
      (pss_one (ps_ret pe_bl))
      pss_nil)
      (pss_cons (ps_if (pt_cmpR op_gt (pe_callB lenS rfl B.len_ bt_len (pa_cons (pe_lc (own := [("_law_atom_here", 6)]) (g := (gName 6)) rfl nd (piT (K := K) rfl (pv 4)) (blkOk_by (by kernel_rfl)) (fun _ _ _ _ _ => (pg_name (i := 6) nd rfl (.inl rfl))) (fun _ _ _ _ _ => (pts_one (pt_cmpR op_gt (peTM PySem.F.slot_tuple_count PySem.F.type_tuple_count (mt_countT hu65) (pv 4) (pa_cons (pv 6) pa_nil)) (peTM PySem.F.slot_tuple_count PySem.F.type_tuple_count (mt_countT hu65) (pe_ix ixT (pv 2) pe_int (fun _ _ => rfl)) (pa_cons (pv 6) pa_nil)) (nomark _)))) (fun _ _ _ _ _ => (pv 6))) pa_nil)) pe_int (nomark _))
      (pss_one (ps_ret pe_bl))
      pss_nil)
      (pss_cons (ps_if (pt_cmpR op_eq (pv 0) pe_str (nomark _))
      (pss_one (ps_ret pe_bl))
      pss_nil)
      (pss_cons (ps_if (pt_cmpR op_ne (pe_callB lenS rfl B.len_ bt_len (pa_cons (pv 4) pa_nil)) (pe_callB lenS rfl B.len_ bt_len (pa_cons (pe_ix ixT (pv 2) pe_int (fun _ _ => rfl)) pa_nil)) (nomark _))
      (pss_one (ps_ret pe_bl))
      pss_nil)
      (pss_cons (ps_setLc (i := 5) (own := [("_law_pair", 7)]) (g := (gName 7)) rfl nd rfl rfl (sw_true rfl rfl rfl (by kernel_rfl)) (piT (K := K) rfl (pv 3)) (blkOk_by (by kernel_rfl)) (fun _ _ _ _ _ => (pg_name (i := 7) nd rfl (.inl rfl))) (fun _ _ _ _ _ => (pts_one (pt_cmpR op_eq (pe_ix ixT (pe_ix ixT (pv 7) pe_int (fun _ _ => rfl)) pe_int (fun _ _ => rfl)) pe_str (nomark _)))) (fun _ _ _ _ _ => (pe_ix ixT (pv 7) pe_int (fun _ _ => rfl))))
      (pss_one (ps_ret (pe_or (pe_cmpR op_eq (pv 0) pe_str (nomark _)) (pe_one (pe_and (pe_cmpR op_eq (pe_callB lenS rfl B.len_ bt_len (pa_cons (pv 5) pa_nil)) (pe_callB lenS rfl B.len_ bt_len (pa_cons (pv 3) pa_nil)) (nomark _)) (pe_one (pe_cmpR op_eq (pe_lenTm rfl hu64 rfl B.len_ rfl B.set_ (pv 5)) (pe_callB lenS rfl B.len_ bt_len (pa_cons (pv 5) pa_nil)) (nomark _)))))))))))))), ?_⟩
    obtain ⟨za, zv, rfl, hza, hzv⟩ := hz.tupE
    obtain ⟨q, qa, qb, zs, ws, rfl, hq, hqa, hzs, hqb, hws⟩ := jnE hy
    have lzv : zv.length = m.length := by rw [hzv.length, List.length_map]
    have lws : ws.length = o.2.length := by rw [hws.length, List.length_map]
    have lsub : (subB m j.2).length = j.2.length := by unfold subB; rw [List.length_map]
    refine ⟨_, rfl, _, rfl, x, za, zv, j, m, rfl, hx, .inr hza, hzv, sj.szs, fun iv H1 e1 hiv => ?_⟩
    generalize hb : subB m j.2 = b at *
    obtain ⟨ia, ivv, rfl, hia, hivv⟩ := hiv.tupE
    have liv : ivv.length = b.length := by rw [hivv.length, List.length_map]
    have lb5 : b.length ≤ 5 := by rw [lsub]; exact sj.2.1
    have hns : kind ≠ "sets" := by rcases hk4 with rfl | rfl | rfl | rfl <;> decide +kernel
    refine ⟨_, rfl, rfl, _, rfl, iteD (fun zz => absurd (V.str.inj zz) hns) (fun _ => ?_)⟩
    refine ⟨_, rfl, rfl, _, rfl, iteD (fun hyes => k1 (.inl (V.str.inj hyes)) _ e1) (fun hnyes => ?_)⟩
    have hnyes : kind ≠ "yes" := fun zz => hnyes (congrArg V.str zz)
    refine ⟨_, rfl, ia, rfl, ⟨_, hia.seq⟩, lc_t (l := b) (ea := encAt) (f := encAt) (c := fun a => decide (o.2.count a < b.count a)) hia hivv (by omega) (fun a ha v H2 e2 hv R Qy kN kY => ?_) (fun S sv H2 _ e2 hS tS => ?_)⟩
    · refine ⟨rfl, ?_⟩
      refine ⟨_, rfl, ⟨ia, ivv, rfl, hia.same e2⟩, _, rfl, a, b, ia, ivv, v, rfl, rfl, hia.same e2, hivv.mono (Same.tx e2), hv, ?_⟩
      refine ⟨_, rfl, q, _, 1, _, rfl, rfl, (hq.same e1).same e2, rfl, ⟨qb, ws, rfl, (hqb.same e1).same e2⟩, _, rfl, a, o.2, qb, ws, v, rfl, rfl, (hqb.same e1).same e2, hws.mono (Same.tx (e1.trans e2)), hv, ?_⟩
      refine ⟨_, _, rfl, rfl, _, rfl, iteD (fun hlt => ?_) (fun hge => ?_)⟩
      · exact ⟨_, rfl, kY (decide_eq_true (Int.ofNat_lt.mp hlt)) _ _ (Same.refl _) hv⟩
      · exact kN (decide_eq_false fun zz => hge (Int.ofNat_lt.mpr zz)) _ (Same.refl _)
    have e02 := e1.trans e2
    have lsv : sv.length = (b.filter fun a => decide (o.2.count a < b.count a)).length := by rw [tS.length, List.length_map]
    refine ⟨S, sv, rfl, .inl hS, _, _, rfl, rfl, _, rfl, iteD (fun hpos => ?_) (fun hz0 => ?_)⟩
    · refine k2 (fun zz => ?_) _ e02
      rcases zz with zz | ⟨zz, _⟩
      · exact hnyes zz
      · rw [filt_nil.mpr zz] at lsv
        rw [lsv] at hpos
        exact absurd hpos (by decide)
    have hprt : Prt b o.2 := filt_nil.mp (List.eq_nil_of_length_eq_zero (by
      rw [← lsv]
      omega))
    refine ⟨_, rfl, rfl, _, rfl, iteD (fun hpr => k1 (.inr ⟨hprt, .inl (V.str.inj hpr)⟩) _ e02) (fun hnpr => ?_)⟩
    have hnpr : kind ≠ "prices" := fun zz => hnpr (congrArg V.str zz)
    refine ⟨_, rfl, ia, ivv, rfl, .inr (hia.same e2), _, rfl, q, _, 1, _, rfl, rfl, hq.same e02, rfl, qb, ws, rfl, .inr (hqb.same e02), rfl, _, rfl, iteN (fun hne => ?_) (fun heq => ?_)⟩
    · refine k2 (fun zz => ?_) _ e02
      rcases zz with zz | ⟨_, zz | ⟨zz, _⟩⟩
      · exact hnyes zz
      · exact hnpr zz
      · exact hne (by rw [liv, lws, zz])
    have hlen : b.length = o.2.length := by
      have := V.int.inj heq
      omega
    refine ⟨_, rfl, za, rfl, ⟨_, (hza.same e02).seq⟩, lc_t (l := m) (ea := encPr) (f := fun p => encTm p.2) (c := fun p => isVar p.2) (hza.same e02) (hzv.mono (Same.tx e02)) (by omega) (fun p hp v H3 e3 hv R Qy kN kY => ?_) (fun TT tv H3 _ e3 hT tT => ?_)⟩
    · obtain ⟨u, w', rfl, hu, hw, _⟩ := prE hv
      obtain ⟨t, rfl, ht, _⟩ := tmE hw
      refine ⟨rfl, ?_⟩
      refine ⟨_, rfl, u, _, 1, _, rfl, rfl, hu, rfl, t, _, 0, _, rfl, rfl, ht, rfl, rfl, _, rfl, ?_⟩
      obtain ⟨ps, pt⟩ := p
      cases pt with
      | var r => exact iteD (fun _ => ⟨_, rfl, u, _, 1, _, rfl, rfl, hu, rfl, kY rfl _ _ (Same.refl _) hw⟩) (fun zz => absurd rfl zz)
      | val k0 => exact iteD (fun zz => absurd (V.str.inj zz).symm tag_ne) (fun _ => kN rfl _ (Same.refl _))
    have e03 := e02.trans e3
    have tT' : Tps H3 tv (((m.filter fun p => isVar p.2).map (·.2)).map encTm) := by rw [List.map_map]; exact tT
    have ltv : tv.length = (m.filter fun p => isVar p.2).length := by rw [tT.length, List.length_map]
    have lfl : (m.filter fun p => isVar p.2).length ≤ m.length := List.length_filter_le _ _
    refine ⟨_, rfl, rfl, _, rfl, iteD (fun hon => k1 (.inr ⟨hprt, .inr ⟨hlen, .inl (V.str.inj hon)⟩⟩) _ e03) (fun hnon => ?_)⟩
    have hnon : kind ≠ "once" := fun zz => hnon (congrArg V.str zz)
    have turnIff := turn_iff hnd
    have no : ¬ Turn m → ∀ H', Same H H' → Q (.bl false) H' := fun ht H' e' => k2 (fun zz => by
      rcases zz with zz | ⟨_, zz | ⟨_, zz | zz⟩⟩
      · exact hnyes zz
      · exact hnpr zz
      · exact hnon zz
      · exact ht zz) H' e'
    refine ⟨_, rfl, TT, tv, rfl, .inl hT, _, rfl, za, zv, rfl, .inr (hza.same e03), rfl, _, rfl, iteD (fun hall => ?_) (fun hnall => ?_)⟩
    · have hallv : ∀ p ∈ m, isVar p.2 = true := filt_all.mp (by
        have := V.int.inj hall
        omega)
      have hfe : (m.filter fun p => isVar p.2) = m := List.filter_eq_self.mpr hallv
      rw [hfe] at tT' ltv
      refine ⟨_, rfl, TT, tv, m.map (·.2), rfl, hT, tT', by rw [List.length_map]; omega, fun n hn => ?_⟩
      rw [List.length_map] at hn
      refine ⟨_, rfl, TT, tv, rfl, .inl hT, rfl, ?_⟩
      by_cases ht : Turn m
      · have : decide (V.int (n : Int) = V.int (tv.length : Int)) = true := decide_eq_true (by rw [hn.mpr (turnIff.mp ht).2, ltv])
        rw [this]
        exact k1 (.inr ⟨hprt, .inr ⟨hlen, .inr ht⟩⟩) _ e03
      · have : decide (V.int (n : Int) = V.int (tv.length : Int)) = false := decide_eq_false fun zz => ht (turnIff.mpr ⟨hallv, hn.mp (by
          have := V.int.inj zz
          omega)⟩)
        rw [this]
        exact no ht _ e03
    · exact no (fun ht => hnall (by rw [ltv, lzv, filt_all.mpr (turnIff.mp ht).1])) _ e03
theorem sc_l_good_maps : FnScope ["_law_kind", "_law_join_here", "_law_target", "_law_mapping"] ["_law_kind", "_law_join_here", "_law_target"] (defScope st_l_good_maps) := ⟨rfl, rfl, rfl, by decide +kernel, rfl, by decide +kernel, by decide +kernel⟩
-- slots: 0 _law_kind, 1 _law_join_here, 2 _law_target, 3 _law_mapping
theorem ok_l_good_maps (F : Def' K mg "_law_good_maps" st_l_good_maps) (B : Bt mg) (C_l_matchings : Cal P w K mg base 2 "_law_matchings" spLmt []) (C_l_fits : Cal P w K mg base 4 "_law_fits" spLfi []) : Cal P w K mg base 5 "_law_good_maps" spLgm [] := by
  refine cal_mk F sc_l_good_maps (fun _ _ _ _ _ _ us hl => match us, hl with | [_, _, _], _ => rfl) (fun vs H Q E h => ?_) (fun f cdv A outer s H vs Q E hr h => ?_)
  · obtain ⟨kind, x, y, j, o, rfl, _⟩ := h
    rfl
  · obtain ⟨kind, x, y, j, o, rfl, hk4, hx, hy, sj, so, k⟩ := h
    have nd := sc_l_good_maps.nd
    refine ⟨_, (pss_one (ps_ret (pe_lc (own := [("_law_mapping", 3)]) (g := (gName 3)) rfl nd (piL (K := K) rfl (pe_c C_l_matchings hr (by decide) rfl (pa_cons (pv 1) (pa_cons (pv 2) pa_nil)))) (blkOk_by (by kernel_rfl)) (fun _ _ _ _ _ => (pg_name (i := 3) nd rfl (.inl rfl))) (fun _ _ _ _ _ => (pts_one (pt_val (pe_c C_l_fits hr (by decide) rfl (pa_cons (pv 0) (pa_cons (pv 1) (pa_cons (pv 2) (pa_cons (pv 3) pa_nil)))))))) (fun _ _ _ _ _ => (pv 3))))), ?_⟩
    refine ⟨_, rfl, _, rfl, x, y, j, o, rfl, hx, hy, sj, so, fun ms hms lms sms M mv H1 e1 hM tM => ?_⟩
    refine ⟨M, rfl, ⟨_, SqL.of hM⟩, lc_l (l := ms) (ea := encMp) (f := encMp) (c := fun m => open Classical in decide (LOk kind (subB m j.2) o.2 m)) hM tM (by omega) (fun m hm v H2 e2 hv R Qy kN kY => ?_) (fun S sv H2 hS0 e2 hS tS => ?_)⟩
    · refine ⟨rfl, ?_⟩
      refine ⟨_, rfl, _, rfl, _, rfl, _, rfl, kind, x, y, v, j, o, m, rfl, hk4, hx.mono (Same.tx (e1.trans e2)), hy.mono (Same.tx (e1.trans e2)), hv, (hms.sound m hm).nd, sms m hm, sj, so, fun ok H3 e3 => ?_, fun nok H3 e3 => ?_⟩
      · exact ⟨_, rfl, iteT ⟨_, rfl, kY (by classical exact decide_eq_true ok) _ _ e3 (hv.mono (Same.tx e3))⟩⟩
      · exact ⟨_, rfl, iteF (kN (by classical exact decide_eq_false nok) _ e3)⟩
    · refine k _ ?_ (Nat.le_trans (List.length_filter_le _ _) lms) S sv H2 (none_same e1 hS0) (e1.trans e2) hS tS
      rw [List.filter_eq_nil_iff, kma_found hms]
      constructor
      · rintro h ⟨m, hm, hk⟩
        exact h m hm (by classical exact decide_eq_true hk)
      · intro h m hm hk
        exact h ⟨m, hm, by classical exact of_decide_eq_true hk⟩
theorem sc_l_entries : FnScope ["_law_kind", "_law_joins", "_law_join_here", "_law_found", "_law_k", "_law_mapping"] ["_law_kind", "_law_joins", "_law_join_here"] (defScope st_l_entries) := ⟨rfl, rfl, rfl, by decide +kernel, rfl, by decide +kernel, by decide +kernel⟩
-- slots: 0 _law_kind, 1 _law_joins, 2 _law_join_here, 3 _law_found, 4 _law_k, 5 _law_mapping
theorem ok_l_entries (F : Def' K mg "_law_entries" st_l_entries) (B : Bt mg) (C_l_good_maps : Cal P w K mg base 5 "_law_good_maps" spLgm []) : Cal P w K mg base 6 "_law_entries" spLes [] := by
  refine cal_mk F sc_l_entries (fun _ _ _ _ _ _ us hl => match us, hl with | [_, _, _], _ => rfl) (fun vs H Q E h => ?_) (fun f cdv A outer s H vs Q E hr h => ?_)
  · obtain ⟨kind, x, y, js, t, rfl, _⟩ := h
    rfl
  · obtain ⟨kind, x, y, js, t, rfl, hk4, hx, hy, ljs, sjs, st, k⟩ := h
    have nd := sc_l_entries.nd
    refine ⟨_, (pss_cons (ps_set (i := 3) nd rfl (.inl rfl) (peL pa_nil))
      (pss_cons (ps_for PassesOwn.never rfl (pi_range1 rfl B.range_ (pa_cons (pe_callB lenS rfl B.len_ bt_len (pa_cons (pv 1) pa_nil)) pa_nil)) (pg_name (i := 4) nd rfl (.inr rfl))
      (pss_one (ps_set (i := 3) nd rfl (.inl rfl) (pe_op catL (pv 3) (pe_lc (own := [("_law_mapping", 5)]) (g := (gName 5)) (tt := tYes) rfl nd (piL (K := K) rfl (pe_c C_l_good_maps hr (by decide) rfl (pa_cons (pv 0) (pa_cons (pe_ix ixT (pv 1) (pv 4) (fun _ _ => rfl)) (pa_cons (pv 2) pa_nil))))) (blkOk_by (by kernel_rfl)) (fun _ _ _ _ _ => (pg_name (i := 5) nd rfl (.inl rfl))) (fun _ _ _ _ _ => pts_nil) (fun _ _ _ _ _ => (peT (pa_cons (pv 4) (pa_cons (pv 5) pa_nil)))))))))
      (pss_one (ps_ret (pv 3))))), ?_⟩
    obtain ⟨xa, xv, rfl, hxa, hxv⟩ := hx.tupE
    have lxv : xv.length = js.length := by rw [hxv.length, List.length_map]
    refine ⟨sz0, fun D0 H0 hD0 e0 h0 => ?_⟩
    refine ⟨_, rfl, xa, xv, rfl, .inr (hxa.same e0), _, rfl, (rng_lo (by omega)).1, (rng_lo (by omega)).2, ?_⟩
    refine for_range (fun i σ H' => ∃ D dv es c4 c5, σ = [some (.str kind), some (.ref xa), some y, some (.ref D), c4, c5] ∧ Same H H' ∧ H' D = some (.lst dv) ∧ Tps H' dv (es.map encEn) ∧ (es = [] ↔ ∀ s ∈ js.take i, ¬ KMA kind s t) ∧ es.length ≤ 3125 * i)
      ⟨D0, [], [], _, _, rfl, e0, h0, .nil, ⟨fun _ s hs => by simp at hs, fun _ => rfl⟩, Nat.le_refl _⟩ (fun i σ H' hi hP => ?_) (fun σ H' hP => ?_)
    · rw [Int.toNat_natCast, lxv] at hi
      obtain ⟨D, dv, es, c4, c5, rfl, e, hD, tD, hes, les⟩ := hP
      obtain ⟨s, hs⟩ : ∃ s, js[i]? = some s := ⟨_, List.getElem?_eq_getElem hi⟩
      obtain ⟨sv, hsv, hsT⟩ := hxv.atM hs
      rw [Int.zero_add]
      have hsj := List.mem_of_getElem? hs
      refine ⟨_, rfl, _, rfl, _, rfl, _, rfl, xa, xv, _, _, rfl, rfl, hxa.same e, atI_nat hsv, _, rfl, kind, sv, y, s, t, rfl, hk4, hsT.mono (Same.tx e), hy.mono (Same.tx e), sjs s hsj, st, fun gs hgs lgs M mv H1 _ e1 hM tM => ?_⟩
      refine ⟨M, rfl, ⟨_, SqL.of hM⟩, lc_l (l := gs) (ea := encMp) (f := fun m => encEn ((i : Int), m)) (c := fun _ => true) hM tM (by omega) (fun m hm v H2 e2 hv R Qy _ kY => ?_) (fun S sv' H2 _ e2 hS tS => ?_)⟩
      · refine ⟨rfl, yesI ?_⟩
        exact ⟨_, rfl, _, rfl, sz2, fun U H3 _ e3 hU => kY rfl _ _ e3 (.tup hU (.cons (.int _) (.cons (hv.mono (Same.tx e3)) .nil)))⟩
      · rw [filter_yes] at tS
        have e12 := e1.trans e2
        have ldv : dv.length = es.length := by rw [tD.length, List.length_map]
        have lsv : sv'.length = gs.length := by rw [tS.length, List.length_map]
        refine ⟨D, S, dv, sv', rfl, rfl, e12 _ _ hD, hS, szl (by omega), fun O H3 _ e3 hO => ?_⟩
        refine ⟨O, _, es ++ gs.map (fun m => ((i : Int), m)), _, _, rfl, e.trans (e12.trans e3), hO, ?_, ?_, ?_⟩
        · rw [List.map_append, List.map_map]
          exact (tD.mono (Same.tx (e12.trans e3))).append (tS.mono (Same.tx e3))
        · rw [List.append_eq_nil_iff, List.map_eq_nil_iff, hes, hgs]
          constructor
          · rintro ⟨h1, h2⟩ s' hs'
            rcases mem_take hs hs' with zz | rfl
            · exact h1 s' zz
            · exact h2
          · intro h
            exact ⟨fun s' hs' => h s' (by rw [List.take_add_one, List.mem_append]; exact .inl hs'), h s (by rw [List.take_add_one, hs, List.mem_append]; exact .inr (by simp))⟩
        · rw [List.length_append, List.length_map]
          omega
    · rw [Int.toNat_natCast, lxv] at hP
      obtain ⟨D, dv, es, c4, c5, rfl, e, hD, tD, hes, les⟩ := hP
      rw [List.take_length] at hes
      exact ⟨_, rfl, k es hes (by omega) _ _ _ e hD tD⟩
theorem sc_l_half_of : FnScope ["_law_kind", "_law_question_here", "_law_other", "_law_found", "_law_join_here", "_law_entries_here"] ["_law_kind", "_law_question_here", "_law_other"] (defScope st_l_half_of) := ⟨rfl, rfl, rfl, by decide +kernel, rfl, by decide +kernel, by decide +kernel⟩
-- slots: 0 _law_kind, 1 _law_question_here, 2 _law_other, 3 _law_found, 4 _law_join_here, 5 _law_entries_here
theorem ok_l_half_of (F : Def' K mg "_law_half_of" st_l_half_of) (B : Bt mg) (C_l_entries : Cal P w K mg base 6 "_law_entries" spLes []) : Cal P w K mg base 7 "_law_half_of" spLho [] := by
  refine cal_mk F sc_l_half_of (fun _ _ _ _ _ _ us hl => match us, hl with | [_, _, _], _ => rfl) (fun vs H Q E h => ?_) (fun f cdv A outer s H vs Q E hr h => ?_)
  · obtain ⟨kind, x, y, n, n2, js1, js2, rfl, _⟩ := h
    rfl
  · obtain ⟨kind, x, y, n, n2, js1, js2, rfl, hk4, hx, hy, l1, l2, s1, s2, k1, k2⟩ := h
    have nd := sc_l_half_of.nd
    refine ⟨_, (pss_cons (ps_set (i := 3) nd rfl (.inl rfl) (peL pa_nil))
      (pss_cons (ps_for PassesOwn.never rfl (piT (K := K) rfl (pe_ix ixT (pv 1) pe_int (fun _ _ => rfl))) (pg_name (i := 4) nd rfl (.inl rfl))
      (pss_cons (ps_set (i := 5) nd rfl (.inl rfl) (pe_c C_l_entries hr (by decide) rfl (pa_cons (pv 0) (pa_cons (pe_ix ixT (pv 2) pe_int (fun _ _ => rfl)) (pa_cons (pv 4) pa_nil)))))
        (pss_cons (ps_if (pt_cmpR op_eq (pv 0) pe_str (nomark _))
        (pss_one (ps_set (i := 5) nd rfl (.inl rfl) (peL (pa_cons pe_never pa_nil))))
        pss_nil)
        (pss_cons (ps_if (PW.pt (pw_or (pt_cmpR op_eq (pe_callB lenS rfl B.len_ bt_len (pa_cons (pv 5) pa_nil)) pe_int (nomark _)) (pw_or1 (pt_cmpR op_isN (pe_ix ixL (pv 5) pe_int (fun _ _ => rfl)) pe_non (nomark _)))))
        (pss_one (ps_ret pe_non))
        pss_nil)
        (pss_one (ps_expr (peLM PySem.F.slot_list_append PySem.F.type_list_append mt_append (pv 3) (pa_cons (pe_ix ixL (pv 5) pe_int (fun _ _ => rfl)) pa_nil))))))))
      (pss_one (ps_ret (pe_callTy tupOf rfl B.tuple_ bt_tuple (pa_cons (pv 3) pa_nil)))))), ?_⟩
    obtain ⟨p, pb, xv, rfl, hp, hpb, hxv⟩ := qnE hx
    obtain ⟨q, qb, yv, rfl, hq, hqb, hyv⟩ := qnE hy
    have lxv : xv.length = js1.length := by rw [hxv.length, List.length_map]
    have hns : kind ≠ "sets" := by rcases hk4 with rfl | rfl | rfl | rfl <;> decide +kernel
    refine ⟨sz0, fun D H0 hD0 e0 h0 => ?_⟩
    refine ⟨_, rfl, p, _, 1, _, rfl, rfl, hp.same e0, rfl, pb, rfl, ⟨_, (hpb.same e0).seq⟩, ?_⟩
    refine for_tup (K := K) (xs := xv) (fun i σ H' => ∃ dv c4 c5, σ = [some (.str kind), some (.ref p), some (.ref q), some (.ref D), c4, c5] ∧ Same H H' ∧ H' D = some (.lst dv) ∧ dv.length = i ∧ ∀ t ∈ js1.take i, ∃ s ∈ js2, KMA kind s t)
      ⟨[], _, _, rfl, e0, h0, rfl, fun t ht => by simp at ht⟩ (fun i σ H' _ ⟨_, _, _, _, e, _⟩ => (hpb.same e).seq) (fun i v σ H' hi hP => ?_) (fun σ H' hP => ?_)
    · obtain ⟨dv, c4, c5, rfl, e, hD, ldv, hall⟩ := hP
      obtain ⟨t, ht, hv⟩ := hxv.getM hi
      have htj := List.mem_of_getElem? ht
      have hil : i < xv.length := (List.getElem?_eq_some_iff.mp hi).1
      refine ⟨_, rfl, _, rfl, q, _, 1, _, rfl, rfl, hq.same e, rfl, _, rfl, kind, .ref qb, v, js2, t, rfl, hk4, .tup (hqb.same e) (hyv.mono (Same.tx e)), hv.mono (Same.tx e), l2, s2, s1 t htj, fun es hes les M mv H1 e1 hM tM => ?_⟩
      have lmv : mv.length = es.length := by rw [tM.length, List.length_map]
      refine ⟨_, rfl, rfl, _, rfl, iteD (fun zz => absurd (V.str.inj zz) hns) (fun _ => ?_)⟩
      cases es with
      | nil =>
        refine ⟨_, rfl, M, mv, rfl, .inl hM, rfl, _, rfl, iteD (fun _ => ?_) (fun zz => absurd (by rw [lmv]; rfl) zz)⟩
        refine iteT ?_
        refine k2 (fun h => ?_) _ (e.trans e1)
        obtain ⟨s, hs, hk⟩ := h t htj
        exact hes.mp rfl s hs hk
      | cons en es =>
        obtain ⟨ev, hev, hT⟩ := tM.atM (i := 0) (x := en) rfl
        obtain ⟨ea, eva, rfl, _, _⟩ := hT.tupE
        have lmv' : mv.length = es.length + 1 := by rw [lmv]; rfl
        refine ⟨_, rfl, M, mv, rfl, .inl hM, rfl, _, rfl, iteD (fun zz => absurd (V.int.inj zz) (by omega)) (fun _ => ?_)⟩
        refine ⟨_, rfl, M, mv, 0, _, rfl, rfl, hM, atI_nat (i := 0) hev, rfl, _, rfl, ?_⟩
        refine iteD (fun zz => by cases zz) (fun _ => ?_)
        have hD1 := e1 _ _ hD
        refine ⟨_, rfl, ⟨D, dv, rfl, hD1⟩, _, rfl, M, mv, 0, _, rfl, rfl, hM, atI_nat (i := 0) hev, D, dv, _, rfl, rfl, hD1, szt (by omega), ?_⟩
        refine ⟨_, _, _, rfl, same_mut (e.trans e1) hD0, upd_same, by rw [List.length_append, ldv]; rfl, fun t' ht' => ?_⟩
        rcases mem_take ht ht' with zz | rfl
        · exact hall t' zz
        · rcases Classical.em (∃ s ∈ js2, KMA kind s t') with h | h
          · exact h
          · have := hes.mpr fun s hs hk => h ⟨s, hs, hk⟩
            cases this
    · obtain ⟨dv, c4, c5, rfl, e, hD, ldv, hall⟩ := hP
      rw [lxv, List.take_length] at hall
      exact ⟨_, rfl, D, dv, rfl, hD, fun U H2 _ e2 hU => k1 hall _ _ (e.trans e2)⟩
end
end Aw

/-! B5: the law's paper. -/
namespace Aw
open PySem PySem.Spec PyProof.Rows L2
open C8 (Cal pe_c)
/-! ### the greedy pairing -/
noncomputable def pickB (R : Nat → Nat → Prop) (us : List Nat) (i k : Nat) : Bool := open Classical in decide (k ∉ us ∧ R i k)
noncomputable def pick (R : Nat → Nat → Prop) (n2 : Nat) (us : List Nat) (i : Nat) : Option Nat := (List.range n2).find? (pickB R us i)
noncomputable def usedL (R : Nat → Nat → Prop) (n2 : Nat) : Nat → List Nat
  | 0 => []
  | i + 1 => match pick R n2 (usedL R n2 i) i with
    | some k => usedL R n2 i ++ [k]
    | none => usedL R n2 i
theorem pickB_true {R : Nat → Nat → Prop} {us : List Nat} {i k : Nat} : pickB R us i k = true ↔ k ∉ us ∧ R i k := by
  unfold pickB
  classical exact decide_eq_true_iff
theorem pickB_false {R : Nat → Nat → Prop} {us : List Nat} {i k : Nat} : pickB R us i k = false ↔ ¬ (k ∉ us ∧ R i k) := by
  unfold pickB
  classical exact decide_eq_false_iff_not
theorem find_rng (p : Nat → Bool) {n k : Nat} (h : k < n) (hk : p k = true) (hb : ∀ k', k' < k → p k' = false) : (List.range n).find? p = some k := by
  rw [List.find?_eq_some_iff_append]
  refine ⟨hk, List.range k, (List.range' (k + 1) (n - (k + 1))), ?_, fun a ha => ?_⟩
  · have h1 : List.range n = List.range' 0 n := List.range_eq_range'
    have h2 : List.range k = List.range' 0 k := List.range_eq_range'
    rw [h1, h2]
    have h3 : n = k + (1 + (n - (k + 1))) := by omega
    conv => lhs; rw [h3]
    rw [← List.range'_append_1, Nat.zero_add]
    congr 1
    rw [Nat.add_comm 1, List.range'_succ]
  · rw [hb a (List.mem_range.mp ha)]
    rfl
theorem find_rng_none (p : Nat → Bool) {n : Nat} (hb : ∀ k', k' < n → p k' = false) : (List.range n).find? p = none := by
  rw [List.find?_eq_none]
  intro k hk
  rw [hb k (List.mem_range.mp hk)]
  exact Bool.false_ne_true
theorem used_yes {R : Nat → Nat → Prop} {n2 i k : Nat} (h : k < n2) (hk : k ∉ usedL R n2 i ∧ R i k) (hb : ∀ k', k' < k → ¬ (k' ∉ usedL R n2 i ∧ R i k')) : usedL R n2 (i + 1) = usedL R n2 i ++ [k] := by
  have : pick R n2 (usedL R n2 i) i = some k := find_rng _ h (pickB_true.mpr hk) fun k' h' => pickB_false.mpr (hb k' h')
  show (match pick R n2 (usedL R n2 i) i with | some k => usedL R n2 i ++ [k] | none => usedL R n2 i) = _
  rw [this]
theorem used_no {R : Nat → Nat → Prop} {n2 i : Nat} (hb : ∀ k', k' < n2 → ¬ (k' ∉ usedL R n2 i ∧ R i k')) : usedL R n2 (i + 1) = usedL R n2 i := by
  have : pick R n2 (usedL R n2 i) i = none := find_rng_none _ fun k' h' => pickB_false.mpr (hb k' h')
  show (match pick R n2 (usedL R n2 i) i with | some k => usedL R n2 i ++ [k] | none => usedL R n2 i) = _
  rw [this]
def RA (js1 js2 : List Jn) (i k : Nat) : Prop := ∃ s t, js1[i]? = some s ∧ js2[k]? = some t ∧ KMA "all" s t
def FullP (js1 js2 : List Jn) : Prop := (usedL (RA js1 js2) js2.length js1.length).length = js1.length ∧ (usedL (RA js1 js2) js2.length js1.length).length = js2.length
def CovB (kind : Str) (js1 js2 : List Jn) : Prop := (∀ t ∈ js1, ∃ s ∈ js2, KMA kind s t) ∧ ∀ t ∈ js2, ∃ s ∈ js1, KMA kind s t
def PapOk (kind : Str) (js1 js2 : List Jn) : Prop := (kind = "all" ∧ FullP js1 js2) ∨ (kind ≠ "all" ∧ CovB kind js1 js2)
def spLpa : Sp := fun vs H Q _ => ∃ (kind : Str) (x y : V) (n n2 : Int) (js1 js2 : List Jn), vs = [.str kind, x, y] ∧ kind4 kind ∧ Tp H x (encQn (n, js1)) ∧ Tp H y (encQn (n2, js2)) ∧ js1.length ≤ 20 ∧ js2.length ≤ 20 ∧ (∀ s ∈ js1, Sm s) ∧ (∀ s ∈ js2, Sm s) ∧
  (PapOk kind js1 js2 → ∀ p H', Same H H' → Q (.ref p) H') ∧ (¬ PapOk kind js1 js2 → ∀ H', Same H H' → Q .non H')
def nV (n : Nat) : V := .int (n : Int)
theorem inV_nat (k : Nat) : ∀ us : List Nat, inV (.int (k : Int)) (us.map nV) = decide (k ∈ us)
  | [] => by simp [inV]
  | u :: us => by
    have ih := inV_nat k us
    unfold inV at *
    rw [List.map_cons, List.any_cons, ih]
    have : eqV (.int (u : Int)) (.int (k : Int)) = decide (u = k) := by
      show ((u : Int) == (k : Int)) = decide (u = k)
      by_cases h : u = k
      · simp [h]
      · rw [decide_eq_false h]
        exact beq_eq_false_iff_ne.mpr fun z => h (Int.ofNat_inj.mp z)
    rw [show nV u = V.int (u : Int) from rfl, this]
    by_cases h : u = k
    · simp [h]
    · have h' : ¬ k = u := fun z => h z.symm
      simp [h, h']
theorem flat_ints (us : List Nat) : (us.map nV).all flatV = true := by
  rw [List.all_eq_true]
  intro v hv
  obtain ⟨n, _, rfl⟩ := List.mem_map.mp hv
  rfl
section
variable {P : Program} {w : World} {K : PySem.W.Frag} {mg : Str → Option Value} {base : Heap}
theorem sc_l_paper : FnScope ["_law_kind", "_law_question_here", "_law_other", "_law_halves", "_law_found", "_law_used", "_law_join_here", "_law_k", "_law_maps"] ["_law_kind", "_law_question_here", "_law_other"] (defScope st_l_paper) := ⟨rfl, rfl, rfl, by decide +kernel, rfl, by decide +kernel, by decide +kernel⟩
-- slots: 0 _law_kind, 1 _law_question_here, 2 _law_other, 3 _law_halves, 4 _law_found, 5 _law_used, 6 _law_join_here, 7 _law_k, 8 _law_maps
theorem ok_l_paper (F : Def' K mg "_law_paper" st_l_paper) (B : Bt mg) (C_l_good_maps : Cal P w K mg base 5 "_law_good_maps" spLgm []) (C_l_half_of : Cal P w K mg base 7 "_law_half_of" spLho []) : Cal P w K mg base 8 "_law_paper" spLpa [] := by
  refine cal_mk F sc_l_paper (fun _ _ _ _ _ _ us hl => match us, hl with | [_, _, _], _ => rfl) (fun vs H Q E h => ?_) (fun f cdv A outer s H vs Q E hr h => ?_)
  · obtain ⟨kind, x, y, n, n2, js1, js2, rfl, _⟩ := h
    rfl
  · obtain ⟨kind, x, y, n, n2, js1, js2, rfl, hk4, hx, hy, l1, l2, s1, s2, k1, k2⟩ := h
    have nd := sc_l_paper.nd
    refine ⟨_, (pss_cons (ps_if (pt_cmpR op_ne (pv 0) pe_str (nomark _))
      (pss_cons (ps_set (i := 3) nd rfl (.inl rfl) (peT (pa_cons (pe_c C_l_half_of hr (by decide) rfl (pa_cons (pv 0) (pa_cons (pv 1) (pa_cons (pv 2) pa_nil)))) (pa_cons (pe_c C_l_half_of hr (by decide) rfl (pa_cons (pv 0) (pa_cons (pv 2) (pa_cons (pv 1) pa_nil)))) pa_nil))))
        (pss_cons (ps_if (PW.pt (pw_or (pt_cmpR op_isN (pe_ix ixT (pv 3) pe_int (fun _ _ => rfl)) pe_non (nomark _)) (pw_or1 (pt_cmpR op_isN (pe_ix ixT (pv 3) pe_int (fun _ _ => rfl)) pe_non (nomark _)))))
        (pss_one (ps_ret pe_non))
        pss_nil)
        (pss_one (ps_ret (pv 3)))))
      pss_nil)
      (pss_cons (ps_set (i := 4) nd rfl (.inl rfl) (peL pa_nil))
      (pss_cons (ps_set (i := 5) nd rfl (.inl rfl) (peL pa_nil))
      (pss_cons (ps_for PassesOwn.never rfl (piT (K := K) rfl (pe_ix ixT (pv 1) pe_int (fun _ _ => rfl))) (pg_name (i := 6) nd rfl (.inl rfl))
      (pss_one (ps_for PassesOwn.never rfl (pi_range1 rfl B.range_ (pa_cons (pe_callB lenS rfl B.len_ bt_len (pa_cons (pe_ix ixT (pv 2) pe_int (fun _ _ => rfl)) pa_nil)) pa_nil)) (pg_name (i := 7) nd rfl (.inl rfl))
        (pss_cons (ps_set (i := 8) nd rfl (.inl rfl) (pe_c C_l_good_maps hr (by decide) rfl (pa_cons pe_str (pa_cons (pv 6) (pa_cons (pe_ix ixT (pe_ix ixT (pv 2) pe_int (fun _ _ => rfl)) (pv 7) (fun _ _ => rfl)) pa_nil)))))
          (pss_one (ps_if (PW.pt (pw_and (pt_cmpR notInS (pv 7) (pv 5) rfl) (pw_and1 (pt_cmpR op_gt (pe_callB lenS rfl B.len_ bt_len (pa_cons (pv 8) pa_nil)) pe_int (nomark _)))))
          (pss_cons (ps_expr (peLM PySem.F.slot_list_append PySem.F.type_list_append mt_append (pv 5) (pa_cons (pv 7) pa_nil)))
            (pss_cons (ps_expr (peLM PySem.F.slot_list_append PySem.F.type_list_append mt_append (pv 4) (pa_cons (peT (pa_cons (pv 7) (pa_cons (pe_ix ixL (pv 8) pe_int (fun _ _ => rfl)) pa_nil))) pa_nil)))
            (pss_one ps_break)))
          pss_nil))))))
      (pss_cons (ps_if (PW.pt (pw_or (pt_cmpR op_ne (pe_callB lenS rfl B.len_ bt_len (pa_cons (pv 4) pa_nil)) (pe_callB lenS rfl B.len_ bt_len (pa_cons (pe_ix ixT (pv 1) pe_int (fun _ _ => rfl)) pa_nil)) (nomark _)) (pw_or1 (pt_cmpR op_ne (pe_callB lenS rfl B.len_ bt_len (pa_cons (pv 4) pa_nil)) (pe_callB lenS rfl B.len_ bt_len (pa_cons (pe_ix ixT (pv 2) pe_int (fun _ _ => rfl)) pa_nil)) (nomark _)))))
      (pss_one (ps_ret pe_non))
      pss_nil)
      (pss_one (ps_ret (pe_callTy tupOf rfl B.tuple_ bt_tuple (pa_cons (pv 4) pa_nil))))))))), ?_⟩
    refine ⟨_, rfl, rfl, _, rfl, iteN (fun hne => ?_) (fun heq => ?_)⟩
    · have hne : kind ≠ "all" := fun zz => hne (congrArg V.str zz)
      have kno : ∀ {A : Prop}, kind = "all" ∧ A → False := fun h => hne h.1
      refine ⟨_, rfl, _, rfl, _, rfl, kind, x, y, n, n2, js1, js2, rfl, hk4, hx, hy, l1, l2, s1, s2, fun h1 p1 H1 e1 => ?_, fun h1 H1 e1 => ?_⟩
      · refine ⟨_, rfl, _, rfl, _, rfl, kind, y, x, n2, n, js2, js1, rfl, hk4, hy.mono (Same.tx e1), hx.mono (Same.tx e1), l2, l1, s2, s1, fun h2 p2 H2 e2 => ⟨sz2, fun U H3 _ e3 hU => ?_⟩, fun h2 H2 e2 => ⟨sz2, fun U H3 _ e3 hU => ?_⟩⟩
        · refine ⟨_, rfl, U, _, 0, _, rfl, rfl, hU, rfl, rfl, _, rfl, iteD (fun zz => by cases zz) (fun _ => ?_)⟩
          refine ⟨_, rfl, U, _, 1, _, rfl, rfl, hU, rfl, rfl, _, rfl, iteD (fun zz => by cases zz) (fun _ => ?_)⟩
          exact ⟨_, rfl, k1 (.inr ⟨hne, h1, h2⟩) _ _ (e1.trans (e2.trans e3))⟩
        · refine ⟨_, rfl, U, _, 0, _, rfl, rfl, hU, rfl, rfl, _, rfl, iteD (fun zz => by cases zz) (fun _ => ?_)⟩
          refine ⟨_, rfl, U, _, 1, _, rfl, rfl, hU, rfl, rfl, _, rfl, iteD (fun _ => ?_) (fun zz => absurd rfl zz)⟩
          exact k2 (fun h => h.elim kno fun h => h2 h.2.2) _ (e1.trans (e2.trans e3))
      · have no := k2 (fun h => h.elim kno fun h => h1 h.2.1)
        refine ⟨_, rfl, _, rfl, _, rfl, kind, y, x, n2, n, js2, js1, rfl, hk4, hy.mono (Same.tx e1), hx.mono (Same.tx e1), l2, l1, s2, s1, fun h2 p2 H2 e2 => ⟨sz2, fun U H3 _ e3 hU => ?_⟩, fun h2 H2 e2 => ⟨sz2, fun U H3 _ e3 hU => ?_⟩⟩
        · refine ⟨_, rfl, U, _, 0, _, rfl, rfl, hU, rfl, rfl, _, rfl, iteD (fun _ => ?_) (fun zz => absurd rfl zz)⟩
          exact no _ (e1.trans (e2.trans e3))
        · refine ⟨_, rfl, U, _, 0, _, rfl, rfl, hU, rfl, rfl, _, rfl, iteD (fun _ => ?_) (fun zz => absurd rfl zz)⟩
          exact no _ (e1.trans (e2.trans e3))
    have heq : kind = "all" := V.str.inj heq
    subst heq
    obtain ⟨p, pb, xv, rfl, hp, hpb, hxv⟩ := qnE hx
    obtain ⟨q, qb, yv, rfl, hq, hqb, hyv⟩ := qnE hy
    have lxv : xv.length = js1.length := by rw [hxv.length, List.length_map]
    have lyv : yv.length = js2.length := by rw [hyv.length, List.length_map]
    refine ⟨sz0, fun F H0 hF0 e0 hF => ?_⟩
    refine ⟨sz0, fun U H1 hU0 e1 hU => ?_⟩
    have e01 := e0.trans e1
    have hU0' : H U = none := none_same e0 hU0
    have F_U : F ≠ U := ne_of_none hF hU0
    refine ⟨_, rfl, p, _, 1, _, rfl, rfl, hp.same e01, rfl, pb, rfl, ⟨_, (hpb.same e01).seq⟩, ?_⟩
    refine for_tup (K := K) (xs := xv) (fun i σ H' => ∃ fv c6 c7 c8, σ = [some (.str "all"), some (.ref p), some (.ref q), none, some (.ref F), some (.ref U), c6, c7, c8] ∧ Same H H' ∧ H' F = some (.lst fv) ∧ H' U = some (.lst ((usedL (RA js1 js2) js2.length i).map nV)) ∧ fv.length = (usedL (RA js1 js2) js2.length i).length ∧ fv.length ≤ i)
      ⟨[], _, _, _, rfl, e01, e1 _ _ hF, hU, rfl, Nat.le_refl _⟩ (fun i σ H' _ ⟨_, _, _, _, _, e, _⟩ => (hpb.same e).seq) (fun i v σ H' hi hP => ?_) (fun σ H' hP => ?_)
    · obtain ⟨fv, c6, c7, c8, rfl, e, hF, hU, lfv, lfi⟩ := hP
      obtain ⟨s, hs, hv⟩ := hxv.getM hi
      have hsj := List.mem_of_getElem? hs
      have hil : i < xv.length := (List.getElem?_eq_some_iff.mp hi).1
      generalize hus : usedL (RA js1 js2) js2.length i = us at hU lfv
      refine ⟨_, rfl, q, _, 1, _, rfl, rfl, hq.same e, rfl, qb, yv, rfl, .inr (hqb.same e), _, rfl, (rng_lo (by omega)).1, (rng_lo (by omega)).2, ?_⟩
      refine for_range (fun k σ H'' => ∃ c7 c8, σ = [some (.str "all"), some (.ref p), some (.ref q), none, some (.ref F), some (.ref U), some v, c7, c8] ∧ Same H' H'' ∧ ∀ k', k' < k → ¬ (k' ∉ us ∧ RA js1 js2 i k'))
        ⟨_, _, rfl, Same.refl _, fun k' h' => absurd h' (Nat.not_lt_zero _)⟩ (fun k σ H2 hk hP => ?_) (fun σ H2 hP => ?_)
      · rw [Int.toNat_natCast, lyv] at hk
        obtain ⟨c7, c8, rfl, e2, hno⟩ := hP
        obtain ⟨t, ht⟩ : ∃ t, js2[k]? = some t := ⟨_, List.getElem?_eq_getElem hk⟩
        obtain ⟨tv, htv, hT⟩ := hyv.atM ht
        have htj := List.mem_of_getElem? ht
        have e02 := e.trans e2
        rw [Int.zero_add]
        refine ⟨_, rfl, _, rfl, q, _, 1, _, rfl, rfl, hq.same e02, rfl, _, rfl, qb, yv, _, _, rfl, rfl, hqb.same e02, atI_nat htv, "all", v, tv, s, t, rfl, hk4, hv.mono (Same.tx e02), hT.mono (Same.tx e02), s1 s hsj, s2 t htj, fun gs hgs lgs M mv H3 hM0 e3 hM tM => ?_⟩
        have lmv : mv.length = gs.length := by rw [tM.length, List.length_map]
        have hF3 := (e2.trans e3) _ _ hF
        have hU3 := (e2.trans e3) _ _ hU
        have hRA : RA js1 js2 i k ↔ KMA "all" s t := ⟨fun ⟨s', t', h1, h2, h3⟩ => by
          rw [hs] at h1
          rw [ht] at h2
          cases h1
          cases h2
          exact h3, fun h => ⟨s, t, hs, ht, h⟩⟩
        have hin := inV_nat k us
        refine ⟨_, rfl, _, rfl, U, _, rfl, .inl hU3, rfl, flat_ints us, _, rfl, ?_⟩
        by_cases hku : k ∈ us
        · rw [decide_eq_true hku] at hin
          refine ifF (by rw [hin]; rfl) ?_
          refine iteF ?_
          refine ⟨_, _, rfl, e2.trans e3, fun k' h' => ?_⟩
          rcases Nat.lt_or_ge k' k with zz | zz
          · exact hno k' zz
          · have : k' = k := by omega
            rw [this]
            exact fun h => h.1 hku
        · rw [decide_eq_false hku] at hin
          refine ifT (by rw [hin]; rfl) ?_
          cases gs with
          | nil =>
            refine ⟨_, rfl, M, mv, rfl, .inl hM, _, _, rfl, rfl, _, rfl, iteD (fun zz => absurd zz (by rw [lmv]; decide)) (fun _ => ?_)⟩
            refine ⟨_, _, rfl, e2.trans e3, fun k' h' => ?_⟩
            rcases Nat.lt_or_ge k' k with zz | zz
            · exact hno k' zz
            · have : k' = k := by omega
              rw [this]
              exact fun h => hgs.mp rfl (hRA.mp h.2)
          | cons g0 gs =>
            have lmv' : mv.length = gs.length + 1 := by rw [lmv]; rfl
            obtain ⟨gv, hgv, _⟩ := tM.atM (i := 0) (x := g0) rfl
            have hR : RA js1 js2 i k := hRA.mpr (by
              rcases Classical.em (KMA "all" s t) with h | h
              · exact h
              · have := hgs.mpr h
                cases this)
            have hnew : usedL (RA js1 js2) js2.length (i + 1) = us ++ [k] := by
              rw [← hus]
              exact used_yes hk (by rw [hus]; exact ⟨hku, hR⟩) (by rw [hus]; exact hno)
            have lus : us.length ≤ 20 := by omega
            refine ⟨_, rfl, M, mv, rfl, .inl hM, _, _, rfl, rfl, _, rfl, iteD (fun _ => ?_) (fun zz => absurd (by rw [lmv']; omega) zz)⟩
            refine ⟨_, rfl, ⟨U, _, rfl, hU3⟩, _, rfl, U, _, _, rfl, rfl, hU3, szt (by rw [List.length_map]; omega), ?_⟩
            have hF4 : (upd H3 U (.lst ((us.map nV) ++ [V.int (k : Int)]))) F = some (.lst fv) := by rw [upd_ne F_U]; exact hF3
            have eU : Same H (upd H3 U (.lst ((us.map nV) ++ [V.int (k : Int)]))) := same_mut (e02.trans e3) hU0'
            have M_U : M ≠ U := fun zz => ne_of_none (e2 _ _ hU) hM0 zz.symm
            refine ⟨_, rfl, ⟨F, fv, rfl, hF4⟩, _, rfl, _, rfl, M, mv, 0, _, rfl, rfl, by rw [upd_ne M_U]; exact hM, atI_nat (i := 0) hgv, sz2, fun W H5 _ e5 hW => ?_⟩
            have hF5 := e5 _ _ hF4
            refine ⟨F, fv, _, rfl, rfl, hF5, szt (by omega), ?_⟩
            refine ⟨_, _, _, _, rfl, same_mut (eU.trans e5) hF0, upd_same, ?_, ?_, ?_⟩
            · rw [upd_ne F_U.symm, hnew, List.map_append]
              exact e5 _ _ upd_same
            · rw [List.length_append, hnew, List.length_append, lfv]
              rfl
            · rw [List.length_append, List.length_singleton]
              omega
      · rw [Int.toNat_natCast, lyv] at hP
        obtain ⟨c7, c8, rfl, e2, hno⟩ := hP
        have hnew : usedL (RA js1 js2) js2.length (i + 1) = us := by
          rw [← hus]
          exact used_no (by rw [hus]; exact hno)
        refine ⟨fv, _, _, _, rfl, e.trans e2, e2 _ _ hF, by rw [hnew]; exact e2 _ _ hU, by rw [hnew]; exact lfv, by omega⟩
    · obtain ⟨fv, c6, c7, c8, rfl, e, hF, hU, lfv, lfi⟩ := hP
      rw [lxv] at lfv
      have no : ¬ FullP js1 js2 → Q .non H' := fun h => k2 (fun zz => zz.elim (fun zz => h zz.2) fun zz => zz.1 rfl) _ e
      refine ⟨_, rfl, F, fv, rfl, .inl hF, _, rfl, p, _, 1, _, rfl, rfl, hp.same e, rfl, pb, xv, rfl, .inr (hpb.same e), rfl, _, rfl, iteN (fun hne => ?_) (fun heq => ?_)⟩
      · exact iteT (no fun h => hne (by rw [lfv, h.1, lxv]))
      · refine ⟨_, rfl, F, fv, rfl, .inl hF, _, rfl, q, _, 1, _, rfl, rfl, hq.same e, rfl, qb, yv, rfl, .inr (hqb.same e), rfl, _, rfl, iteN (fun hne => ?_) (fun heq2 => ?_)⟩
        · exact no fun h => hne (by rw [lfv, h.2, lyv])
        · have a1 := V.int.inj heq
          have a2 := V.int.inj heq2
          refine ⟨_, rfl, F, fv, rfl, hF, fun W H2 _ e2 hW => ?_⟩
          exact k1 (.inl ⟨rfl, by omega, by omega⟩) _ _ (e.trans e2)
end
end Aw

/-! B6: the law's looks at shapes. -/
namespace Aw
open PySem PySem.Spec PyProof.Rows L2
open C8 (Cal pe_c)
/-! ### what is drawn -/
def letters : Str := "abcdefghijklmnopqrstuvwxyz"
/-- a word of letters -/
def Wd (s : Str) : Prop := okS s ∧ s ≠ ("" : Str) ∧ ∀ c ∈ s.cps.toList, c ∈ letters.cps.toList
def VT : Tm → Prop
  | .var s => Wd s
  | .val (.inl _) => True
  | .val (.inr s) => Wd s
theorem VT.ok {t : Tm} (h : VT t) : t.ok := by
  cases t with
  | var s => exact h.1
  | val k => cases k with
    | inl i => trivial
    | inr s => exact h.1
/-- a join as drawn: head of n terms, at most m atoms of at most k terms -/
structure VJ (n m k : Nat) (j : Jn) : Prop where
  hl : j.1.length = n
  ht : ∀ t ∈ j.1, VT t
  bl : j.2.length ≤ m
  at_ : ∀ a ∈ j.2, Wd a.1 ∧ (∀ t ∈ a.2, VT t) ∧ a.2.length ≤ k
  hb : ∀ s, Tm.var s ∈ j.1 → bocc s j
theorem VJ.le {n m k m' k' : Nat} {j : Jn} (h : VJ n m k j) (h1 : m ≤ m') (h2 : k ≤ k') : VJ n m' k' j := ⟨h.hl, h.ht, Nat.le_trans h.bl h1, fun a ha => ⟨(h.at_ a ha).1, (h.at_ a ha).2.1, Nat.le_trans (h.at_ a ha).2.2 h2⟩, h.hb⟩
theorem inV_str (s : Str) : ∀ us : List Str, inV (.str s) (us.map V.str) = decide (s ∈ us)
  | [] => by simp [inV]
  | u :: us => by
    have ih := inV_str s us
    unfold inV at *
    rw [List.map_cons, List.any_cons, ih]
    have : eqV (.str u) (.str s) = decide (u = s) := by
      show (u == s) = decide (u = s)
      by_cases h : u = s
      · simp [h]
      · rw [decide_eq_false h]
        exact beq_eq_false_iff_ne.mpr h
    rw [this]
    by_cases h : u = s
    · simp [h]
    · have h' : ¬ s = u := fun z => h z.symm
      simp [h, h']
theorem flat_strs (us : List Str) : (us.map V.str).all flatV = true := by
  rw [List.all_eq_true]
  intro v hv
  obtain ⟨n, _, rfl⟩ := List.mem_map.mp hv
  rfl
theorem flat_bls (us : List Bool) : (us.map V.bl).all flatV = true := by
  rw [List.all_eq_true]
  intro v hv
  obtain ⟨n, _, rfl⟩ := List.mem_map.mp hv
  rfl
theorem inV_trues {α : Type} : ∀ l : List α, inV (.bl false) (l.map fun _ => V.bl true) = false
  | [] => rfl
  | x :: l => by
    have ih := inV_trues l
    unfold inV at *
    rw [List.map_cons, List.any_cons, ih]
    rfl
theorem flat_trues {α : Type} (l : List α) : (l.map fun _ => V.bl true).all flatV = true := by
  rw [List.all_eq_true]
  intro v hv
  obtain ⟨n, _, rfl⟩ := List.mem_map.mp hv
  rfl
/-- [.. for sign in text if ..], where no sign passes -/
theorem lc_strNo {z : Str} {g : TG} {tt : TT} {te : TE} {vs : List Nat} {σ : L2.St} {H : Hp} {Q : Addr → Hp → Prop}
    (step : ∀ c, c ∈ z.cps.toList → ∀ H', Same H H' → ∀ (R : Hp → Prop) (Qy : V → Hp → Prop), (∀ H2, Same H' H2 → R H2) →
      g (.str ⟨#[c]⟩) (wipe σ vs) H' fun σ2 H2 => wipe σ2 vs = wipe σ vs ∧ tt σ2 H2 fun b H3 => if b = true then te σ2 H3 Qy else R H3)
    (k : ∀ p H', H p = none → Same H H' → H' p = some (.lst []) → Q p H') :
    ∀ D, H D = none → ∃ W : Nat → Nat → Hp → Prop, (∃ m, W 0 m (upd H D (.lst []))) ∧ ∀ i m H', W i m H' →
      ((Its z).stop i H' ∧ Q D H') ∨ ((Its z).go i H' ∧ ∃ Nx : Hp → Prop, (∀ H2, Nx H2 → ∃ m', m' < m ∧ W (i + 1) m' H2) ∧ ∀ x H2, (Its z).yld i H' x H2 → g x (wipe σ vs) H2 fun σ2 H2 => wipe σ2 vs = wipe σ vs ∧ tt σ2 H2 fun b H3 =>
        if b = true then te σ2 H3 fun y H4 => ∃ acc, H4 D = some (.lst acc) ∧ acc.length < sizeLine ∧ Nx (upd H4 D (.lst (acc ++ [y]))) else Nx H3) := fun D hD => by
  refine ⟨fun i m H' => m = z.cps.size - i ∧ i ≤ z.cps.size ∧ Same H H' ∧ H' D = some (.lst []), ⟨_, rfl, Nat.zero_le _, same_new hD, upd_same⟩, ?_⟩
  rintro i m H' ⟨rfl, hi, e, hDD⟩
  by_cases hlt : i < z.cps.size
  · refine .inr ⟨hlt, fun H2 => Same H H2 ∧ H2 D = some (.lst []), fun H2 h2 => ⟨z.cps.size - (i + 1), by omega, rfl, hlt, h2⟩, fun x H2 y => ?_⟩
    obtain ⟨rfl, c, hc, rfl⟩ := y
    have hm : c ∈ z.cps.toList := by
      rw [Array.getElem?_eq_getElem hlt] at hc
      cases hc
      exact Array.getElem_mem_toList hlt
    exact step c hm H2 e _ _ fun H3 e3 => ⟨e.trans e3, e3 _ _ hDD⟩
  · exact .inl ⟨Nat.le_of_not_lt hlt, k _ _ hD e hDD⟩
theorem kitN {a b : String} {r : Bool} (h : kitB a b = some r) : kitB a b = some r := h
theorem k_tt : kitB "tuple" "tuple" = some true := by decide +kernel
theorem k_it : kitB "int" "tuple" = some false := by decide +kernel
theorem k_il : kitB "int" "list" = some false := by decide +kernel
theorem k_ib : kitB "int" "bool" = some false := by decide +kernel
theorem k_ii : kitB "int" "int" = some true := by decide +kernel
theorem k_is : kitB "int" "str" = some false := by decide +kernel
theorem k_ss : kitB "str" "str" = some true := by decide +kernel
theorem orF {A : Prop} {B : Prop} (h : B) : if false = true then A else B := iteF h
def tru : T → Prop := fun _ => True
/-! ### promises -/
def spLsa : Sp := fun vs H Q _ => ∃ i : Int, vs = [.int i, .int i] ∧ ∀ H', Same H H' → Q (.bl true) H'
def spLit : Sp := fun vs H Q _ => ∃ (x : V) (t : Tm), vs = [x] ∧ Tp H x (encTm t) ∧ VT t ∧ ∀ H', Same H H' → Q (.bl true) H'
def spLat : Sp := fun vs H Q _ => ∃ (x : V) (ts : List Tm), vs = [x] ∧ Tp H x (tms ts) ∧ ts.length ≤ 1000 ∧ (∀ t ∈ ts, VT t) ∧ ∀ H', Same H H' → Q (.bl true) H'
def spLij : Sp := fun vs H Q _ => ∃ (x : V) (n : Nat) (j : Jn), vs = [x, .int (n : Int)] ∧ Tp H x (encJn j) ∧ n ≤ 8 ∧ VJ n 8 8 j ∧ ∀ H', Same H H' → Q (.bl true) H'
def spLiq : Sp := fun vs H Q _ => ∃ (x : V) (n : Nat) (js : List Jn), vs = [x, .int (n : Int)] ∧ Tp H x (encQn ((n : Int), js)) ∧ n ≤ 8 ∧ js.length ≤ 12 ∧ (∀ j ∈ js, VJ n 8 8 j) ∧ ∀ H', Same H H' → Q (.bl true) H'
section
variable {P : Program} {w : World} {K : PySem.W.Frag} {mg : Str → Option Value} {base : Heap}
theorem sc_l_same : FnScope ["_law_actual", "_law_due", "_law_k"] ["_law_actual", "_law_due"] (defScope st_l_same) := ⟨rfl, rfl, rfl, by decide +kernel, rfl, by decide +kernel, by decide +kernel⟩
-- slots: 0 _law_actual, 1 _law_due, 2 _law_k
theorem ok_l_same (F : Def' K mg "_law_same" st_l_same) (B : Bt mg) : Cal P w K mg base 1 "_law_same" spLsa [] := by
  refine cal_mk F sc_l_same (fun _ _ _ _ _ _ us hl => match us, hl with | [_, _], _ => rfl) (fun vs H Q E h => ?_) (fun f cdv A outer s H vs Q E hr h => ?_)
  · obtain ⟨i, rfl, _⟩ := h
    rfl
  · obtain ⟨i, rfl, k⟩ := h
    have nd := sc_l_same.nd
    refine ⟨_, (pss_cons (ps_if (pt_val (pe_callB isiT rfl B.isinstance_ bt_isinstance (pa_cons (pv 1) (pa_cons (pe_tup (pa_cons (pe_bltn (v := .ty "tuple") rfl B.tuple_ bt_tuple rfl) (pa_cons (pe_bltn (v := .ty "list") rfl B.list_ bt_list rfl) pa_nil))) pa_nil))))
      (pss_cons (ps_if (PW.pt (pw_or (pt_cmpR op_ne (pe_callB isi rfl B.isinstance_ bt_isinstance (pa_cons (pv 0) (pa_cons (pe_bltn (v := .ty "tuple") rfl B.tuple_ bt_tuple rfl) pa_nil))) (pe_callB isi rfl B.isinstance_ bt_isinstance (pa_cons (pv 1) (pa_cons (pe_bltn (v := .ty "tuple") rfl B.tuple_ bt_tuple rfl) pa_nil))) (nomark _)) (pw_or1 (pt_cmpR op_ne (pe_callB isi rfl B.isinstance_ bt_isinstance (pa_cons (pv 0) (pa_cons (pe_bltn (v := .ty "list") rfl B.list_ bt_list rfl) pa_nil))) (pe_callB isi rfl B.isinstance_ bt_isinstance (pa_cons (pv 1) (pa_cons (pe_bltn (v := .ty "list") rfl B.list_ bt_list rfl) pa_nil))) (nomark _)))))
        (pss_one (ps_ret pe_bl))
        pss_nil)
        (pss_cons (ps_if (pt_cmpR op_ne (pe_callB lenS rfl B.len_ bt_len (pa_cons (pv 0) pa_nil)) (pe_callB lenS rfl B.len_ bt_len (pa_cons (pv 1) pa_nil)) (nomark _))
        (pss_one (ps_ret pe_bl))
        pss_nil)
        (pss_one (ps_ret pe_never))))
      pss_nil)
      (pss_cons (ps_if (PW.pt (pw_or (pt_cmpR op_ne (pe_callB isi rfl B.isinstance_ bt_isinstance (pa_cons (pv 0) (pa_cons (pe_bltn (v := .ty "bool") rfl B.bool_ bt_bool rfl) pa_nil))) (pe_callB isi rfl B.isinstance_ bt_isinstance (pa_cons (pv 1) (pa_cons (pe_bltn (v := .ty "bool") rfl B.bool_ bt_bool rfl) pa_nil))) (nomark _)) (pw_or1 (pt_cmpR op_ne (pe_callB isi rfl B.isinstance_ bt_isinstance (pa_cons (pv 0) (pa_cons (pe_bltn (v := .ty "int") rfl B.int_ bt_int rfl) pa_nil))) (pe_callB isi rfl B.isinstance_ bt_isinstance (pa_cons (pv 1) (pa_cons (pe_bltn (v := .ty "int") rfl B.int_ bt_int rfl) pa_nil))) (nomark _)))))
      (pss_one (ps_ret pe_bl))
      pss_nil)
      (pss_cons (ps_if (PW.pt (pw_or (pt_cmpR op_ne (pe_callB isi rfl B.isinstance_ bt_isinstance (pa_cons (pv 0) (pa_cons (pe_bltn (v := .ty "str") rfl B.str_ bt_str rfl) pa_nil))) (pe_callB isi rfl B.isinstance_ bt_isinstance (pa_cons (pv 1) (pa_cons (pe_bltn (v := .ty "str") rfl B.str_ bt_str rfl) pa_nil))) (nomark _)) (pw_or1 (pt_cmpR op_ne (pe_cmpR op_isN (pv 0) pe_non (nomark _)) (pe_cmpR op_isN (pv 1) pe_non (nomark _)) (nomark _)))))
      (pss_one (ps_ret pe_bl))
      pss_nil)
      (pss_one (ps_ret (pe_cmpR op_eq (pv 0) (pv 1) (nomark _))))))), ?_⟩
    refine ⟨_, rfl, sz2, fun p hp => ⟨_, p, "int", ["tuple", "list"], rfl, upd_same, .int i, fun c hc => ?_, _, rfl, iteF ?_⟩⟩
    · rcases List.mem_cons.mp hc with rfl | hc
      · exact k_it
      · rw [List.mem_singleton] at hc
        rw [hc]
        exact k_il
    have e := same_new (o := .tup (["tuple", "list"].map V.ty)) hp
    refine ⟨_, rfl, _, _, _, _, rfl, .int i, k_ib, _, rfl, _, _, _, _, rfl, .int i, k_ib, rfl, _, rfl, iteF ?_⟩
    refine ⟨_, rfl, _, _, _, _, rfl, .int i, k_ii, _, rfl, _, _, _, _, rfl, .int i, k_ii, rfl, _, rfl, iteF ?_⟩
    refine ⟨_, rfl, _, _, _, _, rfl, .int i, k_is, _, rfl, _, _, _, _, rfl, .int i, k_is, rfl, _, rfl, iteF ?_⟩
    refine ⟨_, rfl, rfl, _, rfl, rfl, rfl, _, rfl, iteF ?_⟩
    refine ⟨_, rfl, _, rfl, rfl, ?_⟩
    rw [decide_eq_true rfl]
    exact k _ e
theorem sc_l_is_term : FnScope ["_law_term_here", "_law_letters", "_law_c"] ["_law_term_here"] (defScope st_l_is_term) := ⟨rfl, rfl, rfl, by decide +kernel, rfl, by decide +kernel, by decide +kernel⟩
-- slots: 0 _law_term_here, 1 _law_letters, 2 _law_c
theorem ok_l_is_term (F : Def' K mg "_law_is_term" st_l_is_term) (B : Bt mg) : Cal P w K mg base 1 "_law_is_term" spLit [] := by
  refine cal_mk F sc_l_is_term (fun _ _ _ _ _ _ us hl => match us, hl with | [_], _ => rfl) (fun vs H Q E h => ?_) (fun f cdv A outer s H vs Q E hr h => ?_)
  · obtain ⟨x, t, rfl, _⟩ := h
    rfl
  · obtain ⟨x, t, rfl, hx, ht, k⟩ := h
    have nd := sc_l_is_term.nd
    refine ⟨_, (pss_cons (ps_if (PW.pt (pw_or (pt_not (pt_val (pe_callB isi rfl B.isinstance_ bt_isinstance (pa_cons (pv 0) (pa_cons (pe_bltn (v := .ty "tuple") rfl B.tuple_ bt_tuple rfl) pa_nil))))) (pw_or (pt_cmpR op_ne (pe_callB lenS rfl B.len_ bt_len (pa_cons (pv 0) pa_nil)) pe_int (nomark _)) (pw_or1 (pt_not (pt_val (pe_callB isi rfl B.isinstance_ bt_isinstance (pa_cons (pe_ix ixT (pv 0) pe_int (fun _ _ => rfl)) (pa_cons (pe_bltn (v := .ty "str") rfl B.str_ bt_str rfl) pa_nil)))))))))
      (pss_one (ps_ret pe_bl))
      pss_nil)
      (pss_cons (ps_if (pt_val (pe_callB isi rfl B.isinstance_ bt_isinstance (pa_cons (pe_ix ixT (pv 0) pe_int (fun _ _ => rfl)) (pa_cons (pe_bltn (v := .ty "str") rfl B.str_ bt_str rfl) pa_nil))))
      (pss_cons (ps_set (i := 1) nd rfl (.inr rfl) pe_str)
        (pss_one (ps_ret (pe_and (pe_cmpR inS (pe_ix ixT (pv 0) pe_int (fun _ _ => rfl)) (peL (pa_cons pe_str (pa_cons pe_str pa_nil))) rfl) (pe_and (pe_cmpR op_ne (pe_ix ixT (pv 0) pe_int (fun _ _ => rfl)) pe_str (nomark _)) (pe_one (pe_cmpR op_eq (pe_callB lenS rfl B.len_ bt_len (pa_cons (pe_lc (own := [("_law_c", 2)]) (g := (gName 2)) rfl nd (pi_str (pe_ix ixT (pv 0) pe_int (fun _ _ => rfl))) (blkOk_by (by kernel_rfl)) (fun _ _ _ _ _ => (pg_name (i := 2) nd rfl (.inl rfl))) (fun _ _ _ _ _ => (pts_one (pt_cmpR op_notIn_sign (pv 2) (pv 1) rfl))) (fun _ _ _ _ _ => (pv 2))) pa_nil)) pe_int (nomark _))))))))
      pss_nil)
      (pss_one (ps_ret (pe_and (pe_cmpR op_eq (pe_ix ixT (pv 0) pe_int (fun _ _ => rfl)) pe_str (nomark _)) (pe_and (pe_callB isi rfl B.isinstance_ bt_isinstance (pa_cons (pe_ix ixT (pv 0) pe_int (fun _ _ => rfl)) (pa_cons (pe_bltn (v := .ty "int") rfl B.int_ bt_int rfl) pa_nil))) (pe_one (pe_not (pe_callB isi rfl B.isinstance_ bt_isinstance (pa_cons (pe_ix ixT (pv 0) pe_int (fun _ _ => rfl)) (pa_cons (pe_bltn (v := .ty "bool") rfl B.bool_ bt_bool rfl) pa_nil))))))))))), ?_⟩
    obtain ⟨a, rfl, ha, _⟩ := tmE hx
    refine ⟨_, rfl, _, _, _, _, rfl, .tup ha, k_tt, _, rfl, iteF ?_⟩
    refine ⟨_, rfl, a, _, rfl, .inr ha, rfl, _, rfl, iteF ?_⟩
    refine ⟨_, rfl, a, _, 0, _, rfl, rfl, ha, rfl, _, _, _, _, rfl, .str _, k_ss, _, rfl, iteF ?_⟩
    cases t with
    | var s =>
      refine ⟨_, rfl, a, _, 1, _, rfl, rfl, ha, rfl, _, _, _, _, rfl, .str _, k_ss, _, rfl, iteT ?_⟩
      refine ⟨_, rfl, a, _, 0, _, rfl, rfl, ha, rfl, sz2, fun L H1 _ e1 hL => ?_⟩
      refine ⟨L, _, rfl, .inl hL, rfl, rfl, _, rfl, iteT ?_⟩
      refine ⟨_, rfl, a, _, 1, _, rfl, rfl, ha.same e1, rfl, rfl, _, rfl, iteN (fun _ => ?_) (fun z => absurd (V.str.inj z) ht.2.1)⟩
      refine ⟨_, rfl, a, _, 1, _, rfl, rfl, ha.same e1, rfl, s, rfl, lc_strNo (fun c hc H2 e2 R Qy kN => ⟨rfl, ?_⟩) (fun D H2 _ e2 hD => ?_)⟩
      · refine ⟨_, rfl, _, rfl, c, letters, rfl, rfl, _, rfl, iteN (fun z => absurd (ht.2.2 c hc) z) (fun _ => kN _ (Same.refl _))⟩
      · refine ⟨D, _, rfl, .inl hD, rfl, ?_⟩
        exact k _ (e1.trans e2)
    | val k0 => cases k0 with
      | inl i =>
        refine ⟨_, rfl, a, _, 1, _, rfl, rfl, ha, rfl, _, _, _, _, rfl, .int i, k_is, _, rfl, iteF ?_⟩
        refine ⟨_, rfl, a, _, 0, _, rfl, rfl, ha, rfl, rfl, _, rfl, iteD (fun _ => ?_) (fun z => absurd rfl z)⟩
        refine ⟨_, rfl, a, _, 1, _, rfl, rfl, ha, rfl, _, _, _, _, rfl, .int i, k_ii, _, rfl, iteT ?_⟩
        refine ⟨_, rfl, a, _, 1, _, rfl, rfl, ha, rfl, _, _, _, _, rfl, .int i, k_ib, _, rfl, ?_⟩
        exact k _ (Same.refl _)
      | inr s =>
        refine ⟨_, rfl, a, _, 1, _, rfl, rfl, ha, rfl, _, _, _, _, rfl, .str _, k_ss, _, rfl, iteT ?_⟩
        refine ⟨_, rfl, a, _, 0, _, rfl, rfl, ha, rfl, sz2, fun L H1 _ e1 hL => ?_⟩
        refine ⟨L, _, rfl, .inl hL, rfl, rfl, _, rfl, iteT ?_⟩
        refine ⟨_, rfl, a, _, 1, _, rfl, rfl, ha.same e1, rfl, rfl, _, rfl, iteN (fun _ => ?_) (fun z => absurd (V.str.inj z) ht.2.1)⟩
        refine ⟨_, rfl, a, _, 1, _, rfl, rfl, ha.same e1, rfl, s, rfl, lc_strNo (fun c hc H2 e2 R Qy kN => ⟨rfl, ?_⟩) (fun D H2 _ e2 hD => ?_)⟩
        · refine ⟨_, rfl, _, rfl, c, letters, rfl, rfl, _, rfl, iteN (fun z => absurd (ht.2.2 c hc) z) (fun _ => kN _ (Same.refl _))⟩
        · refine ⟨D, _, rfl, .inl hD, rfl, ?_⟩
          exact k _ (e1.trans e2)
theorem sc_l_are_terms : FnScope ["_law_terms", "_law_term_here"] ["_law_terms"] (defScope st_l_are_terms) := ⟨rfl, rfl, rfl, by decide +kernel, rfl, by decide +kernel, by decide +kernel⟩
-- slots: 0 _law_terms, 1 _law_term_here
theorem ok_l_are_terms (F : Def' K mg "_law_are_terms" st_l_are_terms) (B : Bt mg) (C_l_is_term : Cal P w K mg base 1 "_law_is_term" spLit []) : Cal P w K mg base 2 "_law_are_terms" spLat [] := by
  refine cal_mk F sc_l_are_terms (fun _ _ _ _ _ _ us hl => match us, hl with | [_], _ => rfl) (fun vs H Q E h => ?_) (fun f cdv A outer s H vs Q E hr h => ?_)
  · obtain ⟨x, ts, rfl, _⟩ := h
    rfl
  · obtain ⟨x, ts, rfl, hx, hn, ht, k⟩ := h
    have nd := sc_l_are_terms.nd
    refine ⟨_, (pss_one (ps_ret (pe_and (pe_callB isi rfl B.isinstance_ bt_isinstance (pa_cons (pv 0) (pa_cons (pe_bltn (v := .ty "tuple") rfl B.tuple_ bt_tuple rfl) pa_nil))) (pe_one (pe_cmpR notInS pe_bl (pe_lc (own := [("_law_term_here", 1)]) (g := (gName 1)) (tt := tYes) rfl nd (piT (K := K) rfl (pv 0)) (blkOk_by (by kernel_rfl)) (fun _ _ _ _ _ => (pg_name (i := 1) nd rfl (.inl rfl))) (fun _ _ _ _ _ => pts_nil) (fun _ _ _ _ _ => (pe_c C_l_is_term hr (by decide) rfl (pa_cons (pv 1) pa_nil)))) rfl))))), ?_⟩
    obtain ⟨a, xs, rfl, ha, hxs⟩ := hx.tupE
    refine ⟨_, rfl, _, _, _, _, rfl, .tup ha, k_tt, _, rfl, iteT ?_⟩
    refine ⟨_, rfl, a, rfl, ⟨_, ha.seq⟩, lc_tv (l := ts) (ea := encTm) (fv := fun _ => V.bl true) (c := fun _ => true) ha hxs (by omega) (fun t hm v H2 e2 hv R Qy _ kY => ?_) (fun D H2 _ e2 hD => ?_)⟩
    · refine ⟨rfl, yesI ?_⟩
      exact ⟨_, rfl, v, t, rfl, hv, ht t hm, fun H3 e3 => kY rfl _ _ e3 rfl⟩
    · rw [filter_yes] at hD
      refine ⟨D, _, rfl, .inl hD, rfl, flat_trues ts, ?_⟩
      rw [inV_trues]
      exact k _ e2
theorem sc_l_is_join : FnScope ["_law_join_here", "_law_width_here", "_law_atom_here", "_law_term_here"] ["_law_join_here", "_law_width_here"] (defScope st_l_is_join) := ⟨rfl, rfl, rfl, by decide +kernel, rfl, by decide +kernel, by decide +kernel⟩
-- slots: 0 _law_join_here, 1 _law_width_here, 2 _law_atom_here, 3 _law_term_here
theorem ok_l_is_join (F : Def' K mg "_law_is_join" st_l_is_join) (B : Bt mg) (C_l_is_term : Cal P w K mg base 1 "_law_is_term" spLit []) (C_l_are_terms : Cal P w K mg base 2 "_law_are_terms" spLat []) (C_l_join_variables : Cal P w K mg base 1 "_law_join_variables" spLjv []) : Cal P w K mg base 3 "_law_is_join" spLij [] := by
  refine cal_mk F sc_l_is_join (fun _ _ _ _ _ _ us hl => match us, hl with | [_, _], _ => rfl) (fun vs H Q E h => ?_) (fun f cdv A outer s H vs Q E hr h => ?_)
  · obtain ⟨x, n, j, rfl, _⟩ := h
    rfl
  · obtain ⟨x, n, j, rfl, hx, hn, hj, k⟩ := h
    have nd := sc_l_is_join.nd
    refine ⟨_, (pss_cons (ps_if (PW.pt (pw_or (pt_not (pt_val (pe_callB isi rfl B.isinstance_ bt_isinstance (pa_cons (pv 0) (pa_cons (pe_bltn (v := .ty "tuple") rfl B.tuple_ bt_tuple rfl) pa_nil))))) (pw_or (pt_cmpR op_ne (pe_callB lenS rfl B.len_ bt_len (pa_cons (pv 0) pa_nil)) pe_int (nomark _)) (pw_or (pt_not (pt_val (pe_c C_l_are_terms hr (by decide) rfl (pa_cons (pe_ix ixT (pv 0) pe_int (fun _ _ => rfl)) pa_nil)))) (pw_or1 (pt_cmpR op_ne (pe_callB lenS rfl B.len_ bt_len (pa_cons (pe_ix ixT (pv 0) pe_int (fun _ _ => rfl)) pa_nil)) (pv 1) (nomark _)))))))
      (pss_one (ps_ret pe_bl))
      pss_nil)
      (pss_cons (ps_if (PW.pt (pw_or (pt_not (pt_val (pe_callB isi rfl B.isinstance_ bt_isinstance (pa_cons (pe_ix ixT (pv 0) pe_int (fun _ _ => rfl)) (pa_cons (pe_bltn (v := .ty "tuple") rfl B.tuple_ bt_tuple rfl) pa_nil))))) (pw_or1 (pt_cmpR op_gt (pe_callB lenS rfl B.len_ bt_len (pa_cons (pe_ix ixT (pv 0) pe_int (fun _ _ => rfl)) pa_nil)) pe_int (nomark _)))))
      (pss_one (ps_ret pe_bl))
      pss_nil)
      (pss_cons (ps_for PassesOwn.never rfl (piT (K := K) rfl (pe_ix ixT (pv 0) pe_int (fun _ _ => rfl))) (pg_name (i := 2) nd rfl (.inl rfl))
      (pss_cons (ps_if (PW.pt (pw_or (pt_not (pt_val (pe_callB isi rfl B.isinstance_ bt_isinstance (pa_cons (pv 2) (pa_cons (pe_bltn (v := .ty "tuple") rfl B.tuple_ bt_tuple rfl) pa_nil))))) (pw_or (pt_cmpR op_ne (pe_callB lenS rfl B.len_ bt_len (pa_cons (pv 2) pa_nil)) pe_int (nomark _)) (pw_or (pt_not (pt_val (pe_c C_l_are_terms hr (by decide) rfl (pa_cons (pe_ix ixT (pv 2) pe_int (fun _ _ => rfl)) pa_nil)))) (pw_or1 (pt_cmpR op_gt (pe_callB lenS rfl B.len_ bt_len (pa_cons (pe_ix ixT (pv 2) pe_int (fun _ _ => rfl)) pa_nil)) pe_int (nomark _)))))))
        (pss_one (ps_ret pe_bl))
        pss_nil)
        (pss_one (ps_if (pt_not (pt_val (pe_c C_l_is_term hr (by decide) rfl (pa_cons (peT (pa_cons pe_str (pa_cons (pe_ix ixT (pv 2) pe_int (fun _ _ => rfl)) pa_nil))) pa_nil))))
        (pss_one (ps_ret pe_bl))
        pss_nil))))
      (pss_one (ps_ret (pe_cmpR op_eq (pe_callB lenS rfl B.len_ bt_len (pa_cons (pe_lc (own := [("_law_term_here", 3)]) (g := (gName 3)) rfl nd (piT (K := K) rfl (pe_ix ixT (pv 0) pe_int (fun _ _ => rfl))) (blkOk_by (by kernel_rfl)) (fun _ _ _ _ _ => (pg_name (i := 3) nd rfl (.inl rfl))) (fun _ _ _ _ _ => (pts_one (PW.pt (pw_and (pt_cmpR op_eq (pe_ix ixT (pv 3) pe_int (fun _ _ => rfl)) pe_str (nomark _)) (pw_and1 (pt_cmpR notInS (pe_ix ixT (pv 3) pe_int (fun _ _ => rfl)) (pe_c C_l_join_variables hr (by decide) rfl (pa_cons (pv 0) pa_nil)) rfl)))))) (fun _ _ _ _ _ => (pv 3))) pa_nil)) pe_int (nomark _))))))), ?_⟩
    obtain ⟨p, pa, pb, xs, ys, rfl, hp, hpa, hxs, hpb, hys⟩ := jnE hx
    have lxs : xs.length = n := by rw [hxs.length, List.length_map, hj.hl]
    have lys : ys.length = j.2.length := by rw [hys.length, List.length_map]
    have lb := hj.bl
    refine ⟨_, rfl, _, _, _, _, rfl, .tup hp, k_tt, _, rfl, iteF ?_⟩
    refine ⟨_, rfl, p, _, rfl, .inr hp, rfl, _, rfl, iteF ?_⟩
    refine ⟨_, rfl, p, _, 0, _, rfl, rfl, hp, rfl, _, j.1, rfl, .tup hpa hxs, by rw [hj.hl]; omega, hj.ht, fun H1 e1 => ⟨_, rfl, iteF ?_⟩⟩
    refine ⟨_, rfl, p, _, 0, _, rfl, rfl, hp.same e1, rfl, pa, xs, rfl, .inr (hpa.same e1), _, rfl, rfl, _, rfl, iteN (fun z => absurd (by rw [lxs]) z) (fun _ => ?_)⟩
    refine ⟨_, rfl, p, _, 1, _, rfl, rfl, hp.same e1, rfl, _, _, _, _, rfl, .tup (hpb.same e1), k_tt, _, rfl, iteF ?_⟩
    refine ⟨_, rfl, p, _, 1, _, rfl, rfl, hp.same e1, rfl, pb, ys, rfl, .inr (hpb.same e1), _, _, rfl, rfl, _, rfl, iteD (fun z => absurd z (by omega)) (fun _ => ?_)⟩
    refine ⟨_, rfl, p, _, 1, _, rfl, rfl, hp.same e1, rfl, pb, rfl, ⟨_, (hpb.same e1).seq⟩, ?_⟩
    refine for_tup (K := K) (xs := ys) (fun i σ H' => ∃ c2 c3, σ = [some (.ref p), some (.int (n : Int)), c2, c3] ∧ Same H H')
      ⟨_, _, rfl, e1⟩ (fun i σ H' _ ⟨_, _, _, e⟩ => (hpb.same e).seq) (fun i v σ H' hi hP => ?_) (fun σ H' hP => ?_)
    · obtain ⟨c2, c3, rfl, e⟩ := hP
      obtain ⟨z, hz, hv⟩ := hys.getM hi
      have hzm := hj.at_ z (List.mem_of_getElem? hz)
      obtain ⟨q, q2, zv, rfl, h1, h2, h3, hzo⟩ := atE (hv.mono (Same.tx e))
      have lzv : zv.length = z.2.length := by rw [h3.length, List.length_map]
      have hz8 := hzm.2.2
      refine ⟨_, rfl, _, _, _, _, rfl, .tup h1, k_tt, _, rfl, iteF ?_⟩
      refine ⟨_, rfl, q, _, rfl, .inr h1, rfl, _, rfl, iteF ?_⟩
      refine ⟨_, rfl, q, _, 1, _, rfl, rfl, h1, rfl, _, z.2, rfl, .tup h2 h3, by omega, hzm.2.1, fun H2 e2 => ⟨_, rfl, iteF ?_⟩⟩
      refine ⟨_, rfl, q, _, 1, _, rfl, rfl, h1.same e2, rfl, q2, zv, rfl, .inr (h2.same e2), _, _, rfl, rfl, _, rfl, iteD (fun z => absurd z (by omega)) (fun _ => ?_)⟩
      refine ⟨_, rfl, q, _, 0, _, rfl, rfl, h1.same e2, rfl, sz2, fun T H3 _ e3 hT => ⟨_, .var z.1, rfl, tmI (t := .var z.1) hT hzo, hzm.1, fun H4 e4 => ⟨_, rfl, iteF ?_⟩⟩⟩
      exact ⟨_, _, rfl, e.trans (e2.trans (e3.trans e4))⟩
    · obtain ⟨c2, c3, rfl, e⟩ := hP
      refine ⟨_, rfl, p, _, 0, _, rfl, rfl, hp.same e, rfl, pa, rfl, ⟨_, (hpa.same e).seq⟩, lc_t (l := j.1) (ea := encTm) (f := encTm) (c := fun _ => false) (hpa.same e) (hxs.mono (Same.tx e)) (by rw [hj.hl]; omega) (fun t ht v H2 e2 hv R Qy kN kY => ?_) (fun D dv H2 _ e2 hD tD => ?_)⟩
      · obtain ⟨b, rfl, hb, _⟩ := tmE hv
        refine ⟨rfl, ?_⟩
        refine ⟨_, rfl, b, _, 0, _, rfl, rfl, hb, rfl, rfl, _, rfl, ?_⟩
        cases t with
        | var s =>
          refine iteD (fun _ => ?_) (fun z => absurd rfl z)
          refine ⟨_, rfl, b, _, 1, _, rfl, rfl, hb, rfl, _, rfl, _, j, rfl, hx.mono (Same.tx (e.trans e2)), by omega, fun a ha => by have := (hj.at_ a ha).2.2; omega, fun ns hnd hns pp H3 _ e3 hpp => ?_⟩
          refine ⟨pp, _, rfl, .inl hpp, rfl, flat_strs ns, _, rfl, ?_⟩
          have hin : inV (V.str s) (ns.map V.str) = true := by
            rw [inV_str]
            exact decide_eq_true ((hns s).mpr (hj.hb s ht))
          refine ifF (by
            show (!inV (V.str s) (ns.map V.str)) = false
            rw [hin]
            rfl) ?_
          exact kN rfl _ e3
        | val k0 => exact iteD (fun z => absurd (V.str.inj z).symm tag_ne) (fun _ => kN rfl _ (Same.refl _))
      · have hdv : dv = [] := List.eq_nil_of_length_eq_zero (by rw [tD.length, List.length_map]; simp)
        subst hdv
        refine ⟨D, _, rfl, .inl hD, rfl, ?_⟩
        exact k _ (e.trans e2)
theorem sc_l_is_question : FnScope ["_law_question_here", "_law_width_here", "_law_join_here"] ["_law_question_here", "_law_width_here"] (defScope st_l_is_question) := ⟨rfl, rfl, rfl, by decide +kernel, rfl, by decide +kernel, by decide +kernel⟩
-- slots: 0 _law_question_here, 1 _law_width_here, 2 _law_join_here
theorem ok_l_is_question (F : Def' K mg "_law_is_question" st_l_is_question) (B : Bt mg) (C_l_same : Cal P w K mg base 1 "_law_same" spLsa []) (C_l_is_join : Cal P w K mg base 3 "_law_is_join" spLij []) : Cal P w K mg base 4 "_law_is_question" spLiq [] := by
  refine cal_mk F sc_l_is_question (fun _ _ _ _ _ _ us hl => match us, hl with | [_, _], _ => rfl) (fun vs H Q E h => ?_) (fun f cdv A outer s H vs Q E hr h => ?_)
  · obtain ⟨x, n, js, rfl, _⟩ := h
    rfl
  · obtain ⟨x, n, js, rfl, hx, hn, ljs, hjs, k⟩ := h
    have nd := sc_l_is_question.nd
    refine ⟨_, (pss_cons (ps_if (PW.pt (pw_or (pt_not (pt_val (pe_callB isi rfl B.isinstance_ bt_isinstance (pa_cons (pv 0) (pa_cons (pe_bltn (v := .ty "tuple") rfl B.tuple_ bt_tuple rfl) pa_nil))))) (pw_or (pt_cmpR op_ne (pe_callB lenS rfl B.len_ bt_len (pa_cons (pv 0) pa_nil)) pe_int (nomark _)) (pw_or1 (pt_not (pt_val (pe_c C_l_same hr (by decide) rfl (pa_cons (pe_ix ixT (pv 0) pe_int (fun _ _ => rfl)) (pa_cons (pv 1) pa_nil)))))))))
      (pss_one (ps_ret pe_bl))
      pss_nil)
      (pss_cons (ps_if (PW.pt (pw_or (pt_not (pt_val (pe_callB isi rfl B.isinstance_ bt_isinstance (pa_cons (pe_ix ixT (pv 0) pe_int (fun _ _ => rfl)) (pa_cons (pe_bltn (v := .ty "tuple") rfl B.tuple_ bt_tuple rfl) pa_nil))))) (pw_or1 (pt_cmpR op_gt (pe_callB lenS rfl B.len_ bt_len (pa_cons (pe_ix ixT (pv 0) pe_int (fun _ _ => rfl)) pa_nil)) pe_int (nomark _)))))
      (pss_one (ps_ret pe_bl))
      pss_nil)
      (pss_one (ps_ret (pe_cmpR notInS pe_bl (pe_lc (own := [("_law_join_here", 2)]) (g := (gName 2)) (tt := tYes) rfl nd (piT (K := K) rfl (pe_ix ixT (pv 0) pe_int (fun _ _ => rfl))) (blkOk_by (by kernel_rfl)) (fun _ _ _ _ _ => (pg_name (i := 2) nd rfl (.inl rfl))) (fun _ _ _ _ _ => pts_nil) (fun _ _ _ _ _ => (pe_c C_l_is_join hr (by decide) rfl (pa_cons (pv 2) (pa_cons (pv 1) pa_nil))))) rfl))))), ?_⟩
    obtain ⟨p, pb, ys, rfl, hp, hpb, hys⟩ := qnE hx
    have lys : ys.length = js.length := by rw [hys.length, List.length_map]
    refine ⟨_, rfl, _, _, _, _, rfl, .tup hp, k_tt, _, rfl, iteF ?_⟩
    refine ⟨_, rfl, p, _, rfl, .inr hp, rfl, _, rfl, iteF ?_⟩
    refine ⟨_, rfl, p, _, 0, _, rfl, rfl, hp, rfl, _, rfl, (n : Int), rfl, fun H1 e1 => ⟨_, rfl, iteF ?_⟩⟩
    refine ⟨_, rfl, p, _, 1, _, rfl, rfl, hp.same e1, rfl, _, _, _, _, rfl, .tup (hpb.same e1), k_tt, _, rfl, iteF ?_⟩
    refine ⟨_, rfl, p, _, 1, _, rfl, rfl, hp.same e1, rfl, pb, ys, rfl, .inr (hpb.same e1), _, _, rfl, rfl, _, rfl, iteD (fun z => absurd z (by omega)) (fun _ => ?_)⟩
    refine ⟨_, rfl, p, _, 1, _, rfl, rfl, hp.same e1, rfl, pb, rfl, ⟨_, (hpb.same e1).seq⟩, lc_tv (l := js) (ea := encJn) (fv := fun _ => V.bl true) (c := fun _ => true) (hpb.same e1) (hys.mono (Same.tx e1)) (by omega) (fun t hm v H2 e2 hv R Qy _ kY => ?_) (fun D H2 _ e2 hD => ?_)⟩
    · refine ⟨rfl, yesI ?_⟩
      exact ⟨_, rfl, _, rfl, v, n, t, rfl, hv, hn, hjs t hm, fun H3 e3 => kY rfl _ _ e3 rfl⟩
    · rw [filter_yes] at hD
      refine ⟨D, _, rfl, .inl hD, rfl, flat_trues js, ?_⟩
      rw [inV_trues]
      exact k _ (e1.trans e2)
end
end Aw

/-! C1: drawing: draws, take, pick, pool, values, value, world, term, atom. -/
namespace Aw
open PySem PySem.Spec PyProof.Rows L2
open C8 (Cal pe_c)
theorem Kd.sq {d p : Addr} {H H' : Hp} {xs : List V} (k : Kd d H H') (h : Sq H p xs) (n : p ≠ d) : Sq H' p xs := h.imp (fun q => k.ob _ _ n q) fun ⟨o, h1, q⟩ => ⟨o, h1, k.ob _ _ n q⟩
theorem Tq.nd {d p : Addr} {H : Hp} {xs : List V} (h : Tq H p xs) (hd : Dr H d) : p ≠ d := fun z => by
  obtain ⟨ns, hd⟩ := hd
  obtain ⟨o, _, h⟩ := h
  rw [z, hd] at h
  cases h
theorem none_kd {d p : Addr} {H H' : Hp} (e : Kd d H H') (h : H' p = none) (hd : Dr H d) : H p = none := by
  have n := dr_ne h e.dr
  cases q : H p with
  | none => rfl
  | some o =>
    rw [e.ob p o n q] at h
    cases h
/-- a fresh list may change -/
theorem kd_mut {d p : Addr} {H H' : Hp} {o : HO} (e : Kd d H H') (h : H p = none) (hd : Dr H d) : Kd d H (upd H' p o) := ⟨fun a u n q => by
  rw [upd_ne (ne_of_none q h)]
  exact e.ob a u n q, by
  obtain ⟨ns, q⟩ := e.dr
  exact ⟨ns, by rw [upd_ne (dr_ne h hd).symm]; exact q⟩⟩
theorem sum_ones {α : Type} : ∀ cs : List α, (cs.map fun _ => 1).sum = cs.length
  | [] => rfl
  | c :: cs => by
    have ih := sum_ones cs
    rw [List.map_cons, List.sum_cons, ih, List.length_cons, Nat.add_comm]
def rIxSq : R2 := fun x y H Q => ∃ p xs i v, x = .ref p ∧ y = .int i ∧ Sq H p xs ∧ atI xs i = some v ∧ Q v H
theorem ixSq {X : Cx} : IxR X rIxSq := by
  intro value slice pins s σ H x y v u Q I rx ry h hs
  obtain ⟨p, xs, i, z, rfl, rfl, hq | hq, he, q⟩ := h
  · exact ixL value slice pins s σ H _ _ v u Q I rx ry ⟨p, xs, i, z, rfl, rfl, hq, he, q⟩ hs
  · exact ixT value slice pins s σ H _ _ v u Q I rx ry ⟨p, xs, i, z, rfl, rfl, hq, he, q⟩ hs
theorem at_pick {α : Type} {xs : List α} {i : Int} (h0 : 0 ≤ i) (h : i < xs.length) : ∃ v, atI xs i = some v ∧ v ∈ xs := by
  obtain ⟨n, rfl⟩ := Int.eq_ofNat_of_zero_le h0
  have hn : n < xs.length := by exact_mod_cast h
  exact ⟨xs[n], atI_nat (List.getElem?_eq_getElem hn), List.getElem_mem hn⟩
/-- [made from draws for k in range] -/
theorem lc_dr {α : Type} {enc : α → T} {Pr : α → Prop} {d : Addr} {lo : Int} {n : Nat} {g : TG} {tt : TT} {te : TE} {vs : List Nat} {σ : L2.St} {H : Hp} {Q : Addr → Hp → Prop} (hd : Dr H d) (hn : n ≤ 100000)
    (step : ∀ i H', i < n → Kd d H H' → ∀ (R : Hp → Prop) (Qy : V → Hp → Prop), (∀ y H2 x, Kd d H' H2 → Pr x → Tp H2 y (enc x) → Qy y H2) →
      g (.int (lo + i)) (wipe σ vs) H' fun σ2 H2 => wipe σ2 vs = wipe σ vs ∧ tt σ2 H2 fun b H3 => if b = true then te σ2 H3 Qy else R H3)
    (k : ∀ p ys H' (l : List α), H p = none → Kd d H H' → H' p = some (.lst ys) → l.length = n → (∀ x ∈ l, Pr x) → Tps H' ys (l.map enc) → Q p H') :
    ∀ D, H D = none → ∃ W : Nat → Nat → Hp → Prop, (∃ m, W 0 m (upd H D (.lst []))) ∧ ∀ i m H', W i m H' →
      ((Itr lo n).stop i H' ∧ Q D H') ∨ ((Itr lo n).go i H' ∧ ∃ Nx : Hp → Prop, (∀ H2, Nx H2 → ∃ m', m' < m ∧ W (i + 1) m' H2) ∧ ∀ x H2, (Itr lo n).yld i H' x H2 → g x (wipe σ vs) H2 fun σ2 H2 => wipe σ2 vs = wipe σ vs ∧ tt σ2 H2 fun b H3 =>
        if b = true then te σ2 H3 fun y H4 => ∃ acc, H4 D = some (.lst acc) ∧ acc.length < sizeLine ∧ Nx (upd H4 D (.lst (acc ++ [y]))) else Nx H3) := fun D hD => by
  have D_d := dr_ne hD hd
  refine lc_range (Qd := fun H' => Q D H')
    (fun i H' => ∃ (ys : List V) (l : List α), Kd d H H' ∧ H' D = some (.lst ys) ∧ l.length = i ∧ (∀ x ∈ l, Pr x) ∧ Tps H' ys (l.map enc)) ⟨[], [], kd_new hD hd, upd_same, rfl, (fun x hx => by cases hx), .nil⟩ (fun i H' hi w => ?_) (fun H' w => ?_)
  · obtain ⟨ys, l, e, hDD, hl, hp, ht⟩ := w
    refine step i H' hi e _ _ fun y H2 x e2 hx hy => ?_
    have hD2 := e2.ob _ _ D_d hDD
    refine ⟨ys, hD2, szt (by rw [ht.length, List.length_map]; omega), ys ++ [y], l ++ [x], ?_, upd_same, by rw [List.length_append, hl]; rfl, ?_, ?_⟩
    · refine ⟨fun a o n q => ?_, ?_⟩
      · rw [upd_ne (ne_of_none q hD)]
        exact (e.trans e2).ob a o n q
      · obtain ⟨ns, q⟩ := e2.dr
        exact ⟨ns, by rw [upd_ne D_d.symm]; exact q⟩
    · intro z hz
      rcases List.mem_append.mp hz with hz | hz
      · exact hp z hz
      · rw [List.mem_singleton] at hz
        rw [hz]
        exact hx
    · rw [List.map_append]
      exact ((ht.mono (e2.tx e.dr)).snoc hy).mono (tx_lst hD2)
  · obtain ⟨ys, l, e, hDD, hl, hp, ht⟩ := w
    exact k D ys H' l hD e hDD hl hp ht
/-- .. with values that need no heap -/
theorem lc_drv {α : Type} {fv : α → V} {Pr : α → Prop} {d : Addr} {lo : Int} {n : Nat} {g : TG} {tt : TT} {te : TE} {vs : List Nat} {σ : L2.St} {H : Hp} {Q : Addr → Hp → Prop} (hd : Dr H d) (hn : n ≤ 100000)
    (step : ∀ i H', i < n → Kd d H H' → ∀ (R : Hp → Prop) (Qy : V → Hp → Prop), (∀ H2 x, Kd d H' H2 → Pr x → Qy (fv x) H2) →
      g (.int (lo + i)) (wipe σ vs) H' fun σ2 H2 => wipe σ2 vs = wipe σ vs ∧ tt σ2 H2 fun b H3 => if b = true then te σ2 H3 Qy else R H3)
    (k : ∀ p H' (l : List α), H p = none → Kd d H H' → H' p = some (.lst (l.map fv)) → l.length = n → (∀ x ∈ l, Pr x) → Q p H') :
    ∀ D, H D = none → ∃ W : Nat → Nat → Hp → Prop, (∃ m, W 0 m (upd H D (.lst []))) ∧ ∀ i m H', W i m H' →
      ((Itr lo n).stop i H' ∧ Q D H') ∨ ((Itr lo n).go i H' ∧ ∃ Nx : Hp → Prop, (∀ H2, Nx H2 → ∃ m', m' < m ∧ W (i + 1) m' H2) ∧ ∀ x H2, (Itr lo n).yld i H' x H2 → g x (wipe σ vs) H2 fun σ2 H2 => wipe σ2 vs = wipe σ vs ∧ tt σ2 H2 fun b H3 =>
        if b = true then te σ2 H3 fun y H4 => ∃ acc, H4 D = some (.lst acc) ∧ acc.length < sizeLine ∧ Nx (upd H4 D (.lst (acc ++ [y]))) else Nx H3) := fun D hD => by
  have D_d := dr_ne hD hd
  refine lc_range (Qd := fun H' => Q D H')
    (fun i H' => ∃ l : List α, Kd d H H' ∧ H' D = some (.lst (l.map fv)) ∧ l.length = i ∧ (∀ x ∈ l, Pr x)) ⟨[], kd_new hD hd, upd_same, rfl, (fun x hx => by cases hx)⟩ (fun i H' hi w => ?_) (fun H' w => ?_)
  · obtain ⟨l, e, hDD, hl, hp⟩ := w
    refine step i H' hi e _ _ fun H2 x e2 hx => ?_
    have hD2 := e2.ob _ _ D_d hDD
    refine ⟨_, hD2, szt (by rw [List.length_map]; omega), l ++ [x], ?_, by rw [upd_same, List.map_append]; rfl, by rw [List.length_append, hl]; rfl, ?_⟩
    · refine ⟨fun a o n q => ?_, ?_⟩
      · rw [upd_ne (ne_of_none q hD)]
        exact (e.trans e2).ob a o n q
      · obtain ⟨ns, q⟩ := e2.dr
        exact ⟨ns, by rw [upd_ne D_d.symm]; exact q⟩
    · intro z hz
      rcases List.mem_append.mp hz with hz | hz
      · exact hp z hz
      · rw [List.mem_singleton] at hz
        rw [hz]
        exact hx
  · obtain ⟨l, e, hDD, hl, hp⟩ := w
    exact k D H' l hD e hDD hl hp
theorem sqL_same {K : PySem.W.Frag} {H H' : Hp} {a : Addr} {xs : List V} (h : SqL K H a xs) (e : Same H H') : SqL K H' a xs := h.imp (fun r => r.imp (e _ _) fun ⟨o, q⟩ => ⟨o, e _ _ q⟩) _root_.id
/-- [e for x in list if t], plain values, any list -/
theorem lc_lvS {K : PySem.W.Frag} {H : Hp} {a : Addr} {xs : List V} {α : Type} {l : List α} {ea : α → T} {fv : α → V} {c : α → Bool} {g : TG} {tt : TT} {te : TE} {vs : List Nat} {σ : L2.St} {Q : Addr → Hp → Prop} (hs : ∀ H', Same H H' → SqL K H' a xs) (hx : Tps H xs (l.map ea)) (hn : l.length ≤ 100000)
    (step : ∀ x ∈ l, ∀ v H', Same H H' → Tp H' v (ea x) → LcTurn g tt te vs σ (c x) H' v (fun y _ => y = fv x))
    (k : ∀ p H', H p = none → Same H H' → H' p = some (.lst ((l.filter c).map fv)) → Q p H') :
    ∀ D, H D = none → ∃ W : Nat → Nat → Hp → Prop, (∃ m, W 0 m (upd H D (.lst []))) ∧ ∀ i m H', W i m H' →
      ((Itl K a).stop i H' ∧ Q D H') ∨ ((Itl K a).go i H' ∧ ∃ Nx : Hp → Prop, (∀ H2, Nx H2 → ∃ m', m' < m ∧ W (i + 1) m' H2) ∧ ∀ x H2, (Itl K a).yld i H' x H2 → g x (wipe σ vs) H2 fun σ2 H2 => wipe σ2 vs = wipe σ vs ∧ tt σ2 H2 fun b H3 =>
        if b = true then te σ2 H3 fun y H4 => ∃ acc, H4 D = some (.lst acc) ∧ acc.length < sizeLine ∧ Nx (upd H4 D (.lst (acc ++ [y]))) else Nx H3) := fun D hD => by
  have hlen : xs.length = l.length := by rw [hx.length, List.length_map]
  refine lc_list (K := K) (a := a) (xs := xs) (Qd := fun H' => Q D H') (LcWv H l c fv D) ⟨same_new hD, hD, upd_same⟩ (fun i H' _ w => hs H' w.1) (fun i x H' hi w => ?_) (fun H' w => ?_)
  · obtain ⟨z, hz, hv⟩ := hx.getM hi
    exact lcwv_turn w hz hn (step z (List.mem_of_getElem? hz) x H' w.1 (hv.mono (Same.tx w.1)))
  · obtain ⟨e, n, h⟩ := w
    rw [hlen, List.take_length] at h
    exact k D H' n e h
/-! ### texts joined -/
theorem joinE : ∀ ys : List Str, (Str.join ("" : Str) ys).cps.toList = (ys.map fun y => y.cps.toList).flatten
  | [] => rfl
  | [x] => by
    show x.cps.toList = [x.cps.toList].flatten
    simp
  | x :: y :: r => by
    have ih := joinE (y :: r)
    show ((x ++ ("" : Str)) ++ Str.join "" (y :: r)).cps.toList = _
    show ((x.cps ++ ("" : Str).cps) ++ (Str.join "" (y :: r)).cps).toList = _
    rw [Array.toList_append, Array.toList_append, ih]
    have : ("" : Str).cps.toList = [] := rfl
    rw [this, List.append_nil]
    simp
theorem letters_ok {c : Nat} (h : c ∈ letters.cps.toList) : c < 0x110000 := by
  have : letters.cps.toList.all (fun c => decide (c < 0x110000)) = true := by decide +kernel
  exact of_decide_eq_true (List.all_eq_true.mp this c h)
theorem okS_of {s : Str} (h : ∀ c ∈ s.cps.toList, c ∈ letters.cps.toList) : okS s := by
  show s.cps.all (fun c => decide (c < 0x110000)) = true
  rw [← Array.all_toList, List.all_eq_true]
  exact fun c hc => decide_eq_true (letters_ok (h c hc))
theorem wd_of {s : Str} (h : ∀ c ∈ s.cps.toList, c ∈ letters.cps.toList) (n : s.cps.toList ≠ []) : Wd s := ⟨okS_of h, fun z => n (by rw [z]; rfl), h⟩
theorem len_cps (s : Str) : s.length = s.cps.toList.length := rfl
/-- a word is joined of letters -/
theorem wd_join {ys : List Str} (h : ∀ y ∈ ys, ∀ c ∈ y.cps.toList, c ∈ letters.cps.toList) (n : ∃ y ∈ ys, y.cps.toList ≠ []) : Wd (Txt.join "" ys) := by
  rw [TL.join_eq]
  refine wd_of (fun c hc => ?_) ?_
  · rw [joinE] at hc
    obtain ⟨l, hl, hc⟩ := List.mem_flatten.mp hc
    obtain ⟨y, hy, rfl⟩ := List.mem_map.mp hl
    exact h y hy c hc
  · obtain ⟨y, hy, hn⟩ := n
    rw [joinE]
    intro z
    rw [List.flatten_eq_nil_iff] at z
    exact hn (z _ (List.mem_map.mpr ⟨y, hy, rfl⟩))
theorem len_join (ys : List Str) : (Txt.join "" ys).length = (ys.map (·.length)).sum := by
  rw [TL.join_eq, len_cps, joinE, List.length_flatten, List.map_map]
  rfl
theorem tps_ints {H : Hp} : ∀ ns : List Int, Tps H (ns.map V.int) (ns.map T.int)
  | [] => .nil
  | n :: ns => .cons (.int n) (tps_ints ns)
theorem sz_5 : 5 ≤ sizeLine := by decide
/-! ### promises -/
def spTak : Sp := fun vs H Q _ => ∃ (d : Addr) (n : Int), vs = [.ref d, .int n] ∧ Dr H d ∧ 0 < n ∧ ∀ i H', 0 ≤ i → i < n → Kd d H H' → Q (.int i) H'
def spPk : Sp := fun vs H Q _ => ∃ (d p : Addr) (xs : List V), vs = [.ref d, .ref p] ∧ Dr H d ∧ Sq H p xs ∧ p ≠ d ∧ 0 < xs.length ∧ ∀ v H', v ∈ xs → Kd d H H' → Q v H'
def spPo : Sp := fun vs H Q _ => ∃ (d : Addr) (n : Nat), vs = [.ref d, .int (n : Int)] ∧ Dr H d ∧ n ≤ 8 ∧ ∀ p (ws : List Str) H', H p = none → Kd d H H' → H' p = some (.lst (ws.map V.str)) → ws.length = n → (∀ s ∈ ws, Wd s) → Q (.ref p) H'
def spVs : Sp := fun vs H Q _ => ∃ (d p : Addr) (ws : List Str), vs = [.ref d, .ref p] ∧ Dr H d ∧ H p = some (.lst (ws.map V.str)) ∧ p ≠ d ∧ 2 ≤ ws.length ∧ (∀ s ∈ ws, Wd s) ∧
  ∀ q (ks : List Key) H', H q = none → Kd d H H' → H' q = some (.lst (ks.map kV)) → ks.length = 3 → (∀ k ∈ ks, VT (.val k)) → Q (.ref q) H'
def spVl : Sp := fun vs H Q _ => ∃ (d p : Addr) (ks : List Key), vs = [.ref d, .ref p] ∧ Dr H d ∧ H p = some (.lst (ks.map kV)) ∧ p ≠ d ∧ ks.length = 3 ∧ (∀ k ∈ ks, VT (.val k)) ∧ ∀ k H', VT (.val k) → Kd d H H' → Q (kV k) H'
/-- the drawn world -/
structure WoD (H : Hp) (d a p0 p1 p2 : Addr) (w0 w1 : List Str) (ks : List Key) : Prop where
  ha : H a = some (.lst [.ref p0, .ref p1, .ref p2])
  h0 : H p0 = some (.lst (w0.map V.str))
  h1 : H p1 = some (.lst (w1.map V.str))
  h2 : H p2 = some (.lst (ks.map kV))
  na : a ≠ d
  n0 : p0 ≠ d
  n1 : p1 ≠ d
  n2 : p2 ≠ d
  l0 : w0.length = 2
  l1 : 0 < w1.length
  l2 : ks.length = 3
  g0 : ∀ s ∈ w0, Wd s
  g1 : ∀ s ∈ w1, Wd s
  g2 : ∀ k ∈ ks, VT (.val k)
def Wo (H : Hp) (d : Addr) (x : V) : Prop := ∃ a p0 p1 p2 w0 w1 ks, x = .ref a ∧ WoD H d a p0 p1 p2 w0 w1 ks
theorem WoD.kd {H H' : Hp} {d a p0 p1 p2 : Addr} {w0 w1 : List Str} {ks : List Key} (w : WoD H d a p0 p1 p2 w0 w1 ks) (e : Kd d H H') : WoD H' d a p0 p1 p2 w0 w1 ks :=
  ⟨e.ob _ _ w.na w.ha, e.ob _ _ w.n0 w.h0, e.ob _ _ w.n1 w.h1, e.ob _ _ w.n2 w.h2, w.na, w.n0, w.n1, w.n2, w.l0, w.l1, w.l2, w.g0, w.g1, w.g2⟩
theorem Wo.kd {H H' : Hp} {d : Addr} {x : V} (w : Wo H d x) (e : Kd d H H') : Wo H' d x := by
  obtain ⟨a, p0, p1, p2, w0, w1, ks, h, w⟩ := w
  exact ⟨a, p0, p1, p2, w0, w1, ks, h, w.kd e⟩
def VA (k : Nat) (a : Atm) : Prop := Wd a.1 ∧ (∀ t ∈ a.2, VT t) ∧ a.2.length ≤ k
def spWo : Sp := fun vs H Q _ => ∃ d : Addr, vs = [.ref d] ∧ Dr H d ∧ ∀ x H', Kd d H H' → Wo H' d x → Q x H'
def spTe : Sp := fun vs H Q _ => ∃ (d : Addr) (x : V), vs = [.ref d, x] ∧ Dr H d ∧ Wo H d x ∧ ∀ t v H', VT t → Kd d H H' → Tp H' v (encTm t) → Q v H'
def spAt : Sp := fun vs H Q _ => ∃ (d : Addr) (x : V), vs = [.ref d, x] ∧ Dr H d ∧ Wo H d x ∧ ∀ a v H', VA 3 a → Kd d H H' → Tp H' v (encAt a) → Q v H'
def spDw (K : PySem.W.Frag) : Sp := fun vs H Q _ => ∃ (a : Addr) (ns : List Int), vs = [.ref a, .int 500] ∧ SqL K H a (ns.map V.int) ∧ ns.length ≤ 50000 ∧ ∀ d H', H d = none → Same H H' → Dr H' d → Q (.ref d) H'
section
variable {P : Program} {w : World} {K : PySem.W.Frag} {mg : Str → Option Value} {base : Heap}
theorem sc_l_take : FnScope ["_law_draws_here", "_law_many"] ["_law_draws_here", "_law_many"] (defScope st_l_take) := ⟨rfl, rfl, rfl, by decide +kernel, rfl, by decide +kernel, by decide +kernel⟩
-- slots: 0 _law_draws_here, 1 _law_many
theorem ok_l_take (F : Def' K mg "_law_take" st_l_take) (B : Bt mg) : Cal P w K mg base 1 "_law_take" spTak [] := by
  refine cal_mk F sc_l_take (fun _ _ _ _ _ _ us hl => match us, hl with | [_, _], _ => rfl) (fun vs H Q E h => ?_) (fun f cdv A outer s H vs Q E hr h => ?_)
  · obtain ⟨d, n, rfl, _⟩ := h
    rfl
  · obtain ⟨d, n, rfl, hd, hn, k⟩ := h
    have nd := sc_l_take.nd
    refine ⟨_, (pss_cons (ps_if (pt_cmpR op_eq (pe_callB lenS rfl B.len_ bt_len (pa_cons (pv 0) pa_nil)) pe_int (nomark _))
      (pss_one (ps_ret pe_int))
      pss_nil)
      (pss_one (ps_ret (pe_op op_mod (pe_callTy call_int1 rfl B.int_ bt_int (pa_cons (peLM0 PySem.F.slot_list_pop PySem.F.type_list_pop mt_pop (pv 0)) pa_nil)) (pv 1))))), ?_⟩
    obtain ⟨ns, hns⟩ := id hd
    refine ⟨_, rfl, d, _, rfl, .inl hns, rfl, _, rfl, iteD (fun _ => k 0 _ (Int.le_refl _) hn (.refl hd)) (fun hne => ?_)⟩
    have hne : ns ≠ [] := fun z => hne (by rw [z]; rfl)
    obtain ⟨ms, z, rfl⟩ : ∃ ms z, ns = ms ++ [z] := ⟨_, _, (List.dropLast_concat_getLast hne).symm⟩
    refine ⟨_, rfl, ⟨d, _, rfl, hns⟩, d, _, .int z, rfl, rfl, hns, ?_, .inl ⟨z, rfl, ?_⟩⟩
    · simp
    refine ⟨_, rfl, _, _, rfl, rfl, hn, ?_⟩
    refine k _ _ (Int.emod_nonneg _ (by omega)) (Int.emod_lt_of_pos _ hn) ⟨fun a o n q => by rw [upd_ne n]; exact q, ms, ?_⟩
    rw [upd_same, List.map_append]
    simp
theorem sc_l_pick : FnScope ["_law_draws_here", "_law_row"] ["_law_draws_here", "_law_row"] (defScope st_l_pick) := ⟨rfl, rfl, rfl, by decide +kernel, rfl, by decide +kernel, by decide +kernel⟩
-- slots: 0 _law_draws_here, 1 _law_row
theorem ok_l_pick (F : Def' K mg "_law_pick" st_l_pick) (B : Bt mg) (C_l_take : Cal P w K mg base 1 "_law_take" spTak []) : Cal P w K mg base 2 "_law_pick" spPk [] := by
  refine cal_mk F sc_l_pick (fun _ _ _ _ _ _ us hl => match us, hl with | [_, _], _ => rfl) (fun vs H Q E h => ?_) (fun f cdv A outer s H vs Q E hr h => ?_)
  · obtain ⟨d, p, xs, rfl, _⟩ := h
    rfl
  · obtain ⟨d, p, xs, rfl, hd, hp, hpd, hl, k⟩ := h
    have nd := sc_l_pick.nd
    refine ⟨_, (pss_one (ps_ret (pe_ix ixSq (pv 1) (pe_c C_l_take hr (by decide) rfl (pa_cons (pv 0) (pa_cons (pe_callB lenS rfl B.len_ bt_len (pa_cons (pv 1) pa_nil)) pa_nil))) (fun _ _ => rfl)))), ?_⟩
    refine ⟨_, rfl, _, rfl, _, rfl, p, xs, rfl, hp, d, _, rfl, hd, by omega, fun i H' h0 h1 e => ?_⟩
    obtain ⟨v, hv, hm⟩ := at_pick h0 h1
    exact ⟨p, xs, i, v, rfl, rfl, e.sq hp hpd, hv, k v H' hm e⟩
theorem sc_l_pool : FnScope ["_law_draws_here", "_law_many", "_law_pool_here", "_law_k", "_law_letters", "_law_word", "_law_j"] ["_law_draws_here", "_law_many"] (defScope st_l_pool) := ⟨rfl, rfl, rfl, by decide +kernel, rfl, by decide +kernel, by decide +kernel⟩
-- slots: 0 _law_draws_here, 1 _law_many, 2 _law_pool_here, 3 _law_k, 4 _law_letters, 5 _law_word, 6 _law_j
theorem ok_l_pool (F : Def' K mg "_law_pool" st_l_pool) (B : Bt mg) (C_l_take : Cal P w K mg base 1 "_law_take" spTak []) : Cal P w K mg base 2 "_law_pool" spPo [] := by
  refine cal_mk F sc_l_pool (fun _ _ _ _ _ _ us hl => match us, hl with | [_, _], _ => rfl) (fun vs H Q E h => ?_) (fun f cdv A outer s H vs Q E hr h => ?_)
  · obtain ⟨d, n, rfl, _⟩ := h
    rfl
  · obtain ⟨d, n, rfl, hd, hn, k⟩ := h
    have nd := sc_l_pool.nd
    refine ⟨_, (pss_cons (ps_set (i := 2) nd rfl (.inl rfl) (peL pa_nil))
      (pss_cons (ps_for PassesOwn.never rfl (pi_range1 rfl B.range_ (pa_cons (pv 1) pa_nil)) (pg_name (i := 3) nd rfl (.inl rfl))
      (pss_cons (ps_setLc (i := 4) (own := [("_law_j", 6)]) (g := (gName 6)) (tt := tYes) rfl nd rfl rfl (sw_true rfl rfl rfl (by kernel_rfl)) (pi_range1 rfl B.range_ (pa_cons (pe_op op_add pe_int (pe_c C_l_take hr (by decide) rfl (pa_cons (pv 0) (pa_cons pe_int pa_nil)))) pa_nil)) (blkOk_by (by kernel_rfl)) (fun _ _ _ _ _ => (pg_name (i := 6) nd rfl (.inl rfl))) (fun _ _ _ _ _ => pts_nil) (fun _ _ _ _ _ => (pe_ix ix_str pe_str (pe_c C_l_take hr (by decide) rfl (pa_cons (pv 0) (pa_cons pe_int pa_nil))) (fun _ _ => rfl))))
        (pss_cons (ps_set (i := 5) nd rfl (.inl rfl) (pe_join pe_str (pv 4)))
        (pss_cons (ps_ifM (pt_cmpR inS (pv 5) (pv 2) rfl)
        (pss_one (ps_set (i := 5) nd rfl (.inl rfl) (pe_op op_add_str (pe_join pe_str (pv 2)) pe_str)))
        pss_nil)
        (pss_one (ps_expr (peLM PySem.F.slot_list_append PySem.F.type_list_append mt_append (pv 2) (pa_cons (pv 5) pa_nil))))))))
      (pss_one (ps_ret (pv 2))))), ?_⟩
    refine ⟨sz0, fun D H0 hD e0 h0 => ?_⟩
    have D_d := dr_ne hD hd
    have k0 : Kd d H H0 := .same e0 hd
    refine ⟨_, rfl, (n : Int), rfl, by omega, by omega, ?_⟩
    refine for_range (fun i σ H' => ∃ (ws : List Str) (c3 c4 c5 c6 : Option V), σ = [some (.ref d), some (.int (n : Int)), some (.ref D), c3, c4, c5, c6] ∧ Kd d H H' ∧ H' D = some (.lst (ws.map V.str)) ∧ ws.length = i ∧ (∀ s ∈ ws, Wd s) ∧ (ws.map (·.length)).sum + 4 ≤ 4 * 2 ^ i)
      ⟨[], _, _, _, _, rfl, k0, h0, rfl, (fun s hs => by cases hs), by simp⟩ (fun i σ H' hi hP => ?_) (fun σ H' hP => ?_)
    · rw [Int.toNat_natCast] at hi
      obtain ⟨ws, c3, c4, c5, c6, rfl, e, hDD, hl, hw, hsum⟩ := hP
      have hp8 : 2 ^ i ≤ 256 := Nat.pow_le_pow_right (n := 2) (i := i) (j := 8) (by decide) (by omega)
      rw [Int.zero_add]
      refine ⟨_, rfl, d, 3, rfl, e.dr, by decide, fun j H2 j0 j3 e2 => ⟨_, _, rfl, rfl, _, rfl, by omega, by omega, lc_drv (fv := fun c : Nat => V.str ⟨#[c]⟩) (Pr := fun c => c ∈ letters.cps.toList) e2.dr (by omega) (fun m H3 hm e3 R Qy kY => ⟨rfl, yesI ?_⟩) (fun L H3 cs _ e3 hL hlc hcs => ?_)⟩⟩
      · refine ⟨_, rfl, d, 26, rfl, e3.dr, by decide, fun c H4 c0 c26 e4 => ?_⟩
        obtain ⟨ch, hch, hm⟩ := at_pick (xs := letters.cps.toList) c0 (by rw [show letters.cps.toList.length = 26 by decide +kernel]; exact c26)
        exact ⟨letters, c, ch, rfl, rfl, by decide +kernel, hch, kY H4 ch e4 hm⟩
      · have e03 := e.trans (e2.trans e3)
        have hD3 := (e2.trans e3).ob _ _ D_d hDD
        have hj : (1 + j).toNat ≤ 3 := by omega
        have hlen1 : (cs.map fun c => (⟨#[c]⟩ : Str)).map (·.length) = cs.map fun _ => 1 := by rw [List.map_map]; rfl
        have hs1 : ((cs.map fun c => (⟨#[c]⟩ : Str)).map (·.length)).sum = cs.length := by
          rw [hlen1]
          exact sum_ones cs
        have hmm : cs.map (fun c : Nat => V.str ⟨#[c]⟩) = (cs.map fun c => (⟨#[c]⟩ : Str)).map V.str := by rw [List.map_map]; rfl
        rw [hmm] at hL
        have hwd : Wd (Txt.join "" (cs.map fun c => (⟨#[c]⟩ : Str))) := by
          refine wd_join (fun y hy c hc => ?_) ?_
          · obtain ⟨c', hc', rfl⟩ := List.mem_map.mp hy
            have : c = c' := by simpa using hc
            rw [this]
            exact hcs c' hc'
          · cases cs with
            | nil =>
              exfalso
              have hlc : 0 = (1 + j).toNat := hlc
              omega
            | cons c cs => exact ⟨_, List.mem_map.mpr ⟨c, List.mem_cons_self, rfl⟩, by simp⟩
        have hwl : (Txt.join "" (cs.map fun c => (⟨#[c]⟩ : Str))).length ≤ 3 := by
          rw [len_join, hs1, hlc]
          exact hj
        generalize hw0 : Txt.join "" (cs.map fun c => (⟨#[c]⟩ : Str)) = w0 at hwd hwl
        refine ⟨⟨_, rfl⟩, _, rfl, _, L, (cs.map fun c => (⟨#[c]⟩ : Str)), rfl, rfl, .inl (SqL.of hL), by rw [hs1, hlc]; show _ + _ * 0 ≤ _; omega, ?_⟩
        rw [hw0]
        refine ⟨fun σ H' => ∃ (s : Str) (c4 c6 : Option V), σ = [some (.ref d), some (.int (n : Int)), some (.ref D), some (.int (i : Nat)), c4, some (.str s), c6] ∧ Wd s ∧ s.length ≤ (ws.map (·.length)).sum + 3 ∧ H' = H3, ?_, ?_⟩
        · refine ⟨_, rfl, _, rfl, D, _, rfl, .inl hD3, rfl, flat_strs ws, _, rfl, iteB (fun hin => ?_) (fun _ => ?_)⟩
          · rw [show (if false = true then !inV (V.str w0) (ws.map V.str) else inV (V.str w0) (ws.map V.str)) = inV (V.str w0) (ws.map V.str) from rfl, inV_str] at hin
            have hin := of_decide_eq_true hin
            refine ⟨⟨_, rfl⟩, _, rfl, _, D, ws, rfl, rfl, .inl (SqL.of hD3), by show _ + _ * 0 ≤ _; omega, _, _, rfl, rfl, ?_, _, _, _, rfl, ?_, ?_, rfl⟩
            · rw [len_join]
              exact szl (by show _ + 1 ≤ _; omega)
            · have hz : ∀ c ∈ ((("z" : Str)).cps.toList), c ∈ letters.cps.toList := by decide +kernel
              have happ : (Txt.join "" ws ++ ("z" : Str)).cps.toList = (Txt.join "" ws).cps.toList ++ ("z" : Str).cps.toList := by
                show ((Txt.join "" ws).cps ++ ("z" : Str).cps).toList = _
                rw [Array.toList_append]
              refine wd_of (fun c hc => ?_) ?_
              · rw [happ] at hc
                rcases List.mem_append.mp hc with hc | hc
                · exact (wd_join (fun y hy => (hw y hy).2.2) ⟨w0, hin, fun zz => hwd.2.1 (by
                    cases w0 with
                    | mk a =>
                      have : a = #[] := Array.toList_eq_nil_iff.mp zz
                      rw [this]
                      rfl)⟩).2.2 c hc
                · exact hz c hc
              · rw [happ]
                intro zz
                have := (List.append_eq_nil_iff.mp zz).2
                revert this
                decide +kernel
            · show (Txt.join "" ws ++ ("z" : Str)).cps.size ≤ _
              rw [show (Txt.join "" ws ++ ("z" : Str)).cps = (Txt.join "" ws).cps ++ ("z" : Str).cps from rfl, Array.size_append]
              have := len_join ws
              have h1 : (Txt.join "" ws).cps.size = (Txt.join "" ws).length := rfl
              rw [h1, this]
              show _ + 1 ≤ _
              omega
          · exact ⟨_, _, _, rfl, hwd, by omega, rfl⟩
        · rintro σ H' ⟨s, c4, c6, rfl, hws, hsl, rfl⟩
          refine ⟨_, rfl, ⟨D, _, rfl, hD3⟩, _, rfl, D, _, _, rfl, rfl, hD3, szt (by rw [List.length_map]; omega), ?_⟩
          refine ⟨ws ++ [s], _, _, _, _, rfl, ⟨fun a o na q => ?_, ?_⟩, by rw [upd_same, List.map_append]; rfl, by rw [List.length_append, hl]; rfl, ?_, ?_⟩
          · rw [upd_ne (ne_of_none q hD)]
            exact e03.ob a o na q
          · obtain ⟨ns, q⟩ := e03.dr
            exact ⟨ns, by rw [upd_ne D_d.symm]; exact q⟩
          · intro z hz
            rcases List.mem_append.mp hz with hz | hz
            · exact hw z hz
            · rw [List.mem_singleton] at hz
              rw [hz]
              exact hws
          · rw [List.map_append, List.sum_append, Nat.pow_succ]
            show _ + (s.length + 0) + 4 ≤ _
            omega
    · rw [Int.toNat_natCast] at hP
      obtain ⟨ws, c3, c4, c5, c6, rfl, e, hDD, hl, hw, hsum⟩ := hP
      exact ⟨_, rfl, k D ws H' hD e hDD hl hw⟩
theorem sc_l_values : FnScope ["_law_draws_here", "_law_words", "_law_low", "_law_values_here"] ["_law_draws_here", "_law_words"] (defScope st_l_values) := ⟨rfl, rfl, rfl, by decide +kernel, rfl, by decide +kernel, by decide +kernel⟩
-- slots: 0 _law_draws_here, 1 _law_words, 2 _law_low, 3 _law_values_here
theorem ok_l_values (F : Def' K mg "_law_values" st_l_values) (B : Bt mg) (C_l_take : Cal P w K mg base 1 "_law_take" spTak []) : Cal P w K mg base 2 "_law_values" spVs [] := by
  refine cal_mk F sc_l_values (fun _ _ _ _ _ _ us hl => match us, hl with | [_, _], _ => rfl) (fun vs H Q E h => ?_) (fun f cdv A outer s H vs Q E hr h => ?_)
  · obtain ⟨d, p, ws, rfl, _⟩ := h
    rfl
  · obtain ⟨d, p, ws, rfl, hd, hp, npd, hl, hw, k⟩ := h
    have nd := sc_l_values.nd
    refine ⟨_, (pss_cons (ps_set (i := 2) nd rfl (.inl rfl) (pe_op op_sub (pe_c C_l_take hr (by decide) rfl (pa_cons (pv 0) (pa_cons pe_int pa_nil))) pe_int))
      (pss_cons (ps_set (i := 3) nd rfl (.inl rfl) (peL (pa_cons (pv 2) (pa_cons (pe_op op_add (pe_op op_add (pv 2) pe_int) (pe_c C_l_take hr (by decide) rfl (pa_cons (pv 0) (pa_cons pe_int pa_nil)))) (pa_cons (pe_ix ixL (pv 1) pe_int (fun _ _ => rfl)) pa_nil)))))
      (pss_cons (ps_if (pt_cmpR op_eq (pe_c C_l_take hr (by decide) rfl (pa_cons (pv 0) (pa_cons pe_int pa_nil))) pe_int (nomark _))
      (pss_one (ps_asg (pe_ix ixL (pv 1) pe_int (fun _ _ => rfl)) (pg_sub (pv 3) pe_int set_list)))
      pss_nil)
      (pss_one (ps_ret (pv 3)))))), ?_⟩
    obtain ⟨s0, s1, wr, rfl⟩ : ∃ s0 s1 wr, ws = s0 :: s1 :: wr := by
      match ws, hl with
      | s0 :: s1 :: wr, _ => exact ⟨s0, s1, wr, rfl⟩
    have g0 := hw s0 List.mem_cons_self
    have g1 := hw s1 (List.mem_cons_of_mem _ List.mem_cons_self)
    refine ⟨_, rfl, d, 7, rfl, hd, by decide, fun i H1 _ _ e1 => ?_⟩
    refine ⟨_, _, rfl, rfl, ?_⟩
    refine ⟨_, rfl, _, rfl, _, _, rfl, rfl, _, rfl, d, 5, rfl, e1.dr, by decide, fun j H2 _ _ e2 => ⟨_, _, rfl, rfl, _, rfl, p, _, 0, _, rfl, rfl, (e1.trans e2).ob _ _ npd hp, atI_nat (i := 0) rfl, sz3, fun L H3 hL0 e3 hL => ?_⟩⟩
    have L_d := dr_ne hL0 e2.dr
    have e13 := (e1.trans e2).then_ e3
    refine ⟨_, rfl, d, 3, rfl, e13.dr, by decide, fun m H4 _ _ e4 => ⟨rfl, _, rfl, iteD (fun _ => ?_) (fun _ => ?_)⟩⟩
    · have hL4 := e4.ob _ _ L_d hL
      have hp4 := (e13.trans e4).ob _ _ npd hp
      refine ⟨_, rfl, p, _, 1, _, rfl, rfl, hp4, atI_nat (i := 1) rfl, ?_⟩
      refine ⟨_, rfl, L, _, 1, 1, rfl, rfl, hL4, rfl, ?_⟩
      refine ⟨_, rfl, k L [.inl (i - 3), .inr s1, .inr s0] _ (none_kd (e1.trans e2) hL0 hd) (kd_mut (e13.trans e4) (none_kd (e1.trans e2) hL0 hd) hd) upd_same rfl ?_⟩
      · intro k hk
        rcases List.mem_cons.mp hk with rfl | hk
        · trivial
        rcases List.mem_cons.mp hk with rfl | hk
        · exact g1
        rw [List.mem_singleton] at hk
        rw [hk]
        exact g0
    · refine ⟨_, rfl, k L [.inl (i - 3), .inl (i - 3 + 1 + j), .inr s0] _ (none_kd (e1.trans e2) hL0 hd) (e13.trans e4) (e4.ob _ _ L_d hL) rfl ?_⟩
      intro k hk
      rcases List.mem_cons.mp hk with rfl | hk
      · trivial
      rcases List.mem_cons.mp hk with rfl | hk
      · trivial
      rw [List.mem_singleton] at hk
      rw [hk]
      exact g0
theorem sc_l_value : FnScope ["_law_draws_here", "_law_values_here"] ["_law_draws_here", "_law_values_here"] (defScope st_l_value) := ⟨rfl, rfl, rfl, by decide +kernel, rfl, by decide +kernel, by decide +kernel⟩
-- slots: 0 _law_draws_here, 1 _law_values_here
theorem ok_l_value (F : Def' K mg "_law_value" st_l_value) (B : Bt mg) (C_l_take : Cal P w K mg base 1 "_law_take" spTak []) : Cal P w K mg base 2 "_law_value" spVl [] := by
  refine cal_mk F sc_l_value (fun _ _ _ _ _ _ us hl => match us, hl with | [_, _], _ => rfl) (fun vs H Q E h => ?_) (fun f cdv A outer s H vs Q E hr h => ?_)
  · obtain ⟨d, p, ks, rfl, _⟩ := h
    rfl
  · obtain ⟨d, p, ks, rfl, hd, hp, npd, hl, hw, k⟩ := h
    have nd := sc_l_value.nd
    refine ⟨_, (pss_one (ps_ret (pe_ix ixL (pv 1) (pe_ix ixL (peL (pa_cons pe_int (pa_cons pe_int (pa_cons pe_int (pa_cons pe_int (pa_cons pe_int pa_nil)))))) (pe_c C_l_take hr (by decide) rfl (pa_cons (pv 0) (pa_cons pe_int pa_nil))) (fun _ _ => rfl)) (fun _ _ => rfl)))), ?_⟩
    refine ⟨_, rfl, sz_5, fun L H1 hL0 e1 hL => ?_⟩
    have L_d := dr_ne hL0 hd
    have k1 : Kd d H H1 := .same e1 hd
    refine ⟨_, rfl, d, 5, rfl, k1.dr, by decide, fun i H2 i0 i5 e2 => ?_⟩
    obtain ⟨v, hv, hm⟩ := at_pick (xs := [V.int 0, .int 1, .int 0, .int 2, .int 1]) i0 i5
    have hz : ∃ z : Int, v = .int z ∧ 0 ≤ z ∧ z < 3 := by
      simp only [List.mem_cons, List.not_mem_nil, or_false] at hm
      rcases hm with rfl | rfl | rfl | rfl | rfl <;> exact ⟨_, rfl, by decide, by decide⟩
    obtain ⟨z, rfl, z0, z3⟩ := hz
    obtain ⟨x, hx, hxm⟩ := at_pick (xs := ks.map kV) (i := z) z0 (by rw [List.length_map, hl]; exact z3)
    obtain ⟨q, hq, rfl⟩ := List.mem_map.mp hxm
    exact ⟨L, _, i, _, rfl, rfl, e2.ob _ _ L_d hL, hv, p, _, z, _, rfl, rfl, (k1.trans e2).ob _ _ npd hp, hx, k q H2 (hw q hq) (k1.trans e2)⟩
theorem sc_l_world : FnScope ["_law_draws_here", "_law_pool_here"] ["_law_draws_here"] (defScope st_l_world) := ⟨rfl, rfl, rfl, by decide +kernel, rfl, by decide +kernel, by decide +kernel⟩
-- slots: 0 _law_draws_here, 1 _law_pool_here
theorem ok_l_world (F : Def' K mg "_law_world" st_l_world) (B : Bt mg) (C_l_pool : Cal P w K mg base 2 "_law_pool" spPo []) (C_l_values : Cal P w K mg base 2 "_law_values" spVs []) : Cal P w K mg base 3 "_law_world" spWo [] := by
  refine cal_mk F sc_l_world (fun _ _ _ _ _ _ us hl => match us, hl with | [_], _ => rfl) (fun vs H Q E h => ?_) (fun f cdv A outer s H vs Q E hr h => ?_)
  · obtain ⟨d, rfl, _⟩ := h
    rfl
  · obtain ⟨d, rfl, hd, k⟩ := h
    have nd := sc_l_world.nd
    refine ⟨_, (pss_cons (ps_set (i := 1) nd rfl (.inl rfl) (pe_c C_l_pool hr (by decide) rfl (pa_cons (pv 0) (pa_cons pe_int pa_nil))))
      (pss_one (ps_ret (peL (pa_cons (pe_slice slL (pv 1) po_none (po_some pe_int)) (pa_cons (pe_callB cr_sortedS rfl B.sorted_ bt_sorted (pa_cons (pe_slice slL (pv 1) (po_some pe_int) po_none) pa_nil)) (pa_cons (pe_c C_l_values hr (by decide) rfl (pa_cons (pv 0) (pa_cons (pv 1) pa_nil))) pa_nil))))))), ?_⟩
    refine ⟨_, rfl, d, 5, rfl, hd, by decide, fun p ws H1 hp0 e1 hp hl hw => ?_⟩
    have np := dr_ne hp0 hd
    obtain ⟨s0, s1, s2, s3, s4, rfl⟩ : ∃ s0 s1 s2 s3 s4, ws = [s0, s1, s2, s3, s4] := by
      match ws, hl with
      | [s0, s1, s2, s3, s4], _ => exact ⟨s0, s1, s2, s3, s4, rfl⟩
    refine ⟨_, rfl, _, rfl, p, _, rfl, hp, fun A H2 hA0 e2 hA => ?_⟩
    have kA : Kd d H1 H2 := .same e2 e1.dr
    have nA := dr_ne hA0 e1.dr
    refine ⟨_, rfl, _, rfl, p, _, rfl, e2 _ _ hp, fun C H3 hC0 e3 hC => ?_⟩
    refine ⟨C, [s2, s3, s4], rfl, SqL.of hC, (by show 3 < 64; decide), fun ys S hperm _ hS0 => ?_⟩
    have hS : (upd H3 S (.lst (ys.map V.str))) S = some (.lst (ys.map V.str)) := upd_same
    have e4 := same_new (o := .lst (ys.map V.str)) hS0
    generalize upd H3 S (.lst (ys.map V.str)) = H4 at hS e4
    have kd4 : Kd d H1 H4 := kA.trans (.same (e3.trans e4) kA.dr)
    have nS := dr_ne hS0 (Kd.same e3 kA.dr).dr
    refine ⟨_, rfl, _, rfl, d, p, [s0, s1, s2, s3, s4], rfl, kd4.dr, kd4.ob _ _ np hp, np, (by show 2 ≤ 5; decide), hw, fun B0 ks H5 hB0 e5 hB hkl hkw => ?_⟩
    have nB := dr_ne hB0 kd4.dr
    refine ⟨sz3, fun W H6 hW0 e6 hW => ?_⟩
    have nW := dr_ne hW0 e5.dr
    refine k _ H6 (e1.trans (kd4.trans (e5.then_ e6))) ⟨W, A, S, B0, [s0, s1], ys, ks, rfl, hW, ?_, ?_, e6 _ _ hB, nW, nA, nS, nB, rfl, ?_, hkl, ?_, ?_, hkw⟩
    · exact e6 _ _ (e5.ob _ _ nA ((e3.trans e4) _ _ hA))
    · exact e6 _ _ (e5.ob _ _ nS hS)
    · rw [hperm.length_eq]
      show 0 < 3
      decide
    · exact fun s hs => hw s (by simp at hs ⊢; rcases hs with h | h <;> simp [h])
    · exact fun s hs => hw s (by
        have := hperm.mem_iff.mp hs
        simp at this ⊢
        rcases this with h | h | h <;> simp [h])
theorem sc_l_term : FnScope ["_law_draws_here", "_law_world_here"] ["_law_draws_here", "_law_world_here"] (defScope st_l_term) := ⟨rfl, rfl, rfl, by decide +kernel, rfl, by decide +kernel, by decide +kernel⟩
-- slots: 0 _law_draws_here, 1 _law_world_here
theorem ok_l_term (F : Def' K mg "_law_term" st_l_term) (B : Bt mg) (C_l_take : Cal P w K mg base 1 "_law_take" spTak []) (C_l_pick : Cal P w K mg base 2 "_law_pick" spPk []) (C_l_value : Cal P w K mg base 2 "_law_value" spVl []) : Cal P w K mg base 3 "_law_term" spTe [] := by
  refine cal_mk F sc_l_term (fun _ _ _ _ _ _ us hl => match us, hl with | [_, _], _ => rfl) (fun vs H Q E h => ?_) (fun f cdv A outer s H vs Q E hr h => ?_)
  · obtain ⟨d, x, rfl, _⟩ := h
    rfl
  · obtain ⟨d, x, rfl, hd, hx, k⟩ := h
    have nd := sc_l_term.nd
    refine ⟨_, (pss_cons (ps_if (pt_cmpR op_eq (pe_c C_l_take hr (by decide) rfl (pa_cons (pv 0) (pa_cons pe_int pa_nil))) pe_int (nomark _))
      (pss_one (ps_ret (peT (pa_cons pe_str (pa_cons (pe_c C_l_value hr (by decide) rfl (pa_cons (pv 0) (pa_cons (pe_ix ixL (pv 1) pe_int (fun _ _ => rfl)) pa_nil))) pa_nil)))))
      pss_nil)
      (pss_one (ps_ret (peT (pa_cons pe_str (pa_cons (pe_c C_l_pick hr (by decide) rfl (pa_cons (pv 0) (pa_cons (pe_ix ixL (pv 1) pe_int (fun _ _ => rfl)) pa_nil))) pa_nil)))))), ?_⟩
    obtain ⟨a, p0, p1, p2, w0, w1, ks, rfl, W⟩ := hx
    refine ⟨_, rfl, d, 5, rfl, hd, by decide, fun i H1 _ _ e1 => ⟨rfl, _, rfl, iteD (fun _ => ?_) (fun _ => ?_)⟩⟩
    · have W1 := W.kd e1
      refine ⟨_, rfl, _, rfl, a, _, 2, _, rfl, rfl, W1.ha, rfl, d, p2, ks, rfl, e1.dr, W1.h2, W.n2, W.l2, W.g2, fun q H2 hq e2 => ⟨sz2, fun T H3 _ e3 hT => ?_⟩⟩
      exact k (.val q) _ H3 hq (e1.trans (e2.then_ e3)) (tmI (t := .val q) hT (VT.ok hq))
    · have W1 := W.kd e1
      refine ⟨_, rfl, _, rfl, a, _, 1, _, rfl, rfl, W1.ha, rfl, d, p1, _, rfl, e1.dr, .inl W1.h1, W.n1, by rw [List.length_map]; exact W.l1, fun v H2 hv e2 => ⟨sz2, fun T H3 _ e3 hT => ?_⟩⟩
      obtain ⟨s, hs, rfl⟩ := List.mem_map.mp hv
      have hq := W.g1 s hs
      exact k (.var s) _ H3 hq (e1.trans (e2.then_ e3)) (tmI (t := .var s) hT hq.1)
theorem sc_l_atom : FnScope ["_law_draws_here", "_law_world_here", "_law_at", "_law_many", "_law_k"] ["_law_draws_here", "_law_world_here"] (defScope st_l_atom) := ⟨rfl, rfl, rfl, by decide +kernel, rfl, by decide +kernel, by decide +kernel⟩
-- slots: 0 _law_draws_here, 1 _law_world_here, 2 _law_at, 3 _law_many, 4 _law_k
theorem ok_l_atom (F : Def' K mg "_law_atom" st_l_atom) (B : Bt mg) (C_l_take : Cal P w K mg base 1 "_law_take" spTak []) (C_l_term : Cal P w K mg base 3 "_law_term" spTe []) : Cal P w K mg base 4 "_law_atom" spAt [] := by
  refine cal_mk F sc_l_atom (fun _ _ _ _ _ _ us hl => match us, hl with | [_, _], _ => rfl) (fun vs H Q E h => ?_) (fun f cdv A outer s H vs Q E hr h => ?_)
  · obtain ⟨d, x, rfl, _⟩ := h
    rfl
  · obtain ⟨d, x, rfl, hd, hx, k⟩ := h
    have nd := sc_l_atom.nd
    refine ⟨_, (pss_cons (ps_set (i := 2) nd rfl (.inl rfl) (pe_op op_fdiv (pe_c C_l_take hr (by decide) rfl (pa_cons (pv 0) (pa_cons pe_int pa_nil))) pe_int))
      (pss_cons (ps_set (i := 3) nd rfl (.inl rfl) (pe_op op_sub pe_int (pv 2)))
      (pss_cons (ps_ifM (pt_cmpR op_eq (pe_c C_l_take hr (by decide) rfl (pa_cons (pv 0) (pa_cons pe_int pa_nil))) pe_int (nomark _))
      (pss_one (ps_set (i := 3) nd rfl (.inl rfl) (pe_c C_l_take hr (by decide) rfl (pa_cons (pv 0) (pa_cons pe_int pa_nil)))))
      pss_nil)
      (pss_one (ps_ret (peT (pa_cons (pe_ix ixL (pe_ix ixL (pv 1) pe_int (fun _ _ => rfl)) (pv 2) (fun _ _ => rfl)) (pa_cons (pe_callTy tupOf rfl B.tuple_ bt_tuple (pa_cons (pe_lc (own := [("_law_k", 4)]) (g := (gName 4)) (tt := tYes) rfl nd (pi_range1 rfl B.range_ (pa_cons (pv 3) pa_nil)) (blkOk_by (by kernel_rfl)) (fun _ _ _ _ _ => (pg_name (i := 4) nd rfl (.inl rfl))) (fun _ _ _ _ _ => pts_nil) (fun _ _ _ _ _ => (pe_c C_l_term hr (by decide) rfl (pa_cons (pv 0) (pa_cons (pv 1) pa_nil))))) pa_nil)) pa_nil)))))))), ?_⟩
    obtain ⟨a, p0, p1, p2, w0, w1, ks, rfl, W⟩ := id hx
    refine ⟨_, rfl, d, 3, rfl, hd, by decide, fun i H1 i0 i3 e1 => ?_⟩
    refine ⟨_, _, rfl, rfl, ⟨by decide, by decide⟩, ?_⟩
    refine ⟨_, rfl, _, _, rfl, rfl, ?_⟩
    have j0 : 0 ≤ (i / 2) := by omega
    have j1 : (i / 2) ≤ 1 := by omega
    refine ⟨fun σ H' => ∃ (m : Int) (c4 : Option V), σ = [some (.ref d), some (.ref a), some (.int (i / 2)), some (.int m), c4] ∧ 0 ≤ m ∧ m ≤ 3 ∧ Kd d H H', ?_, ?_⟩
    · refine ⟨_, rfl, d, 12, rfl, e1.dr, by decide, fun z H2 _ _ e2 => ⟨rfl, _, rfl, iteD (fun _ => ?_) (fun _ => ?_)⟩⟩
      · exact ⟨_, rfl, d, 4, rfl, e2.dr, by decide, fun m H3 m0 m3 e3 => ⟨m, _, rfl, m0, by omega, e1.trans (e2.trans e3)⟩⟩
      · exact ⟨2 - i / 2, _, rfl, by omega, by omega, e1.trans e2⟩
    · rintro σ H1 ⟨m, c4, rfl, m0, m3, e1⟩
      have W1 := W.kd e1
      obtain ⟨sv, hsv, hsm⟩ := at_pick (xs := w0.map V.str) (i := i / 2) j0 (by rw [List.length_map, W.l0]; omega)
      obtain ⟨s, hs, rfl⟩ := List.mem_map.mp hsm
      refine ⟨_, rfl, a, _, 0, _, rfl, rfl, W1.ha, rfl, _, rfl, p0, _, i / 2, _, rfl, rfl, W1.h0, hsv, ?_⟩
      refine ⟨_, rfl, m, rfl, by omega, by omega, lc_dr (enc := encTm) (Pr := VT) e1.dr (by omega) (fun i' H2 hi e2 R Qy kY => ⟨rfl, yesI ?_⟩) (fun L lv H2 ts hL0 e2 hL hlen hts tL => ?_)⟩
      · exact ⟨_, rfl, _, rfl, d, .ref a, rfl, e2.dr, hx.kd (e1.trans e2), fun t v H3 ht e3 hv => kY v H3 t e3 ht hv⟩
      · refine ⟨L, lv, rfl, hL, fun T H3 _ e3 hT => ⟨sz2, fun U H4 _ e4 hU => ?_⟩⟩
        have e34 := e3.trans e4
        exact k (s, ts) _ H4 ⟨W.g0 s hs, hts, by show ts.length ≤ 3; rw [hlen]; omega⟩ (e1.trans (e2.then_ e34)) (atI' (a := (s, ts)) hU (hT.same e4) (tL.mono (Same.tx e34)) (W.g0 s hs).1)
theorem sc_l_draws : FnScope ["_law_script", "_law_many", "_law_cells", "_law_rest", "_law_draws_here", "_law_k", "_law_at", "_law_mixed", "_law_cell"] ["_law_script", "_law_many"] (defScope st_l_draws) := ⟨rfl, rfl, rfl, by decide +kernel, rfl, by decide +kernel, by decide +kernel⟩
-- slots: 0 _law_script, 1 _law_many, 2 _law_cells, 3 _law_rest, 4 _law_draws_here, 5 _law_k, 6 _law_at, 7 _law_mixed, 8 _law_cell
theorem ok_l_draws (F : Def' K mg "_law_draws" st_l_draws) (B : Bt mg) : Cal P w K mg base 1 "_law_draws" (spDw K) [] := by
  refine cal_mk F sc_l_draws (fun _ _ _ _ _ _ us hl => match us, hl with | [_, _], _ => rfl) (fun vs H Q E h => ?_) (fun f cdv A outer s H vs Q E hr h => ?_)
  · obtain ⟨a, ns, rfl, _⟩ := h
    rfl
  · obtain ⟨a, ns, rfl, ha, hn, k⟩ := h
    have nd := sc_l_draws.nd
    refine ⟨_, (pss_cons (ps_setLc (i := 2) (own := [("_law_cell", 8)]) (g := (gName 8)) (tt := tYes) rfl nd rfl rfl (sw_true rfl rfl rfl (by kernel_rfl)) (piL (K := K) rfl (pv 0)) (blkOk_by (by kernel_rfl)) (fun _ _ _ _ _ => (pg_name (i := 8) nd rfl (.inl rfl))) (fun _ _ _ _ _ => pts_nil) (fun _ _ _ _ _ => (pe_callTy call_int1 rfl B.int_ bt_int (pa_cons (pv 8) pa_nil))))
      (pss_cons (ps_ifM (pt_cmpR op_eq (pe_callB lenS rfl B.len_ bt_len (pa_cons (pv 2) pa_nil)) pe_int (nomark _))
      (pss_one (ps_expr (peLM PySem.F.slot_list_append PySem.F.type_list_append mt_append (pv 2) (pa_cons pe_int pa_nil))))
      pss_nil)
      (pss_cons (ps_set (i := 3) nd rfl (.inl rfl) (pe_callTy listOf rfl B.list_ bt_list (pa_cons (pv 2) pa_nil)))
      (pss_cons (ps_set (i := 4) nd rfl (.inl rfl) (peL pa_nil))
      (pss_cons (ps_for PassesOwn.never rfl (pi_range1 rfl B.range_ (pa_cons (pv 1) pa_nil)) (pg_name (i := 5) nd rfl (.inl rfl))
      (pss_cons (ps_set (i := 6) nd rfl (.inl rfl) (pe_op op_mod (pv 5) (pe_callB lenS rfl B.len_ bt_len (pa_cons (pv 2) pa_nil))))
        (pss_one (ps_if (pt_cmpR op_ge (pe_ix ixL (pv 2) (pv 6) (fun _ _ => rfl)) (pe_op op_pow pe_int pe_int) (nomark _))
        (pss_cons (ps_expr (peLM PySem.F.slot_list_append PySem.F.type_list_append mt_append (pv 4) (pa_cons (pe_op op_mod (pe_callTy call_int1 rfl B.int_ bt_int (pa_cons (pe_ix ixL (pv 3) (pv 6) (fun _ _ => rfl)) pa_nil)) pe_int) pa_nil)))
          (pss_one (ps_asg (pe_op op_fdiv (pe_ix ixL (pv 3) (pv 6) (fun _ _ => rfl)) pe_int) (pg_sub (pv 3) (pv 6) set_list))))
        (pss_cons (ps_set (i := 7) nd rfl (.inl rfl) (pe_op op_mod (pe_callTy call_int1 rfl B.int_ bt_int (pa_cons (pe_op op_add (pe_op op_add (pe_op op_mul (pe_ix ixL (pv 2) (pv 6) (fun _ _ => rfl)) pe_int) (pe_op op_mul (pv 5) pe_int)) pe_int) pa_nil)) pe_int))
          (pss_one (ps_expr (peLM PySem.F.slot_list_append PySem.F.type_list_append mt_append (pv 4) (pa_cons (pe_op op_mod (pe_callTy call_int1 rfl B.int_ bt_int (pa_cons (pe_op op_add (pe_op op_add (pe_op op_mul (pv 7) (pv 7)) (pe_op op_mul pe_int (pv 7))) (pv 5)) pa_nil)) pe_int) pa_nil)))))))))
      (pss_cons (ps_expr (peLM0 PySem.F.slot_list_reverse PySem.F.type_list_reverse mt_reverse (pv 4)))
      (pss_one (ps_ret (pv 4))))))))), ?_⟩
    refine ⟨_, rfl, a, rfl, ⟨_, ha⟩, lc_lvS (l := ns) (ea := T.int) (fv := V.int) (c := fun _ => true) (fun H' e => sqL_same ha e) (tps_ints ns) (by omega) (fun z hz v H2 e2 hv R Qy _ kY => ⟨rfl, yesI ?_⟩) (fun C H1 hC0 e1 hC => ?_)⟩
    · rw [hv.intE]
      exact ⟨_, rfl, .inl ⟨z, rfl, kY rfl _ _ (Same.refl _) rfl⟩⟩
    rw [filter_yes] at hC
    refine ⟨fun σ H' => ∃ (ms : List Int) (c8 : Option V), σ = [some (.ref a), some (.int 500), some (.ref C), none, none, none, none, none, c8] ∧ Same H H' ∧ H' C = some (.lst (ms.map V.int)) ∧ 0 < ms.length ∧ ms.length ≤ 50001, ?_, ?_⟩
    · refine ⟨_, rfl, C, _, rfl, .inl hC, rfl, _, rfl, iteD (fun _ => ?_) (fun hne => ?_)⟩
      · refine ⟨_, rfl, ⟨C, _, rfl, hC⟩, C, _, _, rfl, rfl, hC, szt (by rw [List.length_map]; omega), ?_⟩
        refine ⟨ns ++ [0], _, rfl, same_mut e1 hC0, by rw [upd_same, List.map_append]; rfl, by simp, by rw [List.length_append]; simp; omega⟩
      · refine ⟨ns, _, rfl, e1, hC, ?_, by omega⟩
        cases ns with
        | nil => exact absurd rfl hne
        | cons x xs => simp
    rintro σ H1 ⟨ms, c8, rfl, e1, hC, hpos, hle⟩
    refine ⟨_, rfl, C, _, rfl, .inl hC, fun R H2 hR0 e2 hR => ?_⟩
    refine ⟨sz0, fun D H3 hD0 e3 hD => ?_⟩
    have C_R := ne_of_none hC hR0
    have C_D := ne_of_none (e2 _ _ hC) hD0
    have R_D := ne_of_none hR hD0
    have hR0' := none_same e1 hR0
    have hD0' := none_same (e1.trans e2) hD0
    refine ⟨_, rfl, 500, rfl, by decide, by decide, ?_⟩
    refine for_range (fun i σ H' => ∃ (rs ds : List Int) (c5 c6 c7 c8 : Option V), σ = [some (.ref a), some (.int 500), some (.ref C), some (.ref R), some (.ref D), c5, c6, c7, c8] ∧ Same H H' ∧ H' C = some (.lst (ms.map V.int)) ∧ H' R = some (.lst (rs.map V.int)) ∧ H' D = some (.lst (ds.map V.int)) ∧ rs.length = ms.length ∧ ds.length = i)
      ⟨ms, [], _, _, _, _, rfl, e1.trans (e2.trans e3), (e2.trans e3) _ _ hC, e3 _ _ hR, hD, rfl, rfl⟩ (fun i σ H' hi hP => ?_) (fun σ H' hP => ?_)
    · obtain ⟨rs, ds, c5, c6, c7, c8, rfl, e, hC, hR, hD, lr, ld⟩ := hP
      have hi : i < 500 := hi
      rw [Int.zero_add]
      refine ⟨_, rfl, _, rfl, C, _, rfl, .inl hC, _, _, rfl, rfl, by rw [List.length_map]; omega, ?_⟩
      have hat : ∃ j : Nat, ((i : Nat) : Int) % ((ms.map V.int).length : Int) = (j : Int) ∧ j < ms.length := ⟨i % ms.length, by rw [List.length_map]; rfl, Nat.mod_lt _ hpos⟩
      obtain ⟨j, hj, hjl⟩ := hat
      obtain ⟨z, hz⟩ : ∃ z, ms[j]? = some z := ⟨_, List.getElem?_eq_getElem hjl⟩
      obtain ⟨r, hr'⟩ : ∃ r, rs[j]? = some r := ⟨_, List.getElem?_eq_getElem (by omega)⟩
      have hzc : atI (ms.map V.int) (((i : Nat) : Int) % ((ms.map V.int).length : Int)) = some (.int z) := by
        rw [hj]
        exact atI_nat (by rw [List.getElem?_map, hz]; rfl)
      have hrc : atI (rs.map V.int) (((i : Nat) : Int) % ((ms.map V.int).length : Int)) = some (.int r) := by
        rw [hj]
        exact atI_nat (by rw [List.getElem?_map, hr']; rfl)
      refine ⟨_, rfl, _, rfl, C, _, _, _, rfl, rfl, hC, hzc, _, _, rfl, rfl, ⟨by decide, by decide, by decide⟩, _, _, rfl, rfl, _, rfl, iteD (fun _ => ?_) (fun _ => ?_)⟩
      · refine ⟨_, rfl, ⟨D, _, rfl, hD⟩, _, rfl, _, rfl, R, _, _, _, rfl, rfl, hR, hrc,   .inl ⟨_, rfl, _, _, rfl, rfl, (by show (0 : Int) < 1000; decide), D, _, _, rfl, rfl, hD, szt (by rw [List.length_map]; omega), ?_⟩⟩
        have hR1 : ∀ o, (upd H' D o) R = some (.lst (rs.map V.int)) := fun o => by rw [upd_ne R_D]; exact hR
        refine ⟨_, rfl, _, rfl, R, _, _, _, rfl, rfl, hR1 _, hrc, _, _, rfl, rfl, ⟨by decide, by decide⟩, ?_⟩
        refine ⟨_, rfl, _, rfl, R, _, _, j, rfl, rfl, hR1 _, ?_, ?_⟩
        · rw [hj, List.length_map, lr]
          unfold ixN
          rw [if_pos (by omega), if_pos (by omega)]
          rfl
        · refine ⟨rs.set j (r / 1000), ds ++ [r % 1000], _, _, _, _, rfl, same_mut (same_mut e hD0') hR0', ?_, ?_, ?_, by rw [List.length_set, lr], by rw [List.length_append, ld]; rfl⟩
          · rw [upd_ne C_R, upd_ne C_D]
            exact hC
          · rw [upd_same, List.map_set]
          · rw [upd_ne R_D.symm, upd_same, List.map_append]
            rfl
      · refine ⟨_, rfl, _, rfl, C, _, _, _, rfl, rfl, hC, hzc, _, _, rfl, rfl, .inr ⟨by decide, by decide⟩, _, rfl, _, _, rfl, rfl, .inr ⟨by decide, by decide⟩, _, _, rfl, rfl, _, _, rfl, rfl, .inl ⟨_, rfl, _, _, rfl, rfl, (by show (0 : Int) < 2147483647; decide), ?_⟩⟩
        have cm : ∀ y, CMul ((z * 48271 + ((i : Nat) : Int) * 69621 + 11) % 2147483647) y := fun y => .inl ⟨by omega, by omega⟩
        refine ⟨_, rfl, ⟨D, _, rfl, hD⟩, _, rfl, _, rfl, _, _, rfl, rfl, cm _, _, rfl, _, _, rfl, rfl, .inl ⟨by decide, by decide⟩, _, _, rfl, rfl, _, rfl, _, _, rfl, rfl, .inl ⟨_, rfl, _, _, rfl, rfl, (by show (0 : Int) < 1000003; decide), D, _, _, rfl, rfl, hD, szt (by rw [List.length_map]; omega), ?_⟩⟩
        refine ⟨rs, ds ++ [(((z * 48271 + ((i : Nat) : Int) * 69621 + 11) % 2147483647) * ((z * 48271 + ((i : Nat) : Int) * 69621 + 11) % 2147483647) + 3 * ((z * 48271 + ((i : Nat) : Int) * 69621 + 11) % 2147483647) + ((i : Nat) : Int)) % 1000003], _, _, _, _, rfl, same_mut e hD0', ?_, ?_, ?_, lr, by rw [List.length_append, ld]; rfl⟩
        · rw [upd_ne C_D]
          exact hC
        · rw [upd_ne R_D]
          exact hR
        · rw [upd_same, List.map_append]
          rfl
    · obtain ⟨rs, ds, c5, c6, c7, c8, rfl, e, hC, hR, hD, lr, ld⟩ := hP
      refine ⟨_, rfl, ⟨D, _, rfl, hD⟩, D, _, rfl, rfl, hD, ?_⟩
      refine ⟨_, rfl, k D _ hD0' (same_mut e hD0') ⟨ds.reverse, ?_⟩⟩
      rw [upd_same, List.map_reverse]
end
end Aw

/-! C2: drawing: width, join, question, turned join. -/
namespace Aw
open PySem PySem.Spec PyProof.Rows L2
open C8 (Cal pe_c)
theorem ps_never {X : Cx} {st : Stmt} : PS X st (fun _ _ _ => False) := ⟨fun _ _ _ _ _ _ h => h.elim⟩
theorem pss_never {X : Cx} {st : List Stmt} : PSs X st (fun _ _ _ => False) := ⟨fun _ _ _ _ _ _ h => h.elim⟩
theorem VA.le {k k' : Nat} {a : Atm} (h : VA k a) (l : k ≤ k') : VA k' a := ⟨h.1, h.2.1, Nat.le_trans h.2.2 l⟩
theorem VJ.mk' {n m k : Nat} {j : Jn} (hl : j.1.length = n) (ht : ∀ t ∈ j.1, VT t) (bl : j.2.length ≤ m) (at_ : ∀ a ∈ j.2, VA k a) (hb : ∀ s, Tm.var s ∈ j.1 → bocc s j) : VJ n m k j := ⟨hl, ht, bl, at_, hb⟩
theorem lk_vt {m : Mp} (h : ∀ p ∈ m, VT p.2) {s : Str} {t : Tm} (e : lk m s = some t) : VT t := h _ (lk_mem e)
theorem subT_vt {m : Mp} (h : ∀ p ∈ m, VT p.2) {t : Tm} (ht : VT t) : VT (subT m t) := by
  cases t with
  | val k => exact ht
  | var s =>
    cases e : lk m s with
    | none =>
      have : subT m (.var s) = .var s := by
        show (lk m s).getD (.var s) = _
        rw [e]
        rfl
      rw [this]
      exact ht
    | some t =>
      rw [subT_var e]
      exact lk_vt h e
/-- terms put in -/
theorem VJ.sub {n a k : Nat} {m : Mp} {j : Jn} (h : VJ n a k j) (hm : ∀ p ∈ m, VT p.2) : VJ n a k (subJ m j) := by
  refine ⟨by show (j.1.map (subT m)).length = n; rw [List.length_map, h.hl], fun t ht => ?_, ?_, fun b hb => ?_, fun s hs => ?_⟩
  · obtain ⟨t', ht', rfl⟩ := List.mem_map.mp ht
    exact subT_vt hm (h.ht t' ht')
  · show (j.2.map (subA m)).length ≤ a
    rw [List.length_map]
    exact h.bl
  · obtain ⟨b', hb', rfl⟩ := List.mem_map.mp (show b ∈ j.2.map (subA m) from hb)
    obtain ⟨h1, h2, h3⟩ := h.at_ b' hb'
    refine ⟨h1, fun t ht => ?_, ?_⟩
    · obtain ⟨t', ht', rfl⟩ := List.mem_map.mp (show t ∈ b'.2.map (subT m) from ht)
      exact subT_vt hm (h2 t' ht')
    · show (b'.2.map (subT m)).length ≤ k
      rw [List.length_map]
      exact h3
  · obtain ⟨t', ht', e⟩ := List.mem_map.mp (show Tm.var s ∈ j.1.map (subT m) from hs)
    cases t' with
    | val q => exact nomatch e
    | var r =>
      obtain ⟨b, hb, hr⟩ := h.hb r ht'
      refine ⟨subA m b, List.mem_map.mpr ⟨b, hb, rfl⟩, ?_⟩
      rw [← e]
      exact List.mem_map.mpr ⟨_, hr, rfl⟩
theorem VJ.body {n a a' k : Nat} {j : Jn} {b : List Atm} (h : VJ n a k j) (hb : b.length ≤ a') (hv : ∀ x ∈ b, VA k x) (hs : ∀ x ∈ j.2, x ∈ b) : VJ n a' k (j.1, b) := ⟨h.hl, h.ht, hb, hv, fun s h' => by
  obtain ⟨x, hx, hr⟩ := h.hb s h'
  exact ⟨x, hs x hx, hr⟩⟩
theorem VJ.szs {n a k : Nat} {j : Jn} (h : VJ n a k j) (h1 : n ≤ 1000) (h2 : a ≤ 1000) (h3 : k ≤ 1000) : Szs j :=
  ⟨by rw [h.hl]; omega, Nat.le_trans h.bl (by omega), fun b hb => Nat.le_trans (h.at_ b hb).2.2 (by omega)⟩
/-- [made for k in range] -/
theorem lc_rg {α : Type} {enc : α → T} {Pr : α → Prop} {lo : Int} {n : Nat} {g : TG} {tt : TT} {te : TE} {vs : List Nat} {σ : L2.St} {H : Hp} {Q : Addr → Hp → Prop} (hn : n ≤ 100000)
    (step : ∀ i H', i < n → Same H H' → ∀ (R : Hp → Prop) (Qy : V → Hp → Prop), (∀ y H2 x, Same H' H2 → Pr x → Tp H2 y (enc x) → Qy y H2) →
      g (.int (lo + i)) (wipe σ vs) H' fun σ2 H2 => wipe σ2 vs = wipe σ vs ∧ tt σ2 H2 fun b H3 => if b = true then te σ2 H3 Qy else R H3)
    (k : ∀ p ys H' (l : List α), H p = none → Same H H' → H' p = some (.lst ys) → l.length = n → (∀ x ∈ l, Pr x) → Tps H' ys (l.map enc) → Q p H') :
    ∀ D, H D = none → ∃ W : Nat → Nat → Hp → Prop, (∃ m, W 0 m (upd H D (.lst []))) ∧ ∀ i m H', W i m H' →
      ((Itr lo n).stop i H' ∧ Q D H') ∨ ((Itr lo n).go i H' ∧ ∃ Nx : Hp → Prop, (∀ H2, Nx H2 → ∃ m', m' < m ∧ W (i + 1) m' H2) ∧ ∀ x H2, (Itr lo n).yld i H' x H2 → g x (wipe σ vs) H2 fun σ2 H2 => wipe σ2 vs = wipe σ vs ∧ tt σ2 H2 fun b H3 =>
        if b = true then te σ2 H3 fun y H4 => ∃ acc, H4 D = some (.lst acc) ∧ acc.length < sizeLine ∧ Nx (upd H4 D (.lst (acc ++ [y]))) else Nx H3) := fun D hD => by
  refine lc_range (Qd := fun H' => Q D H')
    (fun i H' => ∃ (ys : List V) (l : List α), Same H H' ∧ H' D = some (.lst ys) ∧ l.length = i ∧ (∀ x ∈ l, Pr x) ∧ Tps H' ys (l.map enc)) ⟨[], [], same_new hD, upd_same, rfl, (fun x hx => by cases hx), .nil⟩ (fun i H' hi w => ?_) (fun H' w => ?_)
  · obtain ⟨ys, l, e, hDD, hl, hp, ht⟩ := w
    refine step i H' hi e _ _ fun y H2 x e2 hx hy => ?_
    have hD2 := e2 _ _ hDD
    refine ⟨ys, hD2, szt (by rw [ht.length, List.length_map]; omega), ys ++ [y], l ++ [x], ?_, upd_same, by rw [List.length_append, hl]; rfl, ?_, ?_⟩
    · exact same_mut (e.trans e2) hD
    · intro z hz
      rcases List.mem_append.mp hz with hz | hz
      · exact hp z hz
      · rw [List.mem_singleton] at hz
        rw [hz]
        exact hx
    · rw [List.map_append]
      exact ((ht.mono (Same.tx e2)).snoc hy).mono (tx_lst hD2)
  · obtain ⟨ys, l, e, hDD, hl, hp, ht⟩ := w
    exact k D ys H' l hD e hDD hl hp ht
theorem perm_erase' {α : Type} {b : α} : ∀ {l : List α} {k : Nat}, l[k]? = some b → (l.eraseIdx k ++ [b]).Perm l
  | [], k, h => by simp at h
  | x :: l, 0, h => by
    cases h
    exact List.perm_append_comm
  | x :: l, k + 1, h => by
    have h' : l[k]? = some b := by simpa using h
    exact (perm_erase' h').cons x
theorem map_eraseIdx {α β : Type} {f : α → β} : ∀ (l : List α) (k : Nat), (l.map f).eraseIdx k = (l.eraseIdx k).map f
  | [], _ => rfl
  | _ :: _, 0 => rfl
  | x :: l, k + 1 => by
    show f x :: (l.map f).eraseIdx k = f x :: (l.eraseIdx k).map f
    rw [map_eraseIdx l k]
/-! ### promises -/
def spWi : Sp := fun vs H Q _ => ∃ d : Addr, vs = [.ref d] ∧ Dr H d ∧ ∀ (n : Nat) H', n ≤ 4 → Kd d H H' → Q (.int (n : Int)) H'
def spJo : Sp := fun vs H Q _ => ∃ (d : Addr) (x : V) (n : Nat), vs = [.ref d, x, .int (n : Int), .int 3] ∧ Dr H d ∧ Wo H d x ∧ n ≤ 4 ∧ ∀ j v H', VJ n 4 3 j → Kd d H H' → Tp H' v (encJn j) → Q v H'
def spQu : Sp := fun vs H Q _ => ∃ (d : Addr) (x : V) (n : Nat), vs = [.ref d, x, .int (n : Int), .int 3, .int 3] ∧ Dr H d ∧ Wo H d x ∧ n ≤ 4 ∧ ∀ (js : List Jn) v H', js.length ≤ 3 → (∀ j ∈ js, VJ n 4 3 j) → Kd d H H' → Tp H' v (encQn ((n : Int), js)) → Q v H'
def spTj : Sp := fun vs H Q _ => ∃ (d : Addr) (x y : V) (n m : Nat) (j : Jn), vs = [.ref d, x, y] ∧ Dr H d ∧ Wo H d x ∧ Tp H y (encJn j) ∧ n ≤ 4 ∧ m ≤ 5 ∧ VJ n m 3 j ∧ ∀ j' v H', VJ n m 3 j' → Kd d H H' → Tp H' v (encJn j') → Q v H'
section
variable {P : Program} {w : World} {K : PySem.W.Frag} {mg : Str → Option Value} {base : Heap}
theorem sc_l_width : FnScope ["_law_draws_here"] ["_law_draws_here"] (defScope st_l_width) := ⟨rfl, rfl, rfl, by decide +kernel, rfl, by decide +kernel, by decide +kernel⟩
-- slots: 0 _law_draws_here
theorem ok_l_width (F : Def' K mg "_law_width" st_l_width) (B : Bt mg) (C_l_take : Cal P w K mg base 1 "_law_take" spTak []) : Cal P w K mg base 2 "_law_width" spWi [] := by
  refine cal_mk F sc_l_width (fun _ _ _ _ _ _ us hl => match us, hl with | [_], _ => rfl) (fun vs H Q E h => ?_) (fun f cdv A outer s H vs Q E hr h => ?_)
  · obtain ⟨d, rfl, _⟩ := h
    rfl
  · obtain ⟨d, rfl, hd, k⟩ := h
    have nd := sc_l_width.nd
    refine ⟨_, (pss_one (ps_ret (pe_ix ixL (peL (pa_cons pe_int (pa_cons pe_int (pa_cons pe_int (pa_cons pe_int (pa_cons pe_int (pa_cons pe_int (pa_cons pe_int (pa_cons (pe_op op_add pe_int (pe_c C_l_take hr (by decide) rfl (pa_cons (pv 0) (pa_cons pe_int pa_nil)))) pa_nil))))))))) (pe_c C_l_take hr (by decide) rfl (pa_cons (pv 0) (pa_cons pe_int pa_nil))) (fun _ _ => rfl)))), ?_⟩
    refine ⟨_, rfl, d, 2, rfl, hd, by decide, fun i H1 i0 i2 e1 => ⟨_, _, rfl, rfl, by show 8 ≤ sizeLine; decide, fun L H2 hL0 e2 hL => ?_⟩⟩
    have L_d := dr_ne hL0 e1.dr
    have k2 := e1.then_ e2
    refine ⟨_, rfl, d, 8, rfl, k2.dr, by decide, fun z H3 z0 z8 e3 => ?_⟩
    obtain ⟨v, hv, hm⟩ := at_pick (xs := [V.int 1, .int 2, .int 0, .int 2, .int 1, .int 0, .int 2, .int (3 + i)]) z0 z8
    refine ⟨L, _, z, v, rfl, rfl, e3.ob _ _ L_d hL, hv, ?_⟩
    have : ∃ n : Nat, v = .int (n : Int) ∧ n ≤ 4 := by
      simp only [List.mem_cons, List.not_mem_nil, or_false] at hm
      rcases hm with rfl | rfl | rfl | rfl | rfl | rfl | rfl | rfl
      · exact ⟨1, rfl, by decide⟩
      · exact ⟨2, rfl, by decide⟩
      · exact ⟨0, rfl, by decide⟩
      · exact ⟨2, rfl, by decide⟩
      · exact ⟨1, rfl, by decide⟩
      · exact ⟨0, rfl, by decide⟩
      · exact ⟨2, rfl, by decide⟩
      · exact ⟨(3 + i).toNat, by congr 1; omega, by omega⟩
    obtain ⟨n, rfl, hn⟩ := this
    exact k n H3 hn (k2.trans e3)
theorem sc_l_join : FnScope ["_law_draws_here", "_law_world_here", "_law_width_here", "_law_most", "_law_body", "_law_terms", "_law_atom_here", "_law_k", "_law_term_here"] ["_law_draws_here", "_law_world_here", "_law_width_here", "_law_most"] (defScope st_l_join) := ⟨rfl, rfl, rfl, by decide +kernel, rfl, by decide +kernel, by decide +kernel⟩
-- slots: 0 _law_draws_here, 1 _law_world_here, 2 _law_width_here, 3 _law_most, 4 _law_body, 5 _law_terms, 6 _law_atom_here, 7 _law_k, 8 _law_term_here
theorem ok_l_join (F : Def' K mg "_law_join" st_l_join) (B : Bt mg) (C_l_take : Cal P w K mg base 1 "_law_take" spTak []) (C_l_pick : Cal P w K mg base 2 "_law_pick" spPk []) (C_l_value : Cal P w K mg base 2 "_law_value" spVl []) (C_l_atom : Cal P w K mg base 4 "_law_atom" spAt []) : Cal P w K mg base 5 "_law_join" spJo [] := by
  refine cal_mk F sc_l_join (fun _ _ _ _ _ _ us hl => match us, hl with | [_, _, _, _], _ => rfl) (fun vs H Q E h => ?_) (fun f cdv A outer s H vs Q E hr h => ?_)
  · obtain ⟨d, x, n, rfl, _⟩ := h
    rfl
  · obtain ⟨d, x, n, rfl, hd, hx, hn, k⟩ := h
    have nd := sc_l_join.nd
    refine ⟨_, (pss_cons (ps_setLc (i := 4) (own := [("_law_k", 7)]) (g := (gName 7)) (tt := tYes) rfl nd rfl rfl (sw_true rfl rfl rfl (by kernel_rfl)) (pi_range1 rfl B.range_ (pa_cons (pe_op op_add pe_int (pe_c C_l_take hr (by decide) rfl (pa_cons (pv 0) (pa_cons (pv 3) pa_nil)))) pa_nil)) (blkOk_by (by kernel_rfl)) (fun _ _ _ _ _ => (pg_name (i := 7) nd rfl (.inl rfl))) (fun _ _ _ _ _ => pts_nil) (fun _ _ _ _ _ => (pe_c C_l_atom hr (by decide) rfl (pa_cons (pv 0) (pa_cons (pv 1) pa_nil)))))
      (pss_cons (ps_ifM (pt_cmpR op_eq (pe_c C_l_take hr (by decide) rfl (pa_cons (pv 0) (pa_cons pe_int pa_nil))) pe_int (nomark _))
      (pss_one (ps_set (i := 4) nd rfl (.inl rfl) (peL pa_nil)))
      pss_nil)
      (pss_cons (ps_ifM (PW.pt (pw_and (pt_cmpR op_gt (pe_callB lenS rfl B.len_ bt_len (pa_cons (pv 4) pa_nil)) pe_int (nomark _)) (pw_and1 (pt_cmpR op_eq (pe_c C_l_take hr (by decide) rfl (pa_cons (pv 0) (pa_cons pe_int pa_nil))) pe_int (nomark _)))))
      (pss_one (ps_expr (peLM PySem.F.slot_list_append PySem.F.type_list_append mt_append (pv 4) (pa_cons (pe_ix ixL (pv 4) pe_int (fun _ _ => rfl)) pa_nil))))
      pss_nil)
      (pss_cons (ps_set (i := 5) nd rfl (.inr rfl) (peL (pa_cons (peT (pa_cons pe_str (pa_cons (pe_c C_l_value hr (by decide) rfl (pa_cons (pv 0) (pa_cons (pe_ix ixL (pv 1) pe_int (fun _ _ => rfl)) pa_nil))) pa_nil))) pa_nil)))
      (pss_cons (ps_for PassesOwn.never rfl (piL (K := K) rfl (pv 4)) (pg_name (i := 6) nd rfl (.inl rfl))
      (pss_one (ps_set (i := 5) nd rfl (.inr rfl) (pe_op catL (pe_lc (own := [("_law_term_here", 8)]) (g := (gName 8)) rfl nd (piT (K := K) rfl (pe_ix ixT (pv 6) pe_int (fun _ _ => rfl))) (blkOk_by (by kernel_rfl)) (fun _ _ _ _ _ => (pg_name (i := 8) nd rfl (.inl rfl))) (fun _ _ _ _ _ => (pts_one (pt_cmpR op_eq (pe_ix ixT (pv 8) pe_int (fun _ _ => rfl)) pe_str (nomark _)))) (fun _ _ _ _ _ => (pv 8))) (pv 5)))))
      (pss_one (ps_ret (peT (pa_cons (pe_callTy tupOf rfl B.tuple_ bt_tuple (pa_cons (pe_lc (own := [("_law_k", 7)]) (g := (gName 7)) (tt := tYes) rfl nd (pi_range1 rfl B.range_ (pa_cons (pv 2) pa_nil)) (blkOk_by (by kernel_rfl)) (fun _ _ _ _ _ => (pg_name (i := 7) nd rfl (.inl rfl))) (fun _ _ _ _ _ => pts_nil) (fun _ _ _ _ _ => (pe_c C_l_pick hr (by decide) rfl (pa_cons (pv 0) (pa_cons (pv 5) pa_nil))))) pa_nil)) (pa_cons (pe_callTy tupOf rfl B.tuple_ bt_tuple (pa_cons (pv 4) pa_nil)) pa_nil)))))))))), ?_⟩
    obtain ⟨a, p0, p1, p2, w0, w1, ks, rfl, W⟩ := id hx
    refine ⟨_, rfl, _, rfl, d, 3, rfl, hd, by decide, fun i H1 i0 i3 e1 => ⟨_, _, rfl, rfl, _, rfl, by omega, by omega, lc_dr (enc := encAt) (Pr := VA 3) e1.dr (by omega) (fun i' H2 hi e2 R Qy kY => ⟨rfl, yesI ?_⟩) (fun L lv H2 ts hL0 e2 hL hlen hts tL => ?_)⟩⟩
    · exact ⟨_, rfl, _, rfl, d, .ref a, rfl, e2.dr, hx.kd (e1.trans e2), fun t v H3 ht e3 hv => kY v H3 t e3 ht hv⟩
    have hL0 := none_kd e1 hL0 hd
    refine ⟨fun σ H' => ∃ (B : Addr) (bv : List V) (ats : List Atm) (c5 c6 c7 c8 : Option V), σ = [some (.ref d), some (.ref a), some (.int (n : Int)), some (.int 3), some (.ref B), c5, c6, c7, c8] ∧ Kd d H H' ∧ H B = none ∧ H' B = some (.lst bv) ∧ Tps H' bv (ats.map encAt) ∧ ats.length ≤ 3 ∧ ∀ x ∈ ats, VA 3 x, ?_, ?_⟩
    · have e12 := e1.trans e2
      refine ⟨_, rfl, d, 14, rfl, e12.dr, by decide, fun z H3 _ _ e3 => ⟨rfl, _, rfl, iteD (fun _ => ?_) (fun _ => ?_)⟩⟩
      · have e13 := e12.trans e3
        refine ⟨sz0, fun B H4 hB0 e4 hB => ?_⟩
        exact ⟨B, [], [], _, _, _, _, rfl, e13.then_ e4, none_kd e13 hB0 hd, hB, .nil, Nat.zero_le _, fun x hx => by cases hx⟩
      · exact ⟨L, lv, ts, _, _, _, _, rfl, e12.trans e3, hL0, e3.ob _ _ (dr_ne hL0 hd) hL, tL.mono (e3.tx e12.dr), by omega, hts⟩
    rintro σ H3 ⟨B, bv, ats, c5, c6, c7, c8, rfl, e3, hB0, hB, tB, lB, vB⟩
    have B_d := dr_ne hB0 hd
    refine ⟨fun σ H' => ∃ (bv : List V) (ats : List Atm) (c5 c6 c7 c8 : Option V), σ = [some (.ref d), some (.ref a), some (.int (n : Int)), some (.int 3), some (.ref B), c5, c6, c7, c8] ∧ Kd d H H' ∧ H' B = some (.lst bv) ∧ Tps H' bv (ats.map encAt) ∧ ats.length ≤ 4 ∧ ∀ x ∈ ats, VA 3 x, ?_, ?_⟩
    · have lbv : bv.length = ats.length := by rw [tB.length, List.length_map]
      refine ⟨_, rfl, B, bv, rfl, .inl hB, _, _, rfl, rfl, _, rfl, iteD (fun hpos => ?_) (fun _ => iteF ?_)⟩
      · refine ⟨_, rfl, d, 8, rfl, e3.dr, by decide, fun z H4 _ _ e4 => ⟨rfl, _, rfl, iteD (fun _ => ?_) (fun _ => ?_)⟩⟩
        · have hB4 := e4.ob _ _ B_d hB
          have tB4 := tB.mono (e4.tx e3.dr)
          cases ats with
          | nil => exact absurd hpos (by rw [lbv]; decide)
          | cons a0 ats =>
            obtain ⟨v0, hv0, t0⟩ := tB4.atM (i := 0) (x := a0) rfl
            refine ⟨_, rfl, ⟨B, _, rfl, hB4⟩, _, rfl, B, _, 0, _, rfl, rfl, hB4, atI_nat (i := 0) hv0, B, _, _, rfl, rfl, hB4, szt (by omega), ?_⟩
            refine ⟨_, a0 :: ats ++ [a0], _, _, _, _, rfl, kd_mut (e3.trans e4) hB0 hd, upd_same, ?_, by rw [List.length_append]; exact Nat.succ_le_succ lB, ?_⟩
            · rw [List.map_append]
              exact (tB4.snoc t0).mono (tx_lst hB4)
            · intro y hy
              rcases List.mem_append.mp hy with hy | hy
              · exact vB y hy
              · rw [List.mem_singleton] at hy
                rw [hy]
                exact vB a0 List.mem_cons_self
        · exact ⟨bv, ats, _, _, _, _, rfl, e3.trans e4, e4.ob _ _ B_d hB, tB.mono (e4.tx e3.dr), by omega, vB⟩
      · exact ⟨bv, ats, _, _, _, _, rfl, e3, hB, tB, by omega, vB⟩
    clear hB tB lB vB e3 bv ats e1 e2 hL hlen hts tL hL0
    rintro σ H3 ⟨bv, ats, c5, c6, c7, c8, rfl, e3, hB, tB, lB, vB⟩
    have lbv : bv.length = ats.length := by rw [tB.length, List.length_map]
    have W3 := W.kd e3
    refine ⟨_, rfl, _, rfl, a, _, 2, _, rfl, rfl, W3.ha, rfl, d, p2, ks, rfl, e3.dr, W3.h2, W.n2, W.l2, W.g2, fun q H4 hq e4 => ⟨sz2, fun T H5 _ e5 hT => ⟨sz1, fun U H6 hU0 e6 hU => ?_⟩⟩⟩
    have e46 := e4.trans (.same (e5.trans e6) e4.dr)
    have e06 := e3.trans e46
    have U0 : H U = none := none_kd (e3.trans (e4.then_ e5)) hU0 hd
    refine ⟨_, rfl, B, rfl, ⟨_, SqL.of (e46.ob _ _ B_d hB)⟩, ?_⟩
    refine for_list (K := K) (xs := bv) (fun i σ H' => ∃ (T : Addr) (tv : List V) (ts : List Tm) (c6 c7 c8 : Option V), σ = [some (.ref d), some (.ref a), some (.int (n : Int)), some (.int 3), some (.ref B), some (.ref T), c6, c7, c8] ∧ Kd d H H' ∧ H' B = some (.lst bv) ∧ Tps H' bv (ats.map encAt) ∧ H T = none ∧ H' T = some (.lst tv) ∧ Tps H' tv (ts.map encTm) ∧ 0 < ts.length ∧ ts.length ≤ 1 + 3 * i ∧ ∀ t ∈ ts, VT t ∧ ∀ s, t = .var s → ∃ x ∈ ats, Tm.var s ∈ x.2)
      ⟨U, [.ref T], [.val q], _, _, _, rfl, e06, e46.ob _ _ B_d hB, tB.mono (e46.tx e3.dr), U0, hU, .one (tmI (t := .val q) (hT.same e6) (VT.ok hq)), Nat.one_pos, Nat.le_refl _, ?_⟩ (fun i σ H' _ ⟨_, _, _, _, _, _, _, _, h, _⟩ => SqL.of h) (fun i v σ H' hi hP => ?_) (fun σ H' hP => ?_)
    · intro t ht
      rw [List.mem_singleton] at ht
      subst ht
      exact ⟨hq, fun s z => nomatch z⟩
    · obtain ⟨T, tv, ts, c6, c7, c8, rfl, e, hB, tB, hT0, hT, tT, lp, lt, vt⟩ := hP
      obtain ⟨z, hz, hv⟩ := tB.getM hi
      have hzm := List.mem_of_getElem? hz
      have vz := vB z hzm
      obtain ⟨r, r2, zv, rfl, h1, h2, h3, _⟩ := atE hv
      have lzv : zv.length = z.2.length := by rw [h3.length, List.length_map]
      have lz3 : z.2.length ≤ 3 := vz.2.2
      have hi4 : i < 4 := by
        have := (List.getElem?_eq_some_iff.mp hi).1
        omega
      refine ⟨_, rfl, r, _, 1, _, rfl, rfl, h1, rfl, r2, rfl, ⟨_, h2.seq⟩, lc_t (l := z.2) (ea := encTm) (f := encTm) (c := isVar) h2 h3 (by omega) (fun t ht v H2 e2 hv R Qy kN kY => ?_) (fun D dv H2 _ e2 hD tD => ?_)⟩
      · obtain ⟨b, rfl, hb, _⟩ := tmE hv
        refine ⟨rfl, ?_⟩
        refine ⟨_, rfl, b, _, 0, _, rfl, rfl, hb, rfl, rfl, _, rfl, ?_⟩
        cases t with
        | var s => exact iteD (fun _ => ⟨_, rfl, kY rfl _ _ (Same.refl _) hv⟩) (fun z => absurd rfl z)
        | val k0 => exact iteD (fun z => absurd (V.str.inj z).symm tag_ne) (fun _ => kN rfl _ (Same.refl _))
      · have ldv : dv.length ≤ 3 := by
          rw [tD.length, List.length_map]
          exact Nat.le_trans (List.length_filter_le _ _) lz3
        have ltv : tv.length = ts.length := by rw [tT.length, List.length_map]
        refine ⟨_, rfl, D, T, dv, tv, rfl, rfl, hD, e2 _ _ hT, szl (by omega), fun E H3 hE0 e3 hE => ?_⟩
        have e23 := e2.trans e3
        refine ⟨E, dv ++ tv, z.2.filter isVar ++ ts, _, _, _, rfl, e.then_ e23, e23 _ _ hB, tB.mono (Same.tx e23), none_kd (e.then_ e2) hE0 hd, hE, ?_, ?_, ?_, ?_⟩
        · rw [List.map_append]
          exact (tD.mono (Same.tx e3)).append (tT.mono (Same.tx e23))
        · rw [List.length_append]
          omega
        · have := List.length_filter_le isVar z.2
          rw [List.length_append]
          omega
        · intro t ht
          rcases List.mem_append.mp ht with ht | ht
          · have hm := (List.mem_filter.mp ht).1
            exact ⟨vz.2.1 t hm, fun s e => ⟨z, hzm, e ▸ hm⟩⟩
          · exact vt t ht
    · obtain ⟨T, tv, ts, c6, c7, c8, rfl, e, hB, tB, hT0, hT, tT, lp, lt, vt⟩ := hP
      have ltv : tv.length = ts.length := by rw [tT.length, List.length_map]
      have T_d := dr_ne hT0 hd
      refine ⟨_, rfl, (n : Int), rfl, by omega, by omega, lc_dr (enc := encTm) (Pr := fun t => t ∈ ts) e.dr (by omega) (fun i' H2 hi e2 R Qy kY => ⟨rfl, yesI ?_⟩) (fun L lv H2 hs hL0 e2 hL hlen hts tL => ?_)⟩
      · refine ⟨_, rfl, _, rfl, d, T, tv, rfl, e2.dr, .inl (e2.ob _ _ T_d hT), T_d, by omega, fun v H3 hv e3 => ?_⟩
        obtain ⟨dd, hdd, tdd⟩ := (tT.mono ((e2.trans e3).tx e.dr)).mem hv
        obtain ⟨t, ht, rfl⟩ := List.mem_map.mp hdd
        exact kY v H3 t e3 ht tdd
      · refine ⟨L, lv, rfl, hL, fun T1 H3 _ e3 hT1 => ⟨_, rfl, B, bv, rfl, e3 _ _ (e2.ob _ _ B_d hB), fun T2 H4 _ e4 hT2 => ⟨sz2, fun U2 H5 _ e5 hU2 => ?_⟩⟩⟩
        have e35 := e3.trans (e4.trans e5)
        rw [Int.toNat_natCast] at hlen
        exact k (hs, ats) _ H5 (VJ.mk' hlen (fun t ht => (vt t (hts t ht)).1) lB vB fun s hs' => (vt _ (hts _ hs')).2 s rfl) (e.trans (e2.then_ e35))
          (jnI (j := (hs, ats)) hU2 (hT1.same (e4.trans e5)) (tL.mono (Same.tx e35)) (hT2.same e5) ((tB.mono (e2.tx e.dr)).mono (Same.tx e35)))
theorem sc_l_question : FnScope ["_law_draws_here", "_law_world_here", "_law_width_here", "_law_joins", "_law_most", "_law_k"] ["_law_draws_here", "_law_world_here", "_law_width_here", "_law_joins", "_law_most"] (defScope st_l_question) := ⟨rfl, rfl, rfl, by decide +kernel, rfl, by decide +kernel, by decide +kernel⟩
-- slots: 0 _law_draws_here, 1 _law_world_here, 2 _law_width_here, 3 _law_joins, 4 _law_most, 5 _law_k
theorem ok_l_question (F : Def' K mg "_law_question" st_l_question) (B : Bt mg) (C_l_take : Cal P w K mg base 1 "_law_take" spTak []) (C_l_join : Cal P w K mg base 5 "_law_join" spJo []) : Cal P w K mg base 6 "_law_question" spQu [] := by
  refine cal_mk F sc_l_question (fun _ _ _ _ _ _ us hl => match us, hl with | [_, _, _, _, _], _ => rfl) (fun vs H Q E h => ?_) (fun f cdv A outer s H vs Q E hr h => ?_)
  · obtain ⟨d, x, n, rfl, _⟩ := h
    rfl
  · obtain ⟨d, x, n, rfl, hd, hx, hn, k⟩ := h
    have nd := sc_l_question.nd
    refine ⟨_, (pss_one (ps_ret (peT (pa_cons (pv 2) (pa_cons (pe_callTy tupOf rfl B.tuple_ bt_tuple (pa_cons (pe_lc (own := [("_law_k", 5)]) (g := (gName 5)) (tt := tYes) rfl nd (pi_range1 rfl B.range_ (pa_cons (pe_c C_l_take hr (by decide) rfl (pa_cons (pv 0) (pa_cons (pe_op op_add (pv 3) pe_int) pa_nil))) pa_nil)) (blkOk_by (by kernel_rfl)) (fun _ _ _ _ _ => (pg_name (i := 5) nd rfl (.inl rfl))) (fun _ _ _ _ _ => pts_nil) (fun _ _ _ _ _ => (pe_c C_l_join hr (by decide) rfl (pa_cons (pv 0) (pa_cons (pv 1) (pa_cons (pv 2) (pa_cons (pv 4) pa_nil))))))) pa_nil)) pa_nil))))), ?_⟩
    refine ⟨_, rfl, _, rfl, _, rfl, _, _, rfl, rfl, d, 4, rfl, hd, by decide, fun i H1 i0 i4 e1 => ⟨i, rfl, by omega, by omega, lc_dr (enc := encJn) (Pr := VJ n 4 3) e1.dr (by omega) (fun i' H2 hi e2 R Qy kY => ⟨rfl, yesI ?_⟩) (fun L lv H2 js hL0 e2 hL hlen hjs tL => ?_)⟩⟩
    · exact ⟨_, rfl, _, rfl, _, rfl, _, rfl, d, x, n, rfl, e2.dr, hx.kd (e1.trans e2), hn, fun j v H3 hj e3 hv => kY v H3 j e3 hj hv⟩
    · refine ⟨L, lv, rfl, hL, fun T1 H3 _ e3 hT1 => ⟨sz2, fun U2 H5 _ e5 hU2 => ?_⟩⟩
      exact k js _ H5 (by omega) hjs (e1.trans (e2.then_ (e3.trans e5))) (qnI (q := ((n : Int), js)) hU2 (hT1.same e5) (tL.mono (Same.tx (e3.trans e5))))
theorem sc_l_turned_join : FnScope ["_law_draws_here", "_law_world_here", "_law_join_here", "_law_names", "_law_variables", "_law_k", "_law_body", "_law_found"] ["_law_draws_here", "_law_world_here", "_law_join_here"] (defScope st_l_turned_join) := ⟨rfl, rfl, rfl, by decide +kernel, rfl, by decide +kernel, by decide +kernel⟩
-- slots: 0 _law_draws_here, 1 _law_world_here, 2 _law_join_here, 3 _law_names, 4 _law_variables, 5 _law_k, 6 _law_body, 7 _law_found
theorem ok_l_turned_join (F : Def' K mg "_law_turned_join" st_l_turned_join) (B : Bt mg) (C_l_take : Cal P w K mg base 1 "_law_take" spTak []) (C_l_pool : Cal P w K mg base 2 "_law_pool" spPo []) (C_l_join_variables : Cal P w K mg base 1 "_law_join_variables" spLjv []) (C_l_put_join : Cal P w K mg base 2 "_law_put_join" spLpj []) : Cal P w K mg base 3 "_law_turned_join" spTj [] := by
  refine cal_mk F sc_l_turned_join (fun _ _ _ _ _ _ us hl => match us, hl with | [_, _, _], _ => rfl) (fun vs H Q E h => ?_) (fun f cdv A outer s H vs Q E hr h => ?_)
  · obtain ⟨d, x, y, n, m, j, rfl, _⟩ := h
    rfl
  · obtain ⟨d, x, y, n, m, j, rfl, hd, hx, hy, hn, hm, hj, k⟩ := h
    have nd := sc_l_turned_join.nd
    refine ⟨_, (pss_cons (ps_set (i := 3) nd rfl (.inr rfl) (pe_c C_l_pool hr (by decide) rfl (pa_cons (pv 0) (pa_cons pe_int pa_nil))))
      (pss_cons (ps_set (i := 4) nd rfl (.inr rfl) (pe_c C_l_join_variables hr (by decide) rfl (pa_cons (pv 2) pa_nil)))
      (pss_cons (ps_set (i := 2) nd rfl (.inl rfl) (pe_c C_l_put_join hr (by decide) rfl (pa_cons (pv 2) (pa_cons (pe_lc (own := [("_law_k", 5)]) (g := (gName 5)) (tt := tYes) rfl nd (pi_range1 rfl B.range_ (pa_cons (pe_callB (call_min2 rfl) rfl B.min_ bt_min (pa_cons pe_int (pa_cons (pe_callB lenS rfl B.len_ bt_len (pa_cons (pv 4) pa_nil)) pa_nil))) pa_nil)) (blkOk_by (by kernel_rfl)) (fun _ _ _ _ _ => (pg_name (i := 5) nd rfl (.inl rfl))) (fun _ _ _ _ _ => pts_nil) (fun _ _ _ _ _ => (peT (pa_cons (pe_ix ixL (pv 4) (pv 5) (fun _ _ => rfl)) (pa_cons (peT (pa_cons pe_str (pa_cons (pe_ix ixL (pv 3) (pv 5) (fun _ _ => rfl)) pa_nil))) pa_nil))))) pa_nil))))
      (pss_cons (ps_set (i := 6) nd rfl (.inl rfl) (pe_callTy listOf rfl B.list_ bt_list (pa_cons (pe_ix ixT (pv 2) pe_int (fun _ _ => rfl)) pa_nil)))
      (pss_cons (ps_set (i := 7) nd rfl (.inl rfl) (peL pa_nil))
      (pss_cons (ps_for PassesOwn.never rfl (pi_range1 rfl B.range_ (pa_cons (pe_callB lenS rfl B.len_ bt_len (pa_cons (pv 6) pa_nil)) pa_nil)) (pg_name (i := 5) nd rfl (.inl rfl))
      (pss_one (ps_expr (peLM PySem.F.slot_list_append PySem.F.type_list_append mt_append (pv 7) (pa_cons (peLM PySem.F.slot_list_pop PySem.F.type_list_pop mt_popAt (pv 6) (pa_cons (pe_c C_l_take hr (by decide) rfl (pa_cons (pv 0) (pa_cons (pe_callB lenS rfl B.len_ bt_len (pa_cons (pv 6) pa_nil)) pa_nil))) pa_nil)) pa_nil)))))
      (pss_one (ps_ret (peT (pa_cons (pe_ix ixT (pv 2) pe_int (fun _ _ => rfl)) (pa_cons (pe_callTy tupOf rfl B.tuple_ bt_tuple (pa_cons (pv 7) pa_nil)) pa_nil))))))))))), ?_⟩
    refine ⟨_, rfl, d, 8, rfl, hd, by decide, fun NA nms H1 hNA0 e1 hNA lnm wnm => ?_⟩
    have NA_d := dr_ne hNA0 hd
    have hy1 := hy.mono (e1.tx hd)
    refine ⟨_, rfl, y, j, rfl, hy1, Nat.le_trans hj.bl (by omega), fun a ha => Nat.le_trans (hj.at_ a ha).2.2 (by omega), fun vs hvn hvs VR H2 hVR0 e2 hVR => ?_⟩
    have k2 := e1.then_ e2
    have hwv : ∀ s ∈ vs, Wd s := fun s hs => by
      obtain ⟨a, ha, hsa⟩ := (hvs s).mp hs
      exact (hj.at_ a ha).2.1 _ hsa
    refine ⟨_, rfl, _, rfl, VR, _, rfl, .inl hVR, _, _, rfl, _, rfl, ?_, ?_, ?_⟩
    · split <;> omega
    · split <;> omega
    have hcnt : ∀ (q : Nat), q < (if ((vs.map V.str).length : Int) < 8 then ((vs.map V.str).length : Int) else 8).toNat → q < vs.length ∧ q < nms.length := fun q hq => by
      rw [List.length_map] at hq
      split at hq <;> constructor <;> omega
    refine lc_rg (enc := encPr) (Pr := fun p => VT p.2) (by split <;> omega) (fun i' H3 hi e3 R Qy kY => ⟨rfl, yesI ?_⟩) (fun L lv H3 mm hL0 e3 hL _ hmm tL => ?_)
    · obtain ⟨hi1, hi2⟩ := hcnt i' hi
      rw [Int.zero_add]
      have e13 := k2.then_ e3
      have w1 : (vs.map V.str)[i']? = some (.str vs[i']) := by rw [List.getElem?_map, List.getElem?_eq_getElem hi1]; rfl
      have w2 : (nms.map V.str)[i']? = some (.str nms[i']) := by rw [List.getElem?_map, List.getElem?_eq_getElem hi2]; rfl
      have o1 := hwv _ (List.getElem_mem hi1)
      have o2 := wnm _ (List.getElem_mem hi2)
      refine ⟨_, rfl, _, rfl, VR, _, _, _, rfl, rfl, e3 _ _ hVR, atI_nat w1, _, rfl, _, rfl, NA, _, _, _, rfl, rfl, (e2.trans e3) _ _ hNA, atI_nat w2, sz2, fun T H4 _ e4 hT => ⟨sz2, fun U H5 _ e5 hU => ?_⟩⟩
      exact kY _ H5 (vs[i'], .var nms[i']) (e4.trans e5) o2 (prI (p := (vs[i'], .var nms[i'])) hU (tmI (t := .var nms[i']) (hT.same e5) o2.1) o1.1)
    have k3 := k2.then_ e3
    refine ⟨y, L, lv, j, mm, rfl, hy1.mono (Same.tx (e2.trans e3)), .inl hL, tL, hj.szs (by omega) (by omega) (by omega), fun y' H4 e4 hy' => ?_⟩
    have hj' := hj.sub hmm
    generalize subJ mm j = j' at hy' hj'
    clear hj
    have k4 := k3.then_ e4
    obtain ⟨p, pa, pb, xs, ys, rfl, hp, hpa, hxs, hpb, hys⟩ := jnE hy'
    have lys : ys.length = j'.2.length := by rw [hys.length, List.length_map]
    have lj := hj'.bl
    refine ⟨_, rfl, p, _, 1, _, rfl, rfl, hp, rfl, pb, ys, rfl, .inr hpb, fun BD H5 hBD0 e5 hBD => ?_⟩
    refine ⟨sz0, fun FD H6 hFD0 e6 hFD => ?_⟩
    have k6 := k4.then_ (e5.trans e6)
    have B_F := ne_of_none hBD hFD0
    have hF0 := none_kd (k4.then_ e5) hFD0 hd
    have hB0 := none_kd k4 hBD0 hd
    have B_d := dr_ne hB0 hd
    have F_d := dr_ne hF0 hd
    refine ⟨_, rfl, BD, _, rfl, .inl (e6 _ _ hBD), _, rfl, by omega, by omega, ?_⟩
    refine for_range (fun i σ H' => ∃ (bv fv : List V) (b f : List Atm) (c5 : Option V), σ = [some (.ref d), some x, some (.ref p), some (.ref NA), some (.ref VR), c5, some (.ref BD), some (.ref FD)] ∧ Kd d H H' ∧ Tq H' p [.ref pa, .ref pb] ∧ Tq H' pa xs ∧ Tps H' xs (j'.1.map encTm) ∧ H' BD = some (.lst bv) ∧ H' FD = some (.lst fv) ∧ Tps H' bv (b.map encAt) ∧ Tps H' fv (f.map encAt) ∧ (f ++ b).Perm j'.2 ∧ f.length = i)
      ⟨ys, [], j'.2, [], _, rfl, k6, (hp.same e5).same e6, (hpa.same e5).same e6, hxs.mono (Same.tx (e5.trans e6)), e6 _ _ hBD, hFD, hys.mono (Same.tx (e5.trans e6)), .nil, List.Perm.refl _, rfl⟩ (fun i σ H' hi hP => ?_) (fun σ H' hP => ?_)
    · rw [Int.toNat_natCast, lys] at hi
      obtain ⟨bv, fv, b, f, c5, rfl, e, hp, hpa, hxs, hB, hF, tB, tF, hpm, lf⟩ := hP
      have lpm := hpm.length_eq
      rw [List.length_append] at lpm
      have lbv : bv.length = b.length := by rw [tB.length, List.length_map]
      have lfv : fv.length = f.length := by rw [tF.length, List.length_map]
      refine ⟨_, rfl, ⟨FD, fv, rfl, hF⟩, _, rfl, ⟨BD, bv, rfl, hB⟩, _, rfl, _, rfl, BD, bv, rfl, .inl hB, d, _, rfl, e.dr, by omega, fun z H7 z0 z1 e7 => ?_⟩
      obtain ⟨q, rfl⟩ := Int.eq_ofNat_of_zero_le z0
      have hq : q < bv.length := by omega
      have hB7 := e7.ob _ _ B_d hB
      have hF7 := e7.ob _ _ F_d hF
      have tx7 := e7.tx e.dr
      obtain ⟨at1, hat1⟩ : ∃ a1, b[q]? = some a1 := ⟨_, List.getElem?_eq_getElem (by omega)⟩
      obtain ⟨av, hav, tav⟩ := (tB.mono tx7).atM hat1
      refine ⟨BD, bv, (q : Int), q, av, rfl, rfl, hB7, by omega, by omega, ?_, hav, ?_⟩
      · exact (ixN_seq (by unfold ixN; rw [if_pos (by omega), if_pos (by omega)]; rfl)).1
      have txB : Tx H7 (upd H7 BD (.lst (bv.eraseIdx q))) := tx_lst hB7
      have hF8 : (upd H7 BD (.lst (bv.eraseIdx q))) FD = some (.lst fv) := by rw [upd_ne B_F.symm]; exact hF7
      refine ⟨FD, fv, _, rfl, rfl, hF8, szt (by omega), ?_⟩
      have txF := tx_lst (o := .lst (fv ++ [av])) hF8
      have txx := txB.trans txF
      refine ⟨bv.eraseIdx q, fv ++ [av], b.eraseIdx q, f ++ [at1], _, rfl, kd_mut (kd_mut (e.trans e7) hB0 hd) hF0 hd, ?_, ?_, (hxs.mono tx7).mono txx, by rw [upd_ne B_F]; exact upd_same, upd_same, ?_, ?_, ?_, by rw [List.length_append, lf]; rfl⟩
      · exact txx _ _ (tx7 _ _ hp)
      · exact txx _ _ (tx7 _ _ hpa)
      · have := ((tB.mono tx7).eraseIdx q).mono txx
        rwa [map_eraseIdx] at this
      · rw [List.map_append]
        exact ((tF.mono tx7).snoc tav).mono txx
      · refine List.Perm.trans ?_ hpm
        rw [List.append_assoc]
        exact List.Perm.append_left f (List.perm_append_comm.trans (perm_erase' hat1))
    · obtain ⟨bv, fv, b, f, c5, rfl, e, hp, hpa, hxs, hB, hF, tB, tF, hpm, lf⟩ := hP
      rw [Int.toNat_natCast, lys] at lf
      have lpm := hpm.length_eq
      rw [List.length_append] at lpm
      have hb0 : b = [] := List.eq_nil_of_length_eq_zero (by omega)
      subst hb0
      rw [List.append_nil] at hpm
      refine ⟨_, rfl, p, _, 0, _, rfl, rfl, hp, rfl, _, rfl, FD, fv, rfl, hF, fun T1 H7 _ e7 hT1 => ⟨sz2, fun U2 H8 _ e8 hU2 => ?_⟩⟩
      exact k (j'.1, f) _ H8 (hj'.body (hpm.length_eq ▸ lj) (fun a ha => hj'.at_ a (hpm.mem_iff.mp ha)) fun a ha => hpm.mem_iff.mpr ha) (e.then_ (e7.trans e8))
        (jnI (j := (j'.1, f)) hU2 ((hpa.same e7).same e8) (hxs.mono (Same.tx (e7.trans e8))) (hT1.same e8) (tF.mono (Same.tx (e7.trans e8))))
end
end Aw

/-! C3: drawing: near joins, near questions, weaker, equal. -/
namespace Aw
open PySem PySem.Spec PyProof.Rows L2
open C8 (Cal pe_c)
theorem cut_take (xs : List V) (q : Nat) : cutV xs none (some (q : Int)) = xs.take q := by
  unfold cutV
  rw [HT.sIx_none, HT.sIx_nat, List.drop_zero, Nat.sub_zero]
  rcases Nat.le_total q xs.length with h | h
  · rw [Nat.min_eq_left h]
  · rw [Nat.min_eq_right h, List.take_length, List.take_of_length_le h]
theorem cut_drop (xs : List V) (q : Nat) : cutV xs (some (q : Int)) none = xs.drop q := by
  unfold cutV
  rw [HT.sIx_none, HT.sIx_nat]
  rcases Nat.le_total q xs.length with h | h
  · rw [Nat.min_eq_left h]
    exact List.take_of_length_le (by rw [List.length_drop]; exact Nat.le_refl _)
  · rw [Nat.min_eq_right h, List.drop_length, List.drop_of_length_le h]
    simp
theorem VJ.app {n a k : Nat} {j : Jn} {x : Atm} (h : VJ n a k j) (hx : VA k x) : VJ n (a + 1) k (j.1, j.2 ++ [x]) := h.body (by rw [List.length_append]; exact Nat.succ_le_succ h.bl) (fun y hy => by
  rcases List.mem_append.mp hy with hy | hy
  · exact h.at_ y hy
  · rw [List.mem_singleton] at hy
    rw [hy]
    exact hx) fun y hy => List.mem_append_left _ hy
/-- a list of texts is not the list of drawn numbers -/
theorem str_nd {d p : Addr} {H : Hp} {vs : List Str} (h : H p = some (.lst (vs.map V.str))) (n : 0 < vs.length) (hd : Dr H d) : p ≠ d := fun z => by
  obtain ⟨ns, hd⟩ := hd
  rw [z, hd] at h
  cases vs with
  | nil => cases n
  | cons v vs =>
    cases ns with
    | nil => cases h
    | cons i ns => cases h
/-! ### promises -/
def spNj : Sp := fun vs H Q _ => ∃ (d : Addr) (x y : V) (n : Nat) (j : Jn), vs = [.ref d, x, y] ∧ Dr H d ∧ Wo H d x ∧ Tp H y (encJn j) ∧ n ≤ 4 ∧ VJ n 4 3 j ∧ ∀ j' v H', VJ n 5 3 j' → Kd d H H' → Tp H' v (encJn j') → Q v H'
def spNq : Sp := fun vs H Q _ => ∃ (d : Addr) (x y : V) (n : Nat) (js : List Jn), vs = [.ref d, x, y] ∧ Dr H d ∧ Wo H d x ∧ Tp H y (encQn ((n : Int), js)) ∧ n ≤ 4 ∧ js.length ≤ 5 ∧ (∀ j ∈ js, VJ n 4 3 j) ∧
  ∀ (js' : List Jn) v H', js'.length ≤ 4 → (∀ j ∈ js', VJ n 5 3 j) → Kd d H H' → Tp H' v (encQn ((n : Int), js')) → Q v H'
def spNr : Sp := fun vs H Q _ => ∃ (d : Addr) (x y : V) (n : Nat) (js : List Jn), vs = [.ref d, x, y] ∧ Dr H d ∧ Wo H d x ∧ Tp H y (encQn ((n : Int), js)) ∧ n ≤ 4 ∧ js.length ≤ 5 ∧ (∀ j ∈ js, VJ n 4 3 j) ∧
  ∀ (js' : List Jn) v H', js'.length ≤ 4 → (∀ j ∈ js', VJ n 4 3 j) → Kd d H H' → Tp H' v (encQn ((n : Int), js')) → Q v H'
def kind3d (k : Str) : Prop := k = "once" ∨ k = "prices" ∨ k = "yes"
def spWk : Sp := fun vs H Q _ => ∃ (d : Addr) (x y : V) (kind : Str) (n : Nat) (js : List Jn), vs = [.ref d, x, .str kind, y] ∧ kind3d kind ∧ Dr H d ∧ Wo H d x ∧ Tp H y (encQn ((n : Int), js)) ∧ n ≤ 4 ∧ 0 < js.length ∧ (∀ j ∈ js, VJ n 4 3 j) ∧
  ∀ j v H', VJ n 4 3 j → Kd d H H' → Tp H' v (encJn j) → Q v H'
def spEl : Sp := fun vs H Q _ => ∃ (d : Addr) (x y : V) (kind : Str) (n : Nat) (js : List Jn), vs = [.ref d, x, .str kind, y] ∧ kind3d kind ∧ Dr H d ∧ Wo H d x ∧ Tp H y (encQn ((n : Int), js)) ∧ n ≤ 4 ∧ js.length ≤ 3 ∧ (∀ j ∈ js, VJ n 4 3 j) ∧
  ∀ (js' : List Jn) v H', js'.length ≤ 5 → (∀ j ∈ js', VJ n 4 3 j) → Kd d H H' → Tp H' v (encQn ((n : Int), js')) → Q v H'
section
variable {P : Program} {w : World} {K : PySem.W.Frag} {mg : Str → Option Value} {base : Heap}
theorem sc_l_near_join : FnScope ["_law_draws_here", "_law_world_here", "_law_join_here", "_law_kind", "_law_variables", "_law_at", "_law_less", "_law_term_here"] ["_law_draws_here", "_law_world_here", "_law_join_here"] (defScope st_l_near_join) := ⟨rfl, rfl, rfl, by decide +kernel, rfl, by decide +kernel, by decide +kernel⟩
-- slots: 0 _law_draws_here, 1 _law_world_here, 2 _law_join_here, 3 _law_kind, 4 _law_variables, 5 _law_at, 6 _law_less, 7 _law_term_here
theorem ok_l_near_join (F : Def' K mg "_law_near_join" st_l_near_join) (B : Bt mg) (C_l_take : Cal P w K mg base 1 "_law_take" spTak []) (C_l_pick : Cal P w K mg base 2 "_law_pick" spPk []) (C_l_term : Cal P w K mg base 3 "_law_term" spTe []) (C_l_atom : Cal P w K mg base 4 "_law_atom" spAt []) (C_l_join_variables : Cal P w K mg base 1 "_law_join_variables" spLjv []) (C_l_put_join : Cal P w K mg base 2 "_law_put_join" spLpj []) (C_l_turned_join : Cal P w K mg base 3 "_law_turned_join" spTj []) : Cal P w K mg base 5 "_law_near_join" spNj [] := by
  refine cal_mk F sc_l_near_join (fun _ _ _ _ _ _ us hl => match us, hl with | [_, _, _], _ => rfl) (fun vs H Q E h => ?_) (fun f cdv A outer s H vs Q E hr h => ?_)
  · obtain ⟨d, x, y, n, j, rfl, _⟩ := h
    rfl
  · obtain ⟨d, x, y, n, j, rfl, hd, hx, hy, hn, hj, k⟩ := h
    have nd := sc_l_near_join.nd
    refine ⟨_, (pss_cons (ps_set (i := 3) nd rfl (.inl rfl) (pe_c C_l_take hr (by decide) rfl (pa_cons (pv 0) (pa_cons pe_int pa_nil))))
      (pss_cons (ps_set (i := 4) nd rfl (.inl rfl) (pe_c C_l_join_variables hr (by decide) rfl (pa_cons (pv 2) pa_nil)))
      (pss_cons (ps_ifM (PW.pt (pw_and (pt_cmpR op_eq (pv 3) pe_int (nomark _)) (pw_and1 (pt_cmpR op_gt (pe_callB lenS rfl B.len_ bt_len (pa_cons (pv 4) pa_nil)) pe_int (nomark _)))))
      (pss_one (ps_set (i := 2) nd rfl (.inl rfl) (pe_c C_l_put_join hr (by decide) rfl (pa_cons (pv 2) (pa_cons (peL (pa_cons (peT (pa_cons (pe_c C_l_pick hr (by decide) rfl (pa_cons (pv 0) (pa_cons (pv 4) pa_nil))) (pa_cons (pe_c C_l_term hr (by decide) rfl (pa_cons (pv 0) (pa_cons (peL (pa_cons (pe_ix ixL (pv 1) pe_int (fun _ _ => rfl)) (pa_cons (pv 4) (pa_cons (pe_ix ixL (pv 1) pe_int (fun _ _ => rfl)) pa_nil)))) pa_nil))) pa_nil))) pa_nil)) pa_nil)))))
      pss_nil)
      (pss_cons (ps_ifM (PW.pt (pw_and (pt_cmpR op_eq (pv 3) pe_int (nomark _)) (pw_and1 (pt_cmpR op_gt (pe_callB lenS rfl B.len_ bt_len (pa_cons (pe_ix ixT (pv 2) pe_int (fun _ _ => rfl)) pa_nil)) pe_int (nomark _)))))
      (pss_one (ps_set (i := 2) nd rfl (.inl rfl) (peT (pa_cons (pe_ix ixT (pv 2) pe_int (fun _ _ => rfl)) (pa_cons (pe_op catT (pe_ix ixT (pv 2) pe_int (fun _ _ => rfl)) (peT (pa_cons (pe_c C_l_pick hr (by decide) rfl (pa_cons (pv 0) (pa_cons (pe_ix ixT (pv 2) pe_int (fun _ _ => rfl)) pa_nil))) pa_nil))) pa_nil)))))
      pss_nil)
      (pss_cons (ps_ifM (pt_cmpR op_eq (pv 3) pe_int (nomark _))
      (pss_one (ps_set (i := 2) nd rfl (.inl rfl) (peT (pa_cons (pe_ix ixT (pv 2) pe_int (fun _ _ => rfl)) (pa_cons (pe_op catT (pe_ix ixT (pv 2) pe_int (fun _ _ => rfl)) (peT (pa_cons (pe_c C_l_atom hr (by decide) rfl (pa_cons (pv 0) (pa_cons (pv 1) pa_nil))) pa_nil))) pa_nil)))))
      pss_nil)
      (pss_cons (ps_ifM (PW.pt (pw_and (pt_cmpR op_eq (pv 3) pe_int (nomark _)) (pw_and1 (pt_cmpR op_gt (pe_callB lenS rfl B.len_ bt_len (pa_cons (pe_ix ixT (pv 2) pe_int (fun _ _ => rfl)) pa_nil)) pe_int (nomark _)))))
      (pss_cons (ps_set (i := 5) nd rfl (.inl rfl) (pe_c C_l_take hr (by decide) rfl (pa_cons (pv 0) (pa_cons (pe_callB lenS rfl B.len_ bt_len (pa_cons (pe_ix ixT (pv 2) pe_int (fun _ _ => rfl)) pa_nil)) pa_nil))))
        (pss_cons (ps_set (i := 6) nd rfl (.inr rfl) (peT (pa_cons (pe_ix ixT (pv 2) pe_int (fun _ _ => rfl)) (pa_cons (pe_op catT (pe_slice slT (pe_ix ixT (pv 2) pe_int (fun _ _ => rfl)) po_none (po_some (pv 5))) (pe_slice slT (pe_ix ixT (pv 2) pe_int (fun _ _ => rfl)) (po_some (pe_op op_add (pv 5) pe_int)) po_none)) pa_nil))))
        (pss_one (ps_if (pt_cmpR op_eq (pe_callB lenS rfl B.len_ bt_len (pa_cons (pe_lc (own := [("_law_term_here", 7)]) (g := (gName 7)) rfl nd (piT (K := K) rfl (pe_ix ixT (pv 2) pe_int (fun _ _ => rfl))) (blkOk_by (by kernel_rfl)) (fun _ _ _ _ _ => (pg_name (i := 7) nd rfl (.inl rfl))) (fun _ _ _ _ _ => (pts_one (PW.pt (pw_and (pt_cmpR op_eq (pe_ix ixT (pv 7) pe_int (fun _ _ => rfl)) pe_str (nomark _)) (pw_and1 (pt_cmpR notInS (pe_ix ixT (pv 7) pe_int (fun _ _ => rfl)) (pe_c C_l_join_variables hr (by decide) rfl (pa_cons (pv 6) pa_nil)) rfl)))))) (fun _ _ _ _ _ => (pv 7))) pa_nil)) pe_int (nomark _))
        (pss_one (ps_set (i := 2) nd rfl (.inl rfl) (pv 6)))
        pss_nil))))
      pss_nil)
      (pss_one (ps_ret (pe_c C_l_turned_join hr (by decide) rfl (pa_cons (pv 0) (pa_cons (pv 1) (pa_cons (pv 2) pa_nil)))))))))))), ?_⟩
    obtain ⟨a, p0, p1, p2, w0, w1, ks, rfl, W⟩ := id hx
    refine ⟨_, rfl, d, 6, rfl, hd, by decide, fun z H1 _ _ e1 => ?_⟩
    have hy1 := hy.mono (e1.tx hd)
    refine ⟨_, rfl, y, j, rfl, hy1, Nat.le_trans hj.bl (by omega), fun a ha => Nat.le_trans (hj.at_ a ha).2.2 (by omega), fun vs hvn hvs VR H2 hVR0 e2 hVR => ?_⟩
    have k2 := e1.then_ e2
    have hwv : ∀ s ∈ vs, Wd s := fun s hs => by
      obtain ⟨a, ha, hsa⟩ := (hvs s).mp hs
      exact (hj.at_ a ha).2.1 _ hsa
    refine ⟨fun σ H' => ∃ (y' : V) (j' : Jn) (c5 c6 c7 : Option V), σ = [some (.ref d), some (.ref a), some y', some (.int z), some (.ref VR), c5, c6, c7] ∧ Kd d H H' ∧ Tp H' y' (encJn j') ∧ VJ n 4 3 j', ?_, ?_⟩
    · have sm : ∀ H' c5 c6 c7, Kd d H2 H' → ∃ (y' : V) (j' : Jn) (c5' c6' c7' : Option V), ([some (.ref d), some (.ref a), some y, some (.int z), some (.ref VR), c5, c6, c7] : L2.St) = [some (.ref d), some (.ref a), some y', some (.int z), some (.ref VR), c5', c6', c7'] ∧ Kd d H H' ∧ Tp H' y' (encJn j') ∧ VJ n 4 3 j' := fun H' c5 c6 c7 e => ⟨y, j, c5, c6, c7, rfl, k2.trans e, (hy1.mono (Same.tx e2)).mono (e.tx k2.dr), hj⟩
      refine ⟨_, rfl, rfl, _, rfl, iteD (fun _ => ⟨_, rfl, VR, _, rfl, .inl hVR, _, _, rfl, rfl, _, rfl, iteD (fun pos => ?_) (fun _ => sm _ _ _ _ (.refl k2.dr))⟩) (fun _ => iteF (sm _ _ _ _ (.refl k2.dr)))⟩
      have pos : 0 < vs.length := by
        rw [List.length_map] at pos
        omega
      have V_d := str_nd hVR pos k2.dr
      have W2 := W.kd k2
      refine ⟨_, rfl, _, rfl, _, rfl, d, VR, _, rfl, k2.dr, .inl hVR, V_d, by rw [List.length_map]; exact pos, fun v H4 hv e4 => ?_⟩
      obtain ⟨s, hs, rfl⟩ := List.mem_map.mp hv
      have W4 := W2.kd e4
      refine ⟨_, rfl, _, rfl, a, _, 0, _, rfl, rfl, W4.ha, rfl, _, rfl, _, rfl, a, _, 2, _, rfl, rfl, W4.ha, rfl, sz3, fun L H5 hL0 e5 hL => ?_⟩
      have k5 : Kd d H4 H5 := .same e5 e4.dr
      have W5 := W4.kd k5
      have L_d := dr_ne hL0 e4.dr
      refine ⟨d, .ref L, rfl, k5.dr, ⟨L, p0, VR, p2, w0, vs, ks, rfl, hL, W5.h0, (e4.trans k5).ob _ _ V_d hVR, W5.h2, L_d, W5.n0, V_d, W5.n2, W5.l0, pos, W5.l2, W5.g0, hwv, W5.g2⟩, fun t v' H6 ht e6 hv' => ⟨sz2, fun T H7 _ e7 hT => ⟨sz1, fun M H8 hM0 e8 hM => ?_⟩⟩⟩
      have k28 : Kd d H2 H8 := (e4.trans (k5.trans (e6.then_ (e7.trans e8))))
      refine ⟨y, M, [.ref T], j, [(s, t)], rfl, (hy1.mono (Same.tx e2)).mono (k28.tx k2.dr), .inl hM, .one (prI (p := (s, t)) (hT.same e8) (hv'.mono (Same.tx (e7.trans e8))) (hwv s hs).1), hj.szs (by omega) (by omega) (by omega), fun y' H9 e9 hy' => ?_⟩
      exact ⟨y', subJ [(s, t)] j, _, _, _, rfl, k2.trans (k28.then_ e9), hy', hj.sub fun p hp => by
        rw [List.mem_singleton] at hp
        rw [hp]
        exact ht⟩
    clear hvs hwv hvn hVR k2 hy1 hj hy e1 e2
    rintro σ H1 ⟨y, j, c5, c6, c7, rfl, e1, hy, hj⟩
    refine ⟨fun σ H' => ∃ (y' : V) (j' : Jn) (c5 c6 c7 : Option V), σ = [some (.ref d), some (.ref a), some y', some (.int z), some (.ref VR), c5, c6, c7] ∧ Kd d H H' ∧ Tp H' y' (encJn j') ∧ VJ n 5 3 j' ∧ (z ≠ 2 → VJ n 4 3 j'), ?_, ?_⟩
    · obtain ⟨p, pa, pb, xs, ys, rfl, hp, hpa, hxs, hpb, hys⟩ := jnE (id hy)
      have lys : ys.length = j.2.length := by rw [hys.length, List.length_map]
      have lj := hj.bl
      refine ⟨_, rfl, rfl, _, rfl, iteD (fun hz2 => ⟨_, rfl, p, _, 1, _, rfl, rfl, hp, rfl, pb, ys, rfl, .inr hpb, _, _, rfl, rfl, _, rfl, iteD (fun pos => ?_) (fun _ => ⟨_, j, _, _, _, rfl, e1, hy, hj.le (by decide) (Nat.le_refl _), fun _ => hj⟩)⟩) (fun _ => iteF ⟨_, j, _, _, _, rfl, e1, hy, hj.le (by decide) (Nat.le_refl _), fun _ => hj⟩)⟩
      have hz2 : z = 2 := V.int.inj hz2
      refine ⟨_, rfl, p, _, 0, _, rfl, rfl, hp, rfl, _, rfl, p, _, 1, _, rfl, rfl, hp, rfl, _, rfl, _, rfl, p, _, 1, _, rfl, rfl, hp, rfl, d, pb, ys, rfl, e1.dr, .inr hpb, hpb.nd e1.dr, by omega, fun v H4 hv e4 => ⟨sz1, fun T H5 _ e5 hT => ?_⟩⟩
      obtain ⟨aT, hat, tat⟩ := hys.mem hv
      obtain ⟨x, hx, rfl⟩ := List.mem_map.mp hat
      have tx45 := (e4.tx e1.dr).trans (Same.tx e5)
      refine ⟨pb, T, ys, _, rfl, rfl, tx45 _ _ hpb, hT, szl (by rw [List.length_singleton]; omega), fun C H6 e6 hC => ⟨sz2, fun U H7 _ e7 hU => ?_⟩⟩
      have tx7 := tx45.trans (Same.tx (e6.trans e7))
      refine ⟨_, (j.1, j.2 ++ [x]), _, _, _, rfl, e1.trans (e4.then_ (e5.trans (e6.trans e7))), jnI (j := (j.1, j.2 ++ [x])) hU (tx7 _ _ hpa) (hxs.mono tx7) (hC.same e7) ?_, hj.app (hj.at_ x hx), fun h => absurd hz2 h⟩
      rw [List.map_append]
      exact (hys.mono tx7).snoc (tat.mono tx7)
    clear hj hy e1 c5 c6 c7 j y
    rintro σ H1 ⟨y, j, c5, c6, c7, rfl, e1, hy, hj, hj4⟩
    refine ⟨fun σ H' => ∃ (y' : V) (j' : Jn) (c5 c6 c7 : Option V), σ = [some (.ref d), some (.ref a), some y', some (.int z), some (.ref VR), c5, c6, c7] ∧ Kd d H H' ∧ Tp H' y' (encJn j') ∧ VJ n 5 3 j', ?_, ?_⟩
    · refine ⟨_, rfl, rfl, _, rfl, iteD (fun hz3 => ?_) (fun _ => ⟨_, j, _, _, _, rfl, e1, hy, hj⟩)⟩
      have hz3 : z = 3 := V.int.inj hz3
      have hj := hj4 (by omega)
      obtain ⟨p, pa, pb, xs, ys, rfl, hp, hpa, hxs, hpb, hys⟩ := jnE hy
      have lys : ys.length = j.2.length := by rw [hys.length, List.length_map]
      have lj := hj.bl
      refine ⟨_, rfl, p, _, 0, _, rfl, rfl, hp, rfl, _, rfl, p, _, 1, _, rfl, rfl, hp, rfl, _, rfl, _, rfl, d, .ref a, rfl, e1.dr, hx.kd e1, fun x v H4 hx e4 tat => ⟨sz1, fun T H5 _ e5 hT => ?_⟩⟩
      have tx45 := (e4.tx e1.dr).trans (Same.tx e5)
      refine ⟨pb, T, ys, _, rfl, rfl, tx45 _ _ hpb, hT, szl (by rw [List.length_singleton]; omega), fun C H6 e6 hC => ⟨sz2, fun U H7 _ e7 hU => ?_⟩⟩
      have tx7 := tx45.trans (Same.tx (e6.trans e7))
      refine ⟨_, (j.1, j.2 ++ [x]), _, _, _, rfl, e1.trans (e4.then_ (e5.trans (e6.trans e7))), jnI (j := (j.1, j.2 ++ [x])) hU (tx7 _ _ hpa) (hxs.mono tx7) (hC.same e7) ?_, hj.app hx⟩
      rw [List.map_append]
      exact (hys.mono tx7).snoc (tat.mono (Same.tx (e5.trans (e6.trans e7))))
    clear hj hy e1 c5 c6 c7 hj4 j y
    rintro σ H1 ⟨y, j, c5, c6, c7, rfl, e1, hy, hj⟩
    refine ⟨fun σ H' => ∃ (y' : V) (j' : Jn) (c5 c6 c7 : Option V), σ = [some (.ref d), some (.ref a), some y', some (.int z), some (.ref VR), c5, c6, c7] ∧ Kd d H H' ∧ Tp H' y' (encJn j') ∧ VJ n 5 3 j', ?_, ?_⟩
    · obtain ⟨p, pa, pb, xs, ys, rfl, hp, hpa, hxs, hpb, hys⟩ := jnE (id hy)
      have lys : ys.length = j.2.length := by rw [hys.length, List.length_map]
      have lj := hj.bl
      refine ⟨_, rfl, rfl, _, rfl, iteD (fun hz2 => ⟨_, rfl, p, _, 1, _, rfl, rfl, hp, rfl, pb, ys, rfl, .inr hpb, _, _, rfl, rfl, _, rfl, iteD (fun pos => ?_) (fun _ => ⟨_, j, _, _, _, rfl, e1, hy, hj⟩)⟩) (fun _ => iteF ⟨_, j, _, _, _, rfl, e1, hy, hj⟩)⟩
      refine ⟨_, rfl, _, rfl, p, _, 1, _, rfl, rfl, hp, rfl, pb, ys, rfl, .inr hpb, d, _, rfl, e1.dr, by omega, fun q H4 q0 q1 e4 => ?_⟩
      obtain ⟨q, rfl⟩ := Int.eq_ofNat_of_zero_le q0
      have tx4 := e4.tx e1.dr
      refine ⟨_, rfl, p, _, 0, _, rfl, rfl, tx4 _ _ hp, rfl, _, rfl, p, _, 1, _, rfl, rfl, tx4 _ _ hp, rfl, _, rfl, _, rfl, pb, ys, rfl, tx4 _ _ hpb, fun S1 H5 e5 hS1 => ?_⟩
      refine ⟨_, rfl, p, _, 1, _, rfl, rfl, (tx4 _ _ hp).same e5, rfl, _, rfl, _, _, rfl, rfl, _, rfl, pb, ys, rfl, (tx4 _ _ hpb).same e5, fun S2 H6 e6 hS2 => ?_⟩
      rw [cut_take] at hS1
      rw [show ((q : Int) + 1) = ((q + 1 : Nat) : Int) from rfl, cut_drop] at hS2
      refine ⟨S1, S2, _, _, rfl, rfl, hS1.same e6, hS2, szl (by rw [List.length_take, List.length_drop]; omega), fun C H7 e7 hC => ⟨sz2, fun U H8 _ e8 hU => ?_⟩⟩
      have e48 := e5.trans (e6.trans (e7.trans e8))
      have tx8 := tx4.trans (Same.tx e48)
      have k8 := e1.trans (e4.then_ e48)
      have hbody : Tps H8 (ys.take q ++ ys.drop (q + 1)) ((j.2.eraseIdx q).map encAt) := by
        have := (hys.mono tx8).eraseIdx q
        rw [map_eraseIdx, List.eraseIdx_eq_take_drop_succ] at this
        exact this
      have hless : Tp H8 (.ref U) (encJn (j.1, j.2.eraseIdx q)) := jnI (j := (j.1, j.2.eraseIdx q)) hU (tx8 _ _ hpa) (hxs.mono tx8) (hC.same e8) hbody
      have lle : (j.2.eraseIdx q).length ≤ 5 := Nat.le_trans (List.length_eraseIdx_le _ _) lj
      have hat : ∀ x ∈ j.2.eraseIdx q, VA 3 x := fun x hx => hj.at_ x (List.mem_of_mem_eraseIdx hx)
      have hpa8 := tx8 _ _ hpa
      have hp8 := tx8 _ _ hp
      refine ⟨_, rfl, p, _, 0, _, rfl, rfl, hp8, rfl, pa, rfl, ⟨_, hpa8.seq⟩, lc_t (l := j.1) (ea := encTm) (f := encTm) (c := fun t => open Classical in decide (∃ s, t = .var s ∧ ¬ bocc s (j.1, j.2.eraseIdx q))) hpa8 (hxs.mono tx8) (by rw [hj.hl]; omega) (fun t ht v H2 e2 hv R Qy kN kY => ?_) (fun D dv H9 _ e9 hD tD => ?_)⟩
      · obtain ⟨b, rfl, hb, _⟩ := tmE hv
        refine ⟨rfl, ?_⟩
        refine ⟨_, rfl, b, _, 0, _, rfl, rfl, hb, rfl, rfl, _, rfl, ?_⟩
        cases t with
        | var s =>
          refine iteD (fun _ => ?_) (fun z => absurd rfl z)
          refine ⟨_, rfl, b, _, 1, _, rfl, rfl, hb, rfl, _, rfl, _, (j.1, j.2.eraseIdx q), rfl, hless.mono (Same.tx e2), Nat.le_trans lle (by decide), fun a ha => Nat.le_trans (hat a ha).2.2 (by decide), fun ns hnd hns pp H3 _ e3 hpp => ?_⟩
          refine ⟨pp, _, rfl, .inl hpp, rfl, flat_strs ns, _, rfl, ?_⟩
          show if (!inV (V.str s) (ns.map V.str)) = true then _ else _
          rw [inV_str]
          refine iteN (fun hno => ?_) (fun hyes => ?_)
          · exact ⟨_, rfl, kY (by classical exact decide_eq_true ⟨s, rfl, fun h => hno ((hns s).mpr h)⟩) _ _ e3 (hv.mono (Same.tx e3))⟩
          · refine kN (by classical exact decide_eq_false fun ⟨s', e, h⟩ => h (by cases e; exact (hns s).mp hyes)) _ e3
        | val k0 => exact iteD (fun z => absurd (V.str.inj z).symm tag_ne) (fun _ => kN (by classical exact decide_eq_false fun ⟨s', e, h⟩ => nomatch e) _ (Same.refl _))
      · refine ⟨D, dv, rfl, .inl hD, rfl, _, rfl, iteD (fun h0 => ?_) (fun _ => ?_)⟩
        · have h0 : dv.length = 0 := by
            have := V.int.inj h0
            omega
          rw [tD.length, List.length_map] at h0
          have hnil := List.eq_nil_of_length_eq_zero h0
          refine ⟨_, rfl, .ref U, (j.1, j.2.eraseIdx q), _, _, _, rfl, k8.then_ e9, hless.mono (Same.tx e9), hj.hl, hj.ht, lle, hat, fun s hs => ?_⟩
          rw [List.filter_eq_nil_iff] at hnil
          have := hnil _ hs
          classical
          by_cases hb : bocc s (j.1, j.2.eraseIdx q)
          · exact hb
          · exact absurd (decide_eq_true ⟨s, rfl, hb⟩) this
        · exact ⟨_, j, _, _, _, rfl, k8.then_ e9, hy.mono (tx8.trans (Same.tx e9)), hj⟩
    clear hj hy e1 c5 c6 c7 j y
    rintro σ H1 ⟨y, j, c5, c6, c7, rfl, e1, hy, hj⟩
    exact ⟨_, rfl, _, rfl, _, rfl, d, .ref a, y, n, 5, j, rfl, e1.dr, hx.kd e1, hy, hn, by decide, hj, fun j' v H2 hj' e2 hv => k j' v H2 hj' (e1.trans e2) hv⟩
theorem sc_l_near_question : FnScope ["_law_draws_here", "_law_world_here", "_law_question_here", "_law_joins", "_law_join_here"] ["_law_draws_here", "_law_world_here", "_law_question_here"] (defScope st_l_near_question) := ⟨rfl, rfl, rfl, by decide +kernel, rfl, by decide +kernel, by decide +kernel⟩
-- slots: 0 _law_draws_here, 1 _law_world_here, 2 _law_question_here, 3 _law_joins, 4 _law_join_here
theorem ok_l_near_question (F : Def' K mg "_law_near_question" st_l_near_question) (B : Bt mg) (C_l_take : Cal P w K mg base 1 "_law_take" spTak []) (C_l_near_join : Cal P w K mg base 5 "_law_near_join" spNj []) : Cal P w K mg base 6 "_law_near_question" spNq [] := by
  refine cal_mk F sc_l_near_question (fun _ _ _ _ _ _ us hl => match us, hl with | [_, _, _], _ => rfl) (fun vs H Q E h => ?_) (fun f cdv A outer s H vs Q E hr h => ?_)
  · obtain ⟨d, x, y, n, js, rfl, _⟩ := h
    rfl
  · obtain ⟨d, x, y, n, js, rfl, hd, hx, hy, hn, hl, hj, k⟩ := h
    have nd := sc_l_near_question.nd
    refine ⟨_, (pss_cons (ps_set (i := 3) nd rfl (.inl rfl) (peL pa_nil))
      (pss_cons (ps_for PassesOwn.never rfl (piT (K := K) rfl (pe_ix ixT (pv 2) pe_int (fun _ _ => rfl))) (pg_name (i := 4) nd rfl (.inl rfl))
      (pss_one (ps_if (pt_cmpR op_gt (pe_c C_l_take hr (by decide) rfl (pa_cons (pv 0) (pa_cons pe_int pa_nil))) pe_int (nomark _))
        (pss_cons (ps_expr (peLM PySem.F.slot_list_append PySem.F.type_list_append mt_append (pv 3) (pa_cons (pe_c C_l_near_join hr (by decide) rfl (pa_cons (pv 0) (pa_cons (pv 1) (pa_cons (pv 4) pa_nil)))) pa_nil)))
          (pss_one (ps_if (pt_cmpR op_eq (pe_c C_l_take hr (by decide) rfl (pa_cons (pv 0) (pa_cons pe_int pa_nil))) pe_int (nomark _))
          (pss_one (ps_expr (peLM PySem.F.slot_list_append PySem.F.type_list_append mt_append (pv 3) (pa_cons (pe_c C_l_near_join hr (by decide) rfl (pa_cons (pv 0) (pa_cons (pv 1) (pa_cons (pv 4) pa_nil)))) pa_nil))))
          pss_nil)))
        pss_nil)))
      (pss_cons (ps_ifM (pt_cmpR op_eq (pe_c C_l_take hr (by decide) rfl (pa_cons (pv 0) (pa_cons pe_int pa_nil))) pe_int (nomark _))
      (pss_one (ps_expr (peLM0 PySem.F.slot_list_reverse PySem.F.type_list_reverse mt_reverse (pv 3))))
      pss_nil)
      (pss_one (ps_ret (peT (pa_cons (pe_ix ixT (pv 2) pe_int (fun _ _ => rfl)) (pa_cons (pe_callTy tupOf rfl B.tuple_ bt_tuple (pa_cons (pe_slice slL (pv 3) po_none (po_some pe_int)) pa_nil)) pa_nil)))))))), ?_⟩
    obtain ⟨p, pb, ys, rfl, hp, hpb, hys⟩ := qnE hy
    have lys : ys.length = js.length := by rw [hys.length, List.length_map]
    refine ⟨sz0, fun L H1 hL0 e1 hL => ?_⟩
    have k1 : Kd d H H1 := .same e1 hd
    have L_d := dr_ne hL0 hd
    refine ⟨_, rfl, p, _, 1, _, rfl, rfl, hp.same e1, rfl, pb, rfl, ⟨_, (hpb.same e1).seq⟩, ?_⟩
    refine for_tup (K := K) (xs := ys) (fun i σ H' => ∃ (lv : List V) (l : List Jn) (c4 : Option V), σ = [some (.ref d), some x, some (.ref p), some (.ref L), c4] ∧ Kd d H H' ∧ H' L = some (.lst lv) ∧ Tps H' lv (l.map encJn) ∧ l.length ≤ 2 * i ∧ ∀ j ∈ l, VJ n 5 3 j)
      ⟨[], [], _, rfl, k1, hL, .nil, Nat.zero_le _, fun j hj => by cases hj⟩ (fun i σ H' _ ⟨_, _, _, _, e, _⟩ => (e.tx hd _ _ hpb).seq) (fun i v σ H' hi hP => ?_) (fun σ H' hP => ?_)
    · obtain ⟨lv, l, c4, rfl, e, hL, tL, ll, vl⟩ := hP
      obtain ⟨z, hz, hv⟩ := hys.getM hi
      have vz := hj z (List.mem_of_getElem? hz)
      have hi5 : i < 5 := by
        have := (List.getElem?_eq_some_iff.mp hi).1
        omega
      refine ⟨_, rfl, d, 7, rfl, e.dr, by decide, fun q H2 _ _ e2 => ⟨_, _, rfl, rfl, _, rfl, iteD (fun _ => ?_) (fun _ => ?_)⟩⟩
      · have e02 := e.trans e2
        refine ⟨_, rfl, ⟨L, _, rfl, e2.ob _ _ L_d hL⟩, _, rfl, _, rfl, _, rfl, d, x, v, n, z, rfl, e02.dr, hx.kd e02, hv.mono (e02.tx hd), hn, vz, fun j' v' H3 hj' e3 hv' => ?_⟩
        have hL3 := (e2.trans e3).ob _ _ L_d hL
        have tL3 := tL.mono ((e2.trans e3).tx e.dr)
        have llv : lv.length = l.length := by rw [tL.length, List.length_map]
        refine ⟨L, lv, _, rfl, rfl, hL3, szt (by omega), ?_⟩
        have tx4 := tx_lst (o := .lst (lv ++ [v'])) hL3
        have k4 := kd_mut (o := .lst (lv ++ [v'])) (e02.trans e3) hL0 hd
        have hL4 : (upd H3 L (.lst (lv ++ [v']))) L = some (.lst (lv ++ [v'])) := upd_same
        have tL4 := (tL3.snoc hv').mono tx4
        generalize upd H3 L (.lst (lv ++ [v'])) = H4 at tx4 k4 hL4 tL4
        have vl4 : ∀ j ∈ l ++ [j'], VJ n 5 3 j := fun j hj => by
          rcases List.mem_append.mp hj with hj | hj
          · exact vl j hj
          · rw [List.mem_singleton] at hj
            rw [hj]
            exact hj'
        refine ⟨_, rfl, d, 6, rfl, k4.dr, by decide, fun q H5 _ _ e5 => ⟨rfl, _, rfl, iteD (fun _ => ?_) (fun _ => ?_)⟩⟩
        · have e05 := k4.trans e5
          refine ⟨_, rfl, ⟨L, _, rfl, e5.ob _ _ L_d hL4⟩, _, rfl, _, rfl, _, rfl, d, x, v, n, z, rfl, e05.dr, hx.kd e05, hv.mono (e05.tx hd), hn, vz, fun j2 v2 H6 hj2 e6 hv2 => ?_⟩
          have hL6 := (e5.trans e6).ob _ _ L_d hL4
          have tL6 := tL4.mono ((e5.trans e6).tx k4.dr)
          refine ⟨L, _, _, rfl, rfl, hL6, szt (by rw [List.length_append, List.length_singleton]; omega), ?_⟩
          refine ⟨_, l ++ [j'] ++ [j2], _, rfl, kd_mut (e05.trans e6) hL0 hd, upd_same, ?_, by simp only [List.length_append, List.length_singleton]; omega, ?_⟩
          · rw [List.map_append (l₁ := l ++ [j']), List.map_append (l₁ := l)]
            exact (tL6.snoc hv2).mono (tx_lst hL6)
          · intro j hj
            rcases List.mem_append.mp hj with hj | hj
            · exact vl4 j hj
            · rw [List.mem_singleton] at hj
              rw [hj]
              exact hj2
        · refine ⟨_, l ++ [j'], _, rfl, k4.trans e5, e5.ob _ _ L_d hL4, ?_, by rw [List.length_append, List.length_singleton]; omega, vl4⟩
          rw [List.map_append]
          exact tL4.mono (e5.tx k4.dr)
      · exact ⟨lv, l, _, rfl, e.trans e2, e2.ob _ _ L_d hL, tL.mono (e2.tx e.dr), by omega, vl⟩
    · obtain ⟨lv, l, c4, rfl, e, hL, tL, ll, vl⟩ := hP
      refine ⟨fun σ H' => ∃ (lv : List V) (l : List Jn) (c4 : Option V), σ = [some (.ref d), some x, some (.ref p), some (.ref L), c4] ∧ Kd d H H' ∧ H' L = some (.lst lv) ∧ Tps H' lv (l.map encJn) ∧ ∀ j ∈ l, VJ n 5 3 j, ?_, ?_⟩
      · refine ⟨_, rfl, d, 2, rfl, e.dr, by decide, fun q H2 _ _ e2 => ⟨rfl, _, rfl, iteD (fun _ => ?_) (fun _ => ?_)⟩⟩
        · have hL2 := e2.ob _ _ L_d hL
          refine ⟨_, rfl, ⟨L, _, rfl, hL2⟩, L, _, rfl, rfl, hL2, ?_⟩
          refine ⟨_, l.reverse, _, rfl, kd_mut (e.trans e2) hL0 hd, upd_same, ?_, fun j hj => vl j (List.mem_reverse.mp hj)⟩
          rw [List.map_reverse]
          exact (tL.mono (e2.tx e.dr)).reverse.mono (tx_lst hL2)
        · exact ⟨lv, l, _, rfl, e.trans e2, e2.ob _ _ L_d hL, tL.mono (e2.tx e.dr), vl⟩
      rintro σ H2 ⟨lv, l, c4, rfl, e, hL, tL, vl⟩
      refine ⟨_, rfl, p, _, 0, _, rfl, rfl, e.tx hd _ _ hp, rfl, _, rfl, _, rfl, L, lv, rfl, hL, fun S H3 _ e3 hS => ⟨S, _, rfl, hS, fun T H4 _ e4 hT => ⟨sz2, fun U H5 _ e5 hU => ?_⟩⟩⟩
      have e35 := e3.trans (e4.trans e5)
      have : cutV lv none (some (4 : Int)) = lv.take 4 := cut_take lv 4
      rw [this] at hT
      refine k (l.take 4) _ H5 (by rw [List.length_take]; omega) (fun j hj => vl j (List.mem_of_mem_take hj)) (e.then_ e35) (qnI (q := ((n : Int), l.take 4)) hU (hT.same e5) ?_)
      have := (tL.mono (Same.tx e35)).take 4
      rwa [← List.map_take] at this
theorem sc_l_near : FnScope ["_law_draws_here", "_law_world_here", "_law_question_here", "_law_near_here", "_law_join_here"] ["_law_draws_here", "_law_world_here", "_law_question_here"] (defScope st_l_near) := ⟨rfl, rfl, rfl, by decide +kernel, rfl, by decide +kernel, by decide +kernel⟩
-- slots: 0 _law_draws_here, 1 _law_world_here, 2 _law_question_here, 3 _law_near_here, 4 _law_join_here
theorem ok_l_near (F : Def' K mg "_law_near" st_l_near) (B : Bt mg) (C_l_near_question : Cal P w K mg base 6 "_law_near_question" spNq []) : Cal P w K mg base 7 "_law_near" spNr [] := by
  refine cal_mk F sc_l_near (fun _ _ _ _ _ _ us hl => match us, hl with | [_, _, _], _ => rfl) (fun vs H Q E h => ?_) (fun f cdv A outer s H vs Q E hr h => ?_)
  · obtain ⟨d, x, y, n, js, rfl, _⟩ := h
    rfl
  · obtain ⟨d, x, y, n, js, rfl, hd, hx, hy, hn, hl, hj, k⟩ := h
    have nd := sc_l_near.nd
    refine ⟨_, (pss_cons (ps_set (i := 3) nd rfl (.inl rfl) (pe_c C_l_near_question hr (by decide) rfl (pa_cons (pv 0) (pa_cons (pv 1) (pa_cons (pv 2) pa_nil)))))
      (pss_one (ps_ret (peT (pa_cons (pe_ix ixT (pv 3) pe_int (fun _ _ => rfl)) (pa_cons (pe_callTy tupOf rfl B.tuple_ bt_tuple (pa_cons (pe_lc (own := [("_law_join_here", 4)]) (g := (gName 4)) rfl nd (piT (K := K) rfl (pe_ix ixT (pv 3) pe_int (fun _ _ => rfl))) (blkOk_by (by kernel_rfl)) (fun _ _ _ _ _ => (pg_name (i := 4) nd rfl (.inl rfl))) (fun _ _ _ _ _ => (pts_one (pt_cmpR op_lt (pe_callB lenS rfl B.len_ bt_len (pa_cons (pe_ix ixT (pv 4) pe_int (fun _ _ => rfl)) pa_nil)) pe_int (nomark _)))) (fun _ _ _ _ _ => (pv 4))) pa_nil)) pa_nil)))))), ?_⟩
    refine ⟨_, rfl, _, rfl, _, rfl, d, x, y, n, js, rfl, hd, hx, hy, hn, hl, hj, fun js' v H1 hl' hj' e1 hv => ?_⟩
    obtain ⟨p, pb, ys, rfl, hp, hpb, hys⟩ := qnE hv
    refine ⟨_, rfl, p, _, 0, _, rfl, rfl, hp, rfl, _, rfl, p, _, 1, _, rfl, rfl, hp, rfl, pb, rfl, ⟨_, hpb.seq⟩, lc_t (l := js') (ea := encJn) (f := encJn) (c := fun j => decide (j.2.length < 5)) hpb hys (by omega) (fun t ht v H2 e2 hv R Qy kN kY => ?_) (fun D dv H2 _ e2 hD tD => ?_)⟩
    · obtain ⟨q, qa, qb, zs, ws, rfl, hq, hqa, hzs, hqb, hws⟩ := jnE (id hv)
      have lws : ws.length = t.2.length := by rw [hws.length, List.length_map]
      refine ⟨rfl, ?_⟩
      refine ⟨_, rfl, q, _, 1, _, rfl, rfl, hq, rfl, qb, ws, rfl, .inr hqb, _, _, rfl, rfl, _, rfl, iteD (fun h => ?_) (fun h => ?_)⟩
      · exact ⟨_, rfl, kY (decide_eq_true (by omega)) _ _ (Same.refl _) hv⟩
      · exact kN (decide_eq_false (by omega)) _ (Same.refl _)
    · refine ⟨D, dv, rfl, hD, fun T H3 _ e3 hT => ⟨sz2, fun U H4 _ e4 hU => ?_⟩⟩
      refine k (js'.filter fun j => decide (j.2.length < 5)) _ H4 (Nat.le_trans (List.length_filter_le _ _) hl') (fun j hj => ?_) (e1.then_ (e2.trans (e3.trans e4))) (qnI (q := ((n : Int), _)) hU (hT.same e4) (tD.mono (Same.tx (e3.trans e4))))
      obtain ⟨h1, h2⟩ := List.mem_filter.mp hj
      have h2 := of_decide_eq_true h2
      have v := hj' j h1
      exact ⟨v.hl, v.ht, by omega, v.at_, v.hb⟩
theorem sc_l_weaker : FnScope ["_law_draws_here", "_law_world_here", "_law_kind", "_law_question_here", "_law_join_here", "_law_variables", "_law_form", "_law_other", "_law_mapping", "_law_bound_here", "_law_pair", "_law_x"] ["_law_draws_here", "_law_world_here", "_law_kind", "_law_question_here"] (defScope st_l_weaker) := ⟨rfl, rfl, rfl, by decide +kernel, rfl, by decide +kernel, by decide +kernel⟩
-- slots: 0 _law_draws_here, 1 _law_world_here, 2 _law_kind, 3 _law_question_here, 4 _law_join_here, 5 _law_variables, 6 _law_form, 7 _law_other, 8 _law_mapping, 9 _law_bound_here, 10 _law_pair, 11 _law_x
theorem ok_l_weaker (F : Def' K mg "_law_weaker" st_l_weaker) (B : Bt mg) (C_l_take : Cal P w K mg base 1 "_law_take" spTak []) (C_l_pick : Cal P w K mg base 2 "_law_pick" spPk []) (C_l_term : Cal P w K mg base 3 "_law_term" spTe []) (C_l_atom : Cal P w K mg base 4 "_law_atom" spAt []) (C_l_join_variables : Cal P w K mg base 1 "_law_join_variables" spLjv []) (C_l_put_join : Cal P w K mg base 2 "_law_put_join" spLpj []) (C_l_bound : Cal P w K mg base 1 "_law_bound" spLbd []) : Cal P w K mg base 5 "_law_weaker" spWk [] := by
  refine cal_mk F sc_l_weaker (fun _ _ _ _ _ _ us hl => match us, hl with | [_, _, _, _], _ => rfl) (fun vs H Q E h => ?_) (fun f cdv A outer s H vs Q E hr h => ?_)
  · obtain ⟨d, x, y, kind, n, js, rfl, _⟩ := h
    rfl
  · obtain ⟨d, x, y, kind, n, js, rfl, hk3, hd, hx, hy, hn, hl, hj, k⟩ := h
    have nd := sc_l_weaker.nd
    refine ⟨_, (pss_cons (ps_set (i := 4) nd rfl (.inl rfl) (pe_c C_l_pick hr (by decide) rfl (pa_cons (pv 0) (pa_cons (pe_ix ixT (pv 3) pe_int (fun _ _ => rfl)) pa_nil))))
      (pss_cons (ps_set (i := 5) nd rfl (.inl rfl) (pe_c C_l_join_variables hr (by decide) rfl (pa_cons (pv 4) pa_nil)))
      (pss_cons (ps_set (i := 6) nd rfl (.inl rfl) (pe_c C_l_take hr (by decide) rfl (pa_cons (pv 0) (pa_cons pe_int pa_nil))))
      (pss_cons (ps_ifM (PW.pt (pw_and (pt_cmpR op_eq (pv 6) pe_int (nomark _)) (pw_and1 (pt_cmpR op_gt (pe_callB lenS rfl B.len_ bt_len (pa_cons (pv 5) pa_nil)) pe_int (nomark _)))))
      (pss_one (ps_ret (pe_c C_l_put_join hr (by decide) rfl (pa_cons (pv 4) (pa_cons (peL (pa_cons (peT (pa_cons (pe_c C_l_pick hr (by decide) rfl (pa_cons (pv 0) (pa_cons (pv 5) pa_nil))) (pa_cons (pe_c C_l_term hr (by decide) rfl (pa_cons (pv 0) (pa_cons (peL (pa_cons (pe_ix ixL (pv 1) pe_int (fun _ _ => rfl)) (pa_cons (pv 5) (pa_cons (pe_ix ixL (pv 1) pe_int (fun _ _ => rfl)) pa_nil)))) pa_nil))) pa_nil))) pa_nil)) pa_nil)))))
      pss_nil)
      (pss_cons (ps_ifM (PW.pt (pw_and (pt_cmpR op_eq (pv 6) pe_int (nomark _)) (pw_and (pt_cmpR inS (pv 2) (peL (pa_cons pe_str (pa_cons pe_str pa_nil))) rfl) (pw_and1 (pt_cmpR op_lt (pe_callB lenS rfl B.len_ bt_len (pa_cons (pe_ix ixT (pv 4) pe_int (fun _ _ => rfl)) pa_nil)) pe_int (nomark _))))))
      (pss_one (ps_ret (peT (pa_cons (pe_ix ixT (pv 4) pe_int (fun _ _ => rfl)) (pa_cons (pe_op catT (pe_ix ixT (pv 4) pe_int (fun _ _ => rfl)) (peT (pa_cons (pe_c C_l_atom hr (by decide) rfl (pa_cons (pv 0) (pa_cons (pv 1) pa_nil))) pa_nil))) pa_nil)))))
      pss_nil)
      (pss_cons (ps_ifM (PW.pt (pw_and (pt_cmpR op_eq (pv 6) pe_int (nomark _)) (pw_and (pt_cmpR op_ne (pv 2) pe_str (nomark _)) (pw_and (pt_cmpR op_gt (pe_callB lenS rfl B.len_ bt_len (pa_cons (pe_ix ixT (pv 4) pe_int (fun _ _ => rfl)) pa_nil)) pe_int (nomark _)) (pw_and1 (pt_cmpR op_lt (pe_callB lenS rfl B.len_ bt_len (pa_cons (pe_ix ixT (pv 4) pe_int (fun _ _ => rfl)) pa_nil)) pe_int (nomark _)))))))
      (pss_one (ps_ret (peT (pa_cons (pe_ix ixT (pv 4) pe_int (fun _ _ => rfl)) (pa_cons (pe_op catT (pe_ix ixT (pv 4) pe_int (fun _ _ => rfl)) (peT (pa_cons (pe_c C_l_pick hr (by decide) rfl (pa_cons (pv 0) (pa_cons (pe_ix ixT (pv 4) pe_int (fun _ _ => rfl)) pa_nil))) pa_nil))) pa_nil)))))
      pss_nil)
      (pss_cons (ps_set (i := 7) nd rfl (.inl rfl) (pe_c C_l_pick hr (by decide) rfl (pa_cons (pv 0) (pa_cons (pe_ix ixT (pv 3) pe_int (fun _ _ => rfl)) pa_nil))))
      (pss_cons (ps_setM (i := 8) nd rfl (.inl rfl) (pe_c C_l_bound hr (by decide) rfl (pa_cons (pe_ix ixT (pv 7) pe_int (fun _ _ => rfl)) (pa_cons (pe_ix ixT (pv 4) pe_int (fun _ _ => rfl)) (pa_cons (peL pa_nil) pa_nil)))))
      (pss_cons (ps_if (PW.pt (pw_or (pt_cmpR op_ne (pv 2) pe_str (nomark _)) (pw_or (pt_cmpR op_isN (pv 8) pe_non (nomark _)) (pw_or1 (pt_cmpR op_gt (pe_op op_add (pe_callB lenS rfl B.len_ bt_len (pa_cons (pe_ix ixT (pv 4) pe_int (fun _ _ => rfl)) pa_nil)) (pe_callB lenS rfl B.len_ bt_len (pa_cons (pe_ix ixT (pv 7) pe_int (fun _ _ => rfl)) pa_nil))) pe_int (nomark _))))))
      (pss_one (ps_ret (pv 4)))
      pss_nil)
      pss_never))))))))), ?_⟩
    obtain ⟨a, p0, p1, p2, w0, w1, ks, rfl, W⟩ := id hx
    obtain ⟨q, qb, qs, rfl, hq, hqb, hqs⟩ := qnE hy
    have lqs : qs.length = js.length := by rw [hqs.length, List.length_map]
    refine ⟨_, rfl, _, rfl, q, _, 1, _, rfl, rfl, hq, rfl, d, qb, qs, rfl, hd, .inr hqb, hqb.nd hd, by omega, fun jv H1 hjv e1 => ?_⟩
    obtain ⟨dd, hdd, hjT⟩ := (hqs.mono (e1.tx hd)).mem hjv
    obtain ⟨j, hjm, rfl⟩ := List.mem_map.mp hdd
    have vj := hj j hjm
    refine ⟨_, rfl, jv, j, rfl, hjT, Nat.le_trans vj.bl (by omega), fun a ha => Nat.le_trans (vj.at_ a ha).2.2 (by omega), fun vs hvn hvs VR H2 hVR0 e2 hVR => ?_⟩
    have k2 := e1.then_ e2
    have hwv : ∀ s ∈ vs, Wd s := fun s hs => by
      obtain ⟨a, ha, hsa⟩ := (hvs s).mp hs
      exact (vj.at_ a ha).2.1 _ hsa
    refine ⟨_, rfl, d, 4, rfl, k2.dr, by decide, fun z H3 _ _ e3 => ?_⟩
    have k3 := k2.trans e3
    have hjT := (hjT.mono (Same.tx e2)).mono (e3.tx k2.dr)
    obtain ⟨p, pa, pb, xs, ys, rfl, hp, hpa, hxs, hpb, hys⟩ := jnE (id hjT)
    have lys : ys.length = j.2.length := by rw [hys.length, List.length_map]
    have lj := vj.bl
    have V_d := dr_ne hVR0 e1.dr
    have hVR3 := e3.ob _ _ V_d hVR
    have hns : kind ≠ "sets" := by rcases hk3 with rfl | rfl | rfl <;> decide +kernel
    -- the state that goes on
    refine ⟨fun σ H' => ∃ (c7 c8 c9 c10 c11 : Option V), σ = [some (.ref d), some (.ref a), some (.str kind), some (.ref q), some (.ref p), some (.ref VR), some (.int z), c7, c8, c9, c10, c11] ∧ Kd d H3 H', ?_, ?_⟩
    · have nx : ∀ H' c7 c8 c9 c10 c11, Kd d H3 H' → ∃ (c7' c8' c9' c10' c11' : Option V), ([some (.ref d), some (.ref a), some (.str kind), some (.ref q), some (.ref p), some (.ref VR), some (.int z), c7, c8, c9, c10, c11] : L2.St) = [some (.ref d), some (.ref a), some (.str kind), some (.ref q), some (.ref p), some (.ref VR), some (.int z), c7', c8', c9', c10', c11'] ∧ Kd d H3 H' := fun H' c7 c8 c9 c10 c11 e => ⟨_, _, _, _, _, rfl, e⟩
      refine ⟨_, rfl, rfl, _, rfl, iteD (fun _ => ⟨_, rfl, VR, _, rfl, .inl hVR3, _, _, rfl, rfl, _, rfl, iteD (fun pos => ?_) (fun _ => nx _ _ _ _ _ _ (.refl k3.dr))⟩) (fun _ => iteF (nx _ _ _ _ _ _ (.refl k3.dr)))⟩
      have pos : 0 < vs.length := by
        rw [List.length_map] at pos
        omega
      have W3 := W.kd k3
      refine ⟨_, rfl, _, rfl, _, rfl, d, VR, _, rfl, k3.dr, .inl hVR3, V_d, by rw [List.length_map]; exact pos, fun v H4 hv e4 => ?_⟩
      obtain ⟨s, hs, rfl⟩ := List.mem_map.mp hv
      have W4 := W3.kd e4
      refine ⟨_, rfl, _, rfl, a, _, 0, _, rfl, rfl, W4.ha, rfl, _, rfl, _, rfl, a, _, 2, _, rfl, rfl, W4.ha, rfl, sz3, fun L H5 hL0 e5 hL => ?_⟩
      have k5 : Kd d H4 H5 := .same e5 e4.dr
      have W5 := W4.kd k5
      have L_d := dr_ne hL0 e4.dr
      refine ⟨d, .ref L, rfl, k5.dr, ⟨L, p0, VR, p2, w0, vs, ks, rfl, hL, W5.h0, (e4.trans k5).ob _ _ V_d hVR3, W5.h2, L_d, W5.n0, V_d, W5.n2, W5.l0, pos, W5.l2, W5.g0, hwv, W5.g2⟩, fun t v' H6 ht e6 hv' => ⟨sz2, fun T H7 _ e7 hT => ⟨sz1, fun M H8 hM0 e8 hM => ?_⟩⟩⟩
      have k38 : Kd d H3 H8 := (e4.trans (k5.trans (e6.then_ (e7.trans e8))))
      refine ⟨_, M, [.ref T], j, [(s, t)], rfl, hjT.mono (k38.tx k3.dr), .inl hM, .one (prI (p := (s, t)) (hT.same e8) (hv'.mono (Same.tx (e7.trans e8))) (hwv s hs).1), vj.szs (by omega) (by omega) (by omega), fun y' H9 e9 hy' => ?_⟩
      exact k (subJ [(s, t)] j) y' H9 (vj.sub fun p hp => by
        rw [List.mem_singleton] at hp
        rw [hp]
        exact ht) (k3.trans (k38.then_ e9)) hy'
    rintro σ H4 ⟨c7, c8, c9, c10, c11, rfl, e4⟩
    have e04 := k3.trans e4
    have tx4 := e4.tx k3.dr
    have hp4 := tx4 _ _ hp
    have hpa4 := tx4 _ _ hpa
    have hpb4 := tx4 _ _ hpb
    refine ⟨fun σ H' => ∃ (c7 c8 c9 c10 c11 : Option V), σ = [some (.ref d), some (.ref a), some (.str kind), some (.ref q), some (.ref p), some (.ref VR), some (.int z), c7, c8, c9, c10, c11] ∧ Kd d H3 H', ?_, ?_⟩
    · have nx : ∀ H' c7 c8 c9 c10 c11, Kd d H3 H' → ∃ (c7' c8' c9' c10' c11' : Option V), ([some (.ref d), some (.ref a), some (.str kind), some (.ref q), some (.ref p), some (.ref VR), some (.int z), c7, c8, c9, c10, c11] : L2.St) = [some (.ref d), some (.ref a), some (.str kind), some (.ref q), some (.ref p), some (.ref VR), some (.int z), c7', c8', c9', c10', c11'] ∧ Kd d H3 H' := fun H' c7 c8 c9 c10 c11 e => ⟨_, _, _, _, _, rfl, e⟩
      refine ⟨_, rfl, rfl, _, rfl, iteD (fun _ => ?_) (fun _ => iteF (nx _ _ _ _ _ _ e4))⟩
      refine ⟨_, rfl, sz2, fun L5 H5 hL50 e5 hL5 => ⟨L5, _, rfl, .inl hL5, rfl, rfl, _, rfl, iteB (fun _ => ?_) (fun _ => iteF (nx _ _ _ _ _ _ (e4.then_ e5)))⟩⟩
      have e05 := e04.then_ e5
      refine ⟨_, rfl, p, _, 1, _, rfl, rfl, hp4.same e5, rfl, pb, ys, rfl, .inr (hpb4.same e5), _, _, rfl, rfl, _, rfl, iteD (fun l4 => ?_) (fun _ => nx _ _ _ _ _ _ (e4.then_ e5))⟩
      refine ⟨_, rfl, p, _, 0, _, rfl, rfl, hp4.same e5, rfl, _, rfl, p, _, 1, _, rfl, rfl, hp4.same e5, rfl, _, rfl, _, rfl, d, .ref a, rfl, e05.dr, hx.kd e05, fun x v H6 hx e6 tat => ⟨sz1, fun T H7 _ e7 hT => ?_⟩⟩
      have tx7 := (tx4.trans (Same.tx e5)).trans ((e6.tx e05.dr).trans (Same.tx e7))
      refine ⟨pb, T, ys, _, rfl, rfl, tx7 _ _ hpb, hT, szl (by rw [List.length_singleton]; omega), fun C H8 e8 hC => ⟨sz2, fun U H9 _ e9 hU => ?_⟩⟩
      have tx9 := tx7.trans (Same.tx (e8.trans e9))
      have vj3 : VJ n 3 3 j := ⟨vj.hl, vj.ht, by omega, vj.at_, vj.hb⟩
      refine k (j.1, j.2 ++ [x]) _ H9 (vj3.app hx) (e05.trans (e6.then_ (e7.trans (e8.trans e9)))) (jnI (j := (j.1, j.2 ++ [x])) hU (tx9 _ _ hpa) (hxs.mono tx9) (hC.same e9) ?_)
      rw [List.map_append]
      exact (hys.mono tx9).snoc (tat.mono (Same.tx (e7.trans (e8.trans e9))))
    clear hp4 hpa4 hpb4 tx4 e04 e4 c7 c8 c9 c10 c11
    rintro σ H4 ⟨c7, c8, c9, c10, c11, rfl, e4⟩
    have e04 := k3.trans e4
    have tx4 := e4.tx k3.dr
    have hp4 := tx4 _ _ hp
    have hpa4 := tx4 _ _ hpa
    have hpb4 := tx4 _ _ hpb
    refine ⟨fun σ H' => ∃ (c7 c8 c9 c10 c11 : Option V), σ = [some (.ref d), some (.ref a), some (.str kind), some (.ref q), some (.ref p), some (.ref VR), some (.int z), c7, c8, c9, c10, c11] ∧ Kd d H3 H', ?_, ?_⟩
    · have nx : ∀ c7 c8 c9 c10 c11, ∃ (c7' c8' c9' c10' c11' : Option V), ([some (.ref d), some (.ref a), some (.str kind), some (.ref q), some (.ref p), some (.ref VR), some (.int z), c7, c8, c9, c10, c11] : L2.St) = [some (.ref d), some (.ref a), some (.str kind), some (.ref q), some (.ref p), some (.ref VR), some (.int z), c7', c8', c9', c10', c11'] ∧ Kd d H3 H4 := fun c7 c8 c9 c10 c11 => ⟨_, _, _, _, _, rfl, e4⟩
      refine ⟨_, rfl, rfl, _, rfl, iteD (fun _ => ?_) (fun _ => iteF (nx _ _ _ _ _))⟩
      refine ⟨_, rfl, rfl, _, rfl, iteN (fun _ => ?_) (fun _ => iteF (nx _ _ _ _ _))⟩
      refine ⟨_, rfl, p, _, 1, _, rfl, rfl, hp4, rfl, pb, ys, rfl, .inr hpb4, _, _, rfl, rfl, _, rfl, iteD (fun pos => ?_) (fun _ => iteF (nx _ _ _ _ _))⟩
      refine ⟨_, rfl, p, _, 1, _, rfl, rfl, hp4, rfl, pb, ys, rfl, .inr hpb4, _, _, rfl, rfl, _, rfl, iteD (fun l4 => ?_) (fun _ => nx _ _ _ _ _)⟩
      refine ⟨_, rfl, p, _, 0, _, rfl, rfl, hp4, rfl, _, rfl, p, _, 1, _, rfl, rfl, hp4, rfl, _, rfl, _, rfl, p, _, 1, _, rfl, rfl, hp4, rfl, d, pb, ys, rfl, e04.dr, .inr hpb4, hpb4.nd e04.dr, by omega, fun v H6 hv e6 => ⟨sz1, fun T H7 _ e7 hT => ?_⟩⟩
      obtain ⟨aT, hat, tat⟩ := (hys.mono tx4).mem hv
      obtain ⟨x, hx, rfl⟩ := List.mem_map.mp hat
      have tx47 := (e6.tx e04.dr).trans (Same.tx e7)
      have tx7 := tx4.trans tx47
      refine ⟨pb, T, ys, _, rfl, rfl, tx7 _ _ hpb, hT, szl (by rw [List.length_singleton]; omega), fun C H8 e8 hC => ⟨sz2, fun U H9 _ e9 hU => ?_⟩⟩
      have tx9 := tx7.trans (Same.tx (e8.trans e9))
      have vj3 : VJ n 3 3 j := ⟨vj.hl, vj.ht, by omega, vj.at_, vj.hb⟩
      refine k (j.1, j.2 ++ [x]) _ H9 (vj3.app (vj.at_ x hx)) (e04.trans (e6.then_ (e7.trans (e8.trans e9)))) (jnI (j := (j.1, j.2 ++ [x])) hU (tx9 _ _ hpa) (hxs.mono tx9) (hC.same e9) ?_)
      rw [List.map_append]
      exact (hys.mono tx9).snoc (tat.mono (tx47.trans (Same.tx (e8.trans e9))))
    clear hp4 hpa4 hpb4 tx4 e04 e4 c7 c8 c9 c10 c11
    rintro σ H4 ⟨c7, c8, c9, c10, c11, rfl, e4⟩
    have e04 := k3.trans e4
    have tx4 := e04.tx hd
    refine ⟨_, rfl, _, rfl, q, _, 1, _, rfl, rfl, tx4 _ _ hq, rfl, d, qb, qs, rfl, e04.dr, .inr (tx4 _ _ hqb), hqb.nd hd, by omega, fun ov H5 hov e5 => ?_⟩
    obtain ⟨dd, hdd, hoT⟩ := ((hqs.mono tx4).mono (e5.tx e04.dr)).mem hov
    obtain ⟨o, hom, rfl⟩ := List.mem_map.mp hdd
    have vo := hj o hom
    obtain ⟨r, ra, rb, us, zs, rfl, hr', hra, hus, hrb, hzs⟩ := jnE (id hoT)
    have tx5 := (e4.tx k3.dr).trans (e5.tx e04.dr)
    refine ⟨fun σ H' => ∃ (c7 c8 c9 c10 c11 : Option V), σ = [some (.ref d), some (.ref a), some (.str kind), some (.ref q), some (.ref p), some (.ref VR), some (.int z), c7, c8, c9, c10, c11] ∧ Same H5 H', ?_, ?_⟩
    · refine ⟨_, rfl, r, _, 0, _, rfl, rfl, hr', rfl, _, rfl, p, _, 0, _, rfl, rfl, tx5 _ _ hp, rfl, sz0, fun L H6 hL0 e6 hL => ?_⟩
      refine ⟨_, _, L, [], o.1, j.1, [], rfl, .tup (hra.same e6) (hus.mono (Same.tx e6)), .tup ((tx5 _ _ hpa).same e6) ((hxs.mono tx5).mono (Same.tx e6)), .inl hL, .nil, by rw [vo.hl]; omega, Nat.zero_le _, fun _ H7 e7 => ?_, fun m' _ pp mv' H7 _ e7 _ _ => ?_⟩
      · exact ⟨_, _, _, _, _, rfl, e6.trans e7⟩
      · exact ⟨_, _, _, _, _, rfl, e6.trans e7⟩
    rintro σ H6 ⟨c7, c8, c9, c10, c11, rfl, e6⟩
    refine ⟨_, rfl, rfl, _, rfl, iteN (fun _ => ?_) (fun z => absurd (V.str.inj z) hns)⟩
    exact iteT ⟨_, rfl, k j _ H6 vj (e04.trans (e5.then_ e6)) ((hjT.mono tx5).mono (Same.tx e6))⟩
end
end Aw

/-! C4: drawing: equal, two, two_long. -/
namespace Aw
open PySem PySem.Spec PyProof.Rows L2
open C8 (Cal pe_c)
theorem ins_nat {α : Type} (l : List α) (i : Nat) (x : α) : l.take ((i : Int).toNat) ++ [x] ++ l.drop ((i : Int).toNat) = l.take i ++ x :: l.drop i := by
  rw [Int.toNat_natCast, List.append_assoc]
  rfl
theorem mem_ins {α : Type} {l : List α} {i : Nat} {x y : α} (h : y ∈ l.take i ++ x :: l.drop i) : y = x ∨ y ∈ l := by
  rcases List.mem_append.mp h with h | h
  · exact .inr (List.mem_of_mem_take h)
  · rcases List.mem_cons.mp h with h | h
    · exact .inl h
    · exact .inr (List.mem_of_mem_drop h)
theorem len_ins {α : Type} {l : List α} {i : Nat} {x : α} : (l.take i ++ x :: l.drop i).length = l.length + 1 := by
  rw [List.length_append, List.length_cons, List.length_take, List.length_drop]
  omega
theorem tps_ins {α : Type} {f : α → T} {H : Hp} {xs : List V} {l : List α} {v : V} {x : α} (n : Nat) (h : Tps H xs (l.map f)) (hv : Tp H v (f x)) : Tps H (xs.take n ++ v :: xs.drop n) ((l.take n ++ x :: l.drop n).map f) := by
  have := h.insertAt n hv
  rw [List.map_append, List.map_cons, List.map_take, List.map_drop]
  exact this
/-! ### promises -/
structure Pr2 (n a : Nat) (k : Nat) (js1 js2 : List Jn) : Prop where
  hn : n ≤ 4
  l1 : js1.length ≤ 5
  l2 : js2.length ≤ 5
  v1 : ∀ j ∈ js1, VJ n a k j
  v2 : ∀ j ∈ js2, VJ n a k j
def spTw (k0 : Nat) : Sp := fun vs H Q _ => ∃ (d : Addr) (x : V) (kind : Str), vs = [.ref d, x, .str kind, .int 3] ∧ kind3d kind ∧ Dr H d ∧ Wo H d x ∧
  ∀ (p : Addr) (v1 v2 : V) (n : Nat) (js1 js2 : List Jn) H', p ≠ d → Pr2 n 4 k0 js1 js2 → Kd d H H' → H' p = some (.lst [v1, v2]) → Tp H' v1 (encQn ((n : Int), js1)) → Tp H' v2 (encQn ((n : Int), js2)) → Q (.ref p) H'
section
variable {P : Program} {w : World} {K : PySem.W.Frag} {mg : Str → Option Value} {base : Heap}
theorem sc_l_equal : FnScope ["_law_draws_here", "_law_world_here", "_law_kind", "_law_question_here", "_law_joins", "_law_join_here", "_law_k"] ["_law_draws_here", "_law_world_here", "_law_kind", "_law_question_here"] (defScope st_l_equal) := ⟨rfl, rfl, rfl, by decide +kernel, rfl, by decide +kernel, by decide +kernel⟩
-- slots: 0 _law_draws_here, 1 _law_world_here, 2 _law_kind, 3 _law_question_here, 4 _law_joins, 5 _law_join_here, 6 _law_k
theorem ok_l_equal (F : Def' K mg "_law_equal" st_l_equal) (B : Bt mg) (C_l_take : Cal P w K mg base 1 "_law_take" spTak []) (C_l_turned_join : Cal P w K mg base 3 "_law_turned_join" spTj []) (C_l_weaker : Cal P w K mg base 5 "_law_weaker" spWk []) : Cal P w K mg base 6 "_law_equal" spEl [] := by
  refine cal_mk F sc_l_equal (fun _ _ _ _ _ _ us hl => match us, hl with | [_, _, _, _], _ => rfl) (fun vs H Q E h => ?_) (fun f cdv A outer s H vs Q E hr h => ?_)
  · obtain ⟨d, x, y, kind, n, js, rfl, _⟩ := h
    rfl
  · obtain ⟨d, x, y, kind, n, js, rfl, hk3, hd, hx, hy, hn, hl, hj, k⟩ := h
    have nd := sc_l_equal.nd
    refine ⟨_, (pss_cons (ps_set (i := 4) nd rfl (.inl rfl) (peL pa_nil))
      (pss_cons (ps_for PassesOwn.never rfl (piT (K := K) rfl (pe_ix ixT (pv 3) pe_int (fun _ _ => rfl))) (pg_name (i := 5) nd rfl (.inl rfl))
      (pss_one (ps_expr (peLM PySem.F.slot_list_insert PySem.F.type_list_insert mt_insert (pv 4) (pa_cons (pe_c C_l_take hr (by decide) rfl (pa_cons (pv 0) (pa_cons (pe_op op_add (pe_callB lenS rfl B.len_ bt_len (pa_cons (pv 4) pa_nil)) pe_int) pa_nil))) (pa_cons (pe_c C_l_turned_join hr (by decide) rfl (pa_cons (pv 0) (pa_cons (pv 1) (pa_cons (pv 5) pa_nil)))) pa_nil))))))
      (pss_cons (ps_ifM (PW.pt (pw_and (pt_cmpR op_ne (pv 2) pe_str (nomark _)) (pw_and1 (pt_cmpR op_gt (pe_callB lenS rfl B.len_ bt_len (pa_cons (pv 4) pa_nil)) pe_int (nomark _)))))
      (pss_one (ps_for PassesOwn.never rfl (pi_range1 rfl B.range_ (pa_cons (pe_c C_l_take hr (by decide) rfl (pa_cons (pv 0) (pa_cons pe_int pa_nil))) pa_nil)) (pg_name (i := 6) nd rfl (.inl rfl))
        (pss_cons (ps_set (i := 5) nd rfl (.inl rfl) (pe_c C_l_turned_join hr (by decide) rfl (pa_cons (pv 0) (pa_cons (pv 1) (pa_cons (pe_c C_l_weaker hr (by decide) rfl (pa_cons (pv 0) (pa_cons (pv 1) (pa_cons (pv 2) (pa_cons (pv 3) pa_nil))))) pa_nil)))))
          (pss_one (ps_expr (peLM PySem.F.slot_list_insert PySem.F.type_list_insert mt_insert (pv 4) (pa_cons (pe_c C_l_take hr (by decide) rfl (pa_cons (pv 0) (pa_cons (pe_op op_add (pe_callB lenS rfl B.len_ bt_len (pa_cons (pv 4) pa_nil)) pe_int) pa_nil))) (pa_cons (pv 5) pa_nil))))))))
      pss_nil)
      (pss_one (ps_ret (peT (pa_cons (pe_ix ixT (pv 3) pe_int (fun _ _ => rfl)) (pa_cons (pe_callTy tupOf rfl B.tuple_ bt_tuple (pa_cons (pv 4) pa_nil)) pa_nil)))))))), ?_⟩
    obtain ⟨p, pb, ys, rfl, hp, hpb, hys⟩ := qnE (id hy)
    have lys : ys.length = js.length := by rw [hys.length, List.length_map]
    have hna : kind ≠ "all" := by rcases hk3 with rfl | rfl | rfl <;> decide +kernel
    refine ⟨sz0, fun L H1 hL0 e1 hL => ?_⟩
    have k1 : Kd d H H1 := .same e1 hd
    have L_d := dr_ne hL0 hd
    refine ⟨_, rfl, p, _, 1, _, rfl, rfl, hp.same e1, rfl, pb, rfl, ⟨_, (hpb.same e1).seq⟩, ?_⟩
    refine for_tup (K := K) (xs := ys) (fun i σ H' => ∃ (lv : List V) (l : List Jn) (c5 c6 : Option V), σ = [some (.ref d), some x, some (.str kind), some (.ref p), some (.ref L), c5, c6] ∧ Kd d H H' ∧ H' L = some (.lst lv) ∧ Tps H' lv (l.map encJn) ∧ l.length = i ∧ ∀ j ∈ l, VJ n 4 3 j)
      ⟨[], [], _, _, rfl, k1, hL, .nil, rfl, fun j hj => by cases hj⟩ (fun i σ H' _ ⟨_, _, _, _, _, e, _⟩ => (e.tx hd _ _ hpb).seq) (fun i v σ H' hi hP => ?_) (fun σ H' hP => ?_)
    · obtain ⟨lv, l, c5, c6, rfl, e, hL, tL, ll, vl⟩ := hP
      obtain ⟨z, hz, hv⟩ := hys.getM hi
      have vz := hj z (List.mem_of_getElem? hz)
      have llv : lv.length = l.length := by rw [tL.length, List.length_map]
      have hi3 : i < 3 := by
        have := (List.getElem?_eq_some_iff.mp hi).1
        omega
      refine ⟨_, rfl, ⟨L, _, rfl, hL⟩, _, rfl, _, rfl, L, lv, rfl, .inl hL, _, _, rfl, rfl, d, _, rfl, e.dr, by omega, fun q H2 q0 q1 e2 => ?_⟩
      obtain ⟨q, rfl⟩ := Int.eq_ofNat_of_zero_le q0
      have e02 := e.trans e2
      refine ⟨_, rfl, _, rfl, _, rfl, d, x, v, n, 4, z, rfl, e02.dr, hx.kd e02, hv.mono (e02.tx hd), hn, by decide, vz, fun j' v' H3 hj' e3 hv' => ?_⟩
      have hL3 := (e2.trans e3).ob _ _ L_d hL
      have tL3 := tL.mono ((e2.trans e3).tx e.dr)
      refine ⟨L, lv, (q : Int), _, rfl, rfl, hL3, szt (by omega), by omega, by omega, ?_⟩
      rw [ins_nat]
      exact ⟨_, l.take q ++ j' :: l.drop q, _, _, rfl, kd_mut (e02.trans e3) hL0 hd, upd_same, (tps_ins q tL3 hv').mono (tx_lst hL3), by rw [len_ins, ll], fun j hj => (mem_ins hj).elim (fun h => h ▸ hj') (vl j)⟩
    · obtain ⟨lv, l, c5, c6, rfl, e, hL, tL, ll, vl⟩ := hP
      have llv : lv.length = l.length := by rw [tL.length, List.length_map]
      refine ⟨fun σ H' => ∃ (lv : List V) (l : List Jn) (c5 c6 : Option V), σ = [some (.ref d), some x, some (.str kind), some (.ref p), some (.ref L), c5, c6] ∧ Kd d H H' ∧ H' L = some (.lst lv) ∧ Tps H' lv (l.map encJn) ∧ l.length ≤ 5 ∧ ∀ j ∈ l, VJ n 4 3 j, ?_, ?_⟩
      · refine ⟨_, rfl, rfl, _, rfl, iteN (fun _ => ?_) (fun zz => absurd (V.str.inj zz) hna)⟩
        refine ⟨_, rfl, L, lv, rfl, .inl hL, _, _, rfl, rfl, _, rfl, iteD (fun pos => ?_) (fun _ => ⟨lv, l, _, _, rfl, e, hL, tL, by omega, vl⟩)⟩
        refine ⟨_, rfl, d, 3, rfl, e.dr, by decide, fun m H2 m0 m3 e2 => ⟨m, rfl, by omega, by omega, ?_⟩⟩
        have e02 := e.trans e2
        refine for_range (fun i σ H' => ∃ (lv : List V) (l : List Jn) (c5 c6 : Option V), σ = [some (.ref d), some x, some (.str kind), some (.ref p), some (.ref L), c5, c6] ∧ Kd d H H' ∧ H' L = some (.lst lv) ∧ Tps H' lv (l.map encJn) ∧ l.length ≤ 3 + i ∧ ∀ j ∈ l, VJ n 4 3 j)
          ⟨lv, l, _, _, rfl, e02, e2.ob _ _ L_d hL, tL.mono (e2.tx e.dr), by omega, vl⟩ (fun i σ H' hi hP => ?_) (fun σ H' hP => ?_)
        · obtain ⟨lv, l, c5, c6, rfl, e, hL, tL, ll, vl⟩ := hP
          have llv : lv.length = l.length := by rw [tL.length, List.length_map]
          rw [Int.zero_add]
          refine ⟨_, rfl, _, rfl, _, rfl, _, rfl, _, rfl, _, rfl, d, x, _, kind, n, js, rfl, hk3, e.dr, hx.kd e, hy.mono (e.tx hd), hn, by omega, hj, fun j' v' H3 hj' e3 hv' => ?_⟩
          have e03 := e.trans e3
          refine ⟨d, x, v', n, 4, j', rfl, e03.dr, hx.kd e03, hv', hn, by decide, hj', fun j2 v2 H4 hj2 e4 hv2 => ?_⟩
          have e34 := e3.trans e4
          have hL4 := e34.ob _ _ L_d hL
          have tL4 := tL.mono (e34.tx e.dr)
          refine ⟨_, rfl, ⟨L, _, rfl, hL4⟩, _, rfl, _, rfl, L, lv, rfl, .inl hL4, _, _, rfl, rfl, d, _, rfl, e34.dr, by omega, fun q H5 q0 q1 e5 => ?_⟩
          obtain ⟨q, rfl⟩ := Int.eq_ofNat_of_zero_le q0
          have hL5 := e5.ob _ _ L_d hL4
          have tx5 := e5.tx e34.dr
          refine ⟨_, rfl, L, lv, (q : Int), _, rfl, rfl, hL5, szt (by omega), by omega, by omega, ?_⟩
          rw [ins_nat]
          exact ⟨_, l.take q ++ j2 :: l.drop q, _, _, rfl, kd_mut (e.trans (e34.trans e5)) hL0 hd, upd_same, (tps_ins q (tL4.mono tx5) (hv2.mono tx5)).mono (tx_lst hL5), by rw [len_ins]; omega, fun j hj => (mem_ins hj).elim (fun h => h ▸ hj2) (vl j)⟩
        · obtain ⟨lv, l, c5, c6, rfl, e, hL, tL, ll, vl⟩ := hP
          exact ⟨lv, l, _, _, rfl, e, hL, tL, by omega, vl⟩
      rintro σ H2 ⟨lv, l, c5, c6, rfl, e, hL, tL, ll, vl⟩
      refine ⟨_, rfl, p, _, 0, _, rfl, rfl, e.tx hd _ _ hp, rfl, _, rfl, L, lv, rfl, hL, fun T H4 _ e4 hT => ⟨sz2, fun U H5 _ e5 hU => ?_⟩⟩
      have e45 := e4.trans e5
      exact k l _ H5 ll vl (e.then_ e45) (qnI (q := ((n : Int), l)) hU (hT.same e5) (tL.mono (Same.tx e45)))
theorem sc_l_two : FnScope ["_law_draws_here", "_law_world_here", "_law_kind", "_law_most", "_law_one", "_law_other", "_law_form"] ["_law_draws_here", "_law_world_here", "_law_kind", "_law_most"] (defScope st_l_two) := ⟨rfl, rfl, rfl, by decide +kernel, rfl, by decide +kernel, by decide +kernel⟩
-- slots: 0 _law_draws_here, 1 _law_world_here, 2 _law_kind, 3 _law_most, 4 _law_one, 5 _law_other, 6 _law_form
theorem ok_l_two (F : Def' K mg "_law_two" st_l_two) (B : Bt mg) (C_l_take : Cal P w K mg base 1 "_law_take" spTak []) (C_l_width : Cal P w K mg base 2 "_law_width" spWi []) (C_l_question : Cal P w K mg base 6 "_law_question" spQu []) (C_l_join : Cal P w K mg base 5 "_law_join" spJo []) (C_l_equal : Cal P w K mg base 6 "_law_equal" spEl []) (C_l_near : Cal P w K mg base 7 "_law_near" spNr []) : Cal P w K mg base 8 "_law_two" (spTw 3) [] := by
  refine cal_mk F sc_l_two (fun _ _ _ _ _ _ us hl => match us, hl with | [_, _, _, _], _ => rfl) (fun vs H Q E h => ?_) (fun f cdv A outer s H vs Q E hr h => ?_)
  · obtain ⟨d, x, kind, rfl, _⟩ := h
    rfl
  · obtain ⟨d, x, kind, rfl, hk3, hd, hx, k⟩ := h
    have nd := sc_l_two.nd
    refine ⟨_, (pss_cons (ps_set (i := 4) nd rfl (.inl rfl) (pe_c C_l_question hr (by decide) rfl (pa_cons (pv 0) (pa_cons (pv 1) (pa_cons (pe_c C_l_width hr (by decide) rfl (pa_cons (pv 0) pa_nil)) (pa_cons pe_int (pa_cons (pv 3) pa_nil)))))))
      (pss_cons (ps_ifM (PW.pt (pw_and (pt_cmpR op_eq (pe_callB lenS rfl B.len_ bt_len (pa_cons (pe_ix ixT (pv 4) pe_int (fun _ _ => rfl)) pa_nil)) pe_int (nomark _)) (pw_and1 (pt_cmpR op_gt (pe_c C_l_take hr (by decide) rfl (pa_cons (pv 0) (pa_cons pe_int pa_nil))) pe_int (nomark _)))))
      (pss_one (ps_set (i := 4) nd rfl (.inl rfl) (peT (pa_cons (pe_ix ixT (pv 4) pe_int (fun _ _ => rfl)) (pa_cons (peT (pa_cons (pe_c C_l_join hr (by decide) rfl (pa_cons (pv 0) (pa_cons (pv 1) (pa_cons (pe_ix ixT (pv 4) pe_int (fun _ _ => rfl)) (pa_cons (pv 3) pa_nil))))) pa_nil)) pa_nil)))))
      pss_nil)
      (pss_cons (ps_set (i := 5) nd rfl (.inl rfl) (pe_c C_l_equal hr (by decide) rfl (pa_cons (pv 0) (pa_cons (pv 1) (pa_cons (pv 2) (pa_cons (pv 4) pa_nil))))))
      (pss_cons (ps_set (i := 6) nd rfl (.inl rfl) (pe_c C_l_take hr (by decide) rfl (pa_cons (pv 0) (pa_cons pe_int pa_nil))))
      (pss_cons (ps_ifM (PW.pt (pw_or (pt_cmpR op_eq (pv 6) pe_int (nomark _)) (pw_or1 (pt_cmpR op_eq (pv 6) pe_int (nomark _)))))
      (pss_one (ps_set (i := 5) nd rfl (.inl rfl) (pe_c C_l_near hr (by decide) rfl (pa_cons (pv 0) (pa_cons (pv 1) (pa_cons (pv 4) pa_nil))))))
      pss_nil)
      (pss_cons (ps_ifM (pt_cmpR op_eq (pv 6) pe_int (nomark _))
      (pss_one (ps_set (i := 5) nd rfl (.inl rfl) (pe_c C_l_near hr (by decide) rfl (pa_cons (pv 0) (pa_cons (pv 1) (pa_cons (pv 5) pa_nil))))))
      pss_nil)
      (pss_one (ps_ret (pe_ix ixL (peL (pa_cons (peL (pa_cons (pv 4) (pa_cons (pv 5) pa_nil))) (pa_cons (peL (pa_cons (pv 5) (pa_cons (pv 4) pa_nil))) pa_nil))) (pe_c C_l_take hr (by decide) rfl (pa_cons (pv 0) (pa_cons pe_int pa_nil))) (fun _ _ => rfl)))))))))), ?_⟩
    refine ⟨_, rfl, _, rfl, _, rfl, d, rfl, hd, fun n H1 hn e1 => ⟨_, rfl, d, x, n, rfl, e1.dr, hx.kd e1, hn, fun js v H2 hl hj e2 hv => ?_⟩⟩
    have k2 := e1.trans e2
    refine ⟨fun σ H' => ∃ (v : V) (js : List Jn) (c5 c6 : Option V), σ = [some (.ref d), some x, some (.str kind), some (.int 3), some v, c5, c6] ∧ Kd d H H' ∧ Tp H' v (encQn ((n : Int), js)) ∧ js.length ≤ 3 ∧ ∀ j ∈ js, VJ n 4 3 j, ?_, ?_⟩
    · obtain ⟨p, pb, ys, rfl, hp, hpb, hys⟩ := qnE (id hv)
      have lys : ys.length = js.length := by rw [hys.length, List.length_map]
      refine ⟨_, rfl, p, _, 1, _, rfl, rfl, hp, rfl, pb, ys, rfl, .inr hpb, rfl, _, rfl, iteD (fun _ => ?_) (fun _ => iteF ⟨_, js, _, _, rfl, k2, hv, hl, hj⟩)⟩
      refine ⟨_, rfl, d, 5, rfl, e2.dr, by decide, fun z H3 _ _ e3 => ⟨_, _, rfl, rfl, _, rfl, iteD (fun _ => ?_) (fun _ => ?_)⟩⟩
      · have tx3 := e3.tx e2.dr
        have k3 := k2.trans e3
        refine ⟨_, rfl, p, _, 0, _, rfl, rfl, tx3 _ _ hp, rfl, _, rfl, _, rfl, _, rfl, p, _, 0, _, rfl, rfl, tx3 _ _ hp, rfl, _, rfl, d, x, n, rfl, k3.dr, hx.kd k3, hn, fun j jv H4 hj4 e4 hjv => ⟨sz1, fun T H5 _ e5 hT => ⟨sz2, fun U H6 _ e6 hU => ?_⟩⟩⟩
        refine ⟨_, [j], _, _, rfl, k3.trans (e4.then_ (e5.trans e6)), qnI (q := ((n : Int), [j])) hU (hT.same e6) (.one (hjv.mono (Same.tx (e5.trans e6)))), (by show 1 ≤ 3; decide), fun j' hj' => ?_⟩
        rw [List.mem_singleton] at hj'
        rw [hj']
        exact hj4
      · exact ⟨_, js, _, _, rfl, k2.trans e3, hv.mono (e3.tx e2.dr), hl, hj⟩
    clear hv hl hj k2 e2 js v
    rintro σ H2 ⟨v, js, c5, c6, rfl, k2, hv, hl, hj⟩
    refine ⟨_, rfl, _, rfl, _, rfl, _, rfl, d, x, v, kind, n, js, rfl, hk3, k2.dr, hx.kd k2, hv, hn, hl, hj, fun js2 v2 H3 hl2 hj2 e3 hv2 => ?_⟩
    have k3 := k2.trans e3
    have hv := hv.mono (e3.tx k2.dr)
    refine ⟨_, rfl, d, 5, rfl, k3.dr, by decide, fun z H4 _ _ e4 => ?_⟩
    have k4 := k3.trans e4
    have hv := hv.mono (e4.tx k3.dr)
    have hv2 := hv2.mono (e4.tx k3.dr)
    refine ⟨fun σ H' => ∃ (v2 : V) (js2 : List Jn), σ = [some (.ref d), some x, some (.str kind), some (.int 3), some v, some v2, some (.int z)] ∧ Kd d H4 H' ∧ Tp H' v2 (encQn ((n : Int), js2)) ∧ js2.length ≤ 5 ∧ ∀ j ∈ js2, VJ n 4 3 j, ?_, ?_⟩
    · refine ⟨_, rfl, rfl, _, rfl, iteD (fun _ => iteT ?_) (fun _ => ⟨_, rfl, rfl, _, rfl, iteD (fun _ => ?_) (fun _ => ?_)⟩)⟩
      · exact ⟨_, rfl, _, rfl, _, rfl, d, x, v, n, js, rfl, k4.dr, hx.kd k4, hv, hn, by omega, hj, fun js' v' H5 hl' hj' e5 hv' => ⟨v', js', rfl, e5, hv', by omega, hj'⟩⟩
      · exact ⟨_, rfl, _, rfl, _, rfl, d, x, v, n, js, rfl, k4.dr, hx.kd k4, hv, hn, by omega, hj, fun js' v' H5 hl' hj' e5 hv' => ⟨v', js', rfl, e5, hv', by omega, hj'⟩⟩
      · exact ⟨v2, js2, rfl, .refl k4.dr, hv2, hl2, hj2⟩
    rintro σ H5 ⟨v2, js2, rfl, e5, hv2, hl2, hj2⟩
    have k5 := k4.trans e5
    have hv := hv.mono (e5.tx k4.dr)
    refine ⟨fun σ H' => ∃ (v2 : V) (js2 : List Jn), σ = [some (.ref d), some x, some (.str kind), some (.int 3), some v, some v2, some (.int z)] ∧ Kd d H5 H' ∧ Tp H' v2 (encQn ((n : Int), js2)) ∧ js2.length ≤ 5 ∧ ∀ j ∈ js2, VJ n 4 3 j, ?_, ?_⟩
    · refine ⟨_, rfl, rfl, _, rfl, iteD (fun _ => ?_) (fun _ => ?_)⟩
      · exact ⟨_, rfl, _, rfl, _, rfl, d, x, v2, n, js2, rfl, k5.dr, hx.kd k5, hv2, hn, hl2, hj2, fun js' v' H5 hl' hj' e5 hv' => ⟨v', js', rfl, e5, hv', by omega, hj'⟩⟩
      · exact ⟨v2, js2, rfl, .refl k5.dr, hv2, hl2, hj2⟩
    rintro σ H6 ⟨v2, js2, rfl, e6, hv2, hl2, hj2⟩
    have k6 := k5.trans e6
    have hv := hv.mono (e6.tx k5.dr)
    refine ⟨_, rfl, _, rfl, sz2, fun A1 H7 hA0 e7 hA1 => ⟨_, rfl, _, rfl, sz2, fun A2 H8 hB0 e8 hA2 => ⟨sz2, fun L H9 hL0 e9 hL => ?_⟩⟩⟩
    have k9 : Kd d H6 H9 := .same (e7.trans (e8.trans e9)) k6.dr
    have L_d := dr_ne hL0 (Kd.same (e7.trans e8) k6.dr).dr
    have A1_d := dr_ne hA0 k6.dr
    have A2_d := dr_ne hB0 (Kd.same e7 k6.dr).dr
    refine ⟨_, rfl, d, 2, rfl, k9.dr, by decide, fun i H10 i0 i2 e10 => ?_⟩
    obtain ⟨u, hu, hm⟩ := at_pick (xs := [V.ref A1, .ref A2]) i0 i2
    have k10 := k9.trans e10
    have hva := hv.mono (k10.tx k6.dr)
    have hvb := hv2.mono (k10.tx k6.dr)
    have hA1' := e10.ob _ _ A1_d ((e8.trans e9) _ _ hA1)
    have hA2' := e10.ob _ _ A2_d (e9 _ _ hA2)
    refine ⟨L, _, i, u, rfl, rfl, e10.ob _ _ L_d hL, hu, ?_⟩
    simp only [List.mem_cons, List.not_mem_nil, or_false] at hm
    rcases hm with rfl | rfl
    · exact k A1 v v2 n js js2 H10 A1_d ⟨hn, by omega, hl2, hj, hj2⟩ (k6.trans k10) hA1' hva hvb
    · exact k A2 v2 v n js2 js H10 A2_d ⟨hn, hl2, by omega, hj2, hj⟩ (k6.trans k10) hA2' hvb hva
end
end Aw

/-! C5: drawing: two_long. -/
namespace Aw
open PySem PySem.Spec PyProof.Rows L2
open C8 (Cal pe_c)
def preA (ts : List Tm) (a : Atm) : Atm := (a.1, ts ++ a.2)
def preJ (ts : List Tm) (j : Jn) : Jn := (j.1, j.2.map (preA ts))
def preQ (ts : List Tm) (q : Int × List Jn) : Int × List Jn := (q.1, q.2.map (preJ ts))
theorem VJ.pre {n : Nat} {j : Jn} {ts : List Tm} (h : VJ n 4 3 j) (l : ts.length = 3) (v : ∀ t ∈ ts, VT t) : VJ n 4 6 (preJ ts j) := by
  refine ⟨h.hl, h.ht, ?_, fun b hb => ?_, fun s hs => ?_⟩
  · show (j.2.map (preA ts)).length ≤ 4
    rw [List.length_map]
    exact h.bl
  · obtain ⟨a, ha, rfl⟩ := List.mem_map.mp (show b ∈ j.2.map (preA ts) from hb)
    obtain ⟨h1, h2, h3⟩ := h.at_ a ha
    refine ⟨h1, fun t ht => ?_, ?_⟩
    · rcases List.mem_append.mp (show t ∈ ts ++ a.2 from ht) with ht | ht
      · exact v t ht
      · exact h2 t ht
    · show (ts ++ a.2).length ≤ 6
      rw [List.length_append]
      omega
  · obtain ⟨a, ha, hr⟩ := h.hb s hs
    exact ⟨preA ts a, List.mem_map.mpr ⟨a, ha, rfl⟩, List.mem_append_right _ hr⟩
theorem take_map_snoc {α β : Type} {f : α → β} {l : List α} {i : Nat} {x : α} (h : l[i]? = some x) : (l.take (i + 1)).map f = (l.take i).map f ++ [f x] := by
  rw [List.take_add_one, h, List.map_append]
  rfl
section
variable {P : Program} {w : World} {K : PySem.W.Frag} {mg : Str → Option Value} {base : Heap}
theorem sc_l_two_long : FnScope ["_law_draws_here", "_law_world_here", "_law_kind", "_law_most", "_law_pair", "_law_front", "_law_found", "_law_question_here", "_law_joins", "_law_join_here", "_law_k", "_law_atom_here"] ["_law_draws_here", "_law_world_here", "_law_kind", "_law_most"] (defScope st_l_two_long) := ⟨rfl, rfl, rfl, by decide +kernel, rfl, by decide +kernel, by decide +kernel⟩
-- slots: 0 _law_draws_here, 1 _law_world_here, 2 _law_kind, 3 _law_most, 4 _law_pair, 5 _law_front, 6 _law_found, 7 _law_question_here, 8 _law_joins, 9 _law_join_here, 10 _law_k, 11 _law_atom_here
theorem ok_l_two_long (F : Def' K mg "_law_two_long" st_l_two_long) (B : Bt mg) (C_l_take : Cal P w K mg base 1 "_law_take" spTak []) (C_l_value : Cal P w K mg base 2 "_law_value" spVl []) (C_l_two : Cal P w K mg base 8 "_law_two" (spTw 3) []) : Cal P w K mg base 9 "_law_two_long" (spTw 6) [] := by
  refine cal_mk F sc_l_two_long (fun _ _ _ _ _ _ us hl => match us, hl with | [_, _, _, _], _ => rfl) (fun vs H Q E h => ?_) (fun f cdv A outer s H vs Q E hr h => ?_)
  · obtain ⟨d, x, kind, rfl, _⟩ := h
    rfl
  · obtain ⟨d, x, kind, rfl, hk3, hd, hx, k⟩ := h
    have nd := sc_l_two_long.nd
    refine ⟨_, (pss_cons (ps_set (i := 4) nd rfl (.inl rfl) (pe_c C_l_two hr (by decide) rfl (pa_cons (pv 0) (pa_cons (pv 1) (pa_cons (pv 2) (pa_cons (pv 3) pa_nil))))))
      (pss_cons (ps_if (pt_cmpR op_gt (pe_c C_l_take hr (by decide) rfl (pa_cons (pv 0) (pa_cons pe_int pa_nil))) pe_int (nomark _))
      (pss_one (ps_ret (pv 4)))
      pss_nil)
      (pss_cons (ps_set (i := 5) nd rfl (.inr rfl) (pe_callTy tupOf rfl B.tuple_ bt_tuple (pa_cons (pe_lc (own := [("_law_k", 10)]) (g := (gName 10)) (tt := tYes) rfl nd (pi_range1 rfl B.range_ (pa_cons pe_int pa_nil)) (blkOk_by (by kernel_rfl)) (fun _ _ _ _ _ => (pg_name (i := 10) nd rfl (.inl rfl))) (fun _ _ _ _ _ => pts_nil) (fun _ _ _ _ _ => (peT (pa_cons pe_str (pa_cons (pe_c C_l_value hr (by decide) rfl (pa_cons (pv 0) (pa_cons (pe_ix ixL (pv 1) pe_int (fun _ _ => rfl)) pa_nil))) pa_nil))))) pa_nil)))
      (pss_cons (ps_set (i := 6) nd rfl (.inl rfl) (peL pa_nil))
      (pss_cons (ps_for PassesOwn.never rfl (piL (K := K) rfl (pv 4)) (pg_name (i := 7) nd rfl (.inl rfl))
      (pss_cons (ps_set (i := 8) nd rfl (.inl rfl) (peL pa_nil))
        (pss_cons (ps_for PassesOwn.never rfl (piT (K := K) rfl (pe_ix ixT (pv 7) pe_int (fun _ _ => rfl))) (pg_name (i := 9) nd rfl (.inl rfl))
        (pss_one (ps_expr (peLM PySem.F.slot_list_append PySem.F.type_list_append mt_append (pv 8) (pa_cons (peT (pa_cons (pe_ix ixT (pv 9) pe_int (fun _ _ => rfl)) (pa_cons (pe_callTy tupOf rfl B.tuple_ bt_tuple (pa_cons (pe_lc (own := [("_law_atom_here", 11)]) (g := (gName 11)) (tt := tYes) rfl nd (piT (K := K) rfl (pe_ix ixT (pv 9) pe_int (fun _ _ => rfl))) (blkOk_by (by kernel_rfl)) (fun _ _ _ _ _ => (pg_name (i := 11) nd rfl (.inl rfl))) (fun _ _ _ _ _ => pts_nil) (fun _ _ _ _ _ => (peT (pa_cons (pe_ix ixT (pv 11) pe_int (fun _ _ => rfl)) (pa_cons (pe_op catT (pv 5) (pe_ix ixT (pv 11) pe_int (fun _ _ => rfl))) pa_nil))))) pa_nil)) pa_nil))) pa_nil)))))
        (pss_one (ps_expr (peLM PySem.F.slot_list_append PySem.F.type_list_append mt_append (pv 6) (pa_cons (peT (pa_cons (pe_ix ixT (pv 7) pe_int (fun _ _ => rfl)) (pa_cons (pe_callTy tupOf rfl B.tuple_ bt_tuple (pa_cons (pv 8) pa_nil)) pa_nil))) pa_nil)))))))
      (pss_one (ps_ret (pv 6)))))))), ?_⟩
    refine ⟨_, rfl, _, rfl, _, rfl, _, rfl, d, x, kind, rfl, hk3, hd, hx, fun p v1 v2 n js1 js2 H1 p_d pr k1 hp h1 h2 => ?_⟩
    have prle : Pr2 n 4 6 js1 js2 := ⟨pr.hn, pr.l1, pr.l2, fun j hj => (pr.v1 j hj).le (by decide) (by decide), fun j hj => (pr.v2 j hj).le (by decide) (by decide)⟩
    refine ⟨_, rfl, d, 8, rfl, k1.dr, by decide, fun z H2 _ _ e2 => ⟨_, _, rfl, rfl, _, rfl, iteD (fun _ => ?_) (fun _ => ?_)⟩⟩
    · exact ⟨_, rfl, k p v1 v2 n js1 js2 H2 p_d prle (k1.trans e2) (e2.ob _ _ p_d hp) (h1.mono (e2.tx k1.dr)) (h2.mono (e2.tx k1.dr))⟩
    have k2 := k1.trans e2
    have hp := e2.ob _ _ p_d hp
    have h1 := h1.mono (e2.tx k1.dr)
    have h2 := h2.mono (e2.tx k1.dr)
    have hx2 := hx.kd k2
    refine ⟨3, rfl, by decide, by decide, lc_dr (enc := encTm) (Pr := VT) k2.dr (by decide) (fun i' H3 hi e3 R Qy kY => ⟨rfl, yesI ?_⟩) (fun L lv H3 ts hL0 e3 hL hlen hts tL => ?_)⟩
    · obtain ⟨a, p0, p1, p2, w0, w1, ks, rfl, W⟩ := hx2.kd e3
      refine ⟨_, rfl, _, rfl, a, _, 2, _, rfl, rfl, W.ha, rfl, d, p2, ks, rfl, e3.dr, W.h2, W.n2, W.l2, W.g2, fun q H4 hq e4 => ⟨sz2, fun T H5 _ e5 hT => ?_⟩⟩
      exact kY (.ref T) H5 (.val q) (e4.then_ e5) hq (tmI (t := .val q) hT (VT.ok hq))
    have hlen : ts.length = 3 := hlen
    refine ⟨L, lv, rfl, hL, fun T H4 _ e4 hT => ?_⟩
    refine ⟨sz0, fun F H5 hF0 e5 hF => ?_⟩
    have p_F := ne_of_none (e4 _ _ (e3.ob _ _ p_d hp)) hF0
    have e45 := e4.trans e5
    have k25 := e3.then_ e45
    have k5 := k2.trans k25
    have tx5 := k25.tx k2.dr
    have hp := k25.ob _ _ p_d hp
    have hT := hT.same e5
    have tT : Tps H5 lv (ts.map encTm) := tL.mono (Same.tx e45)
    have hF0 := none_kd (k2.trans (e3.then_ e4)) hF0 hd
    have F_d := dr_ne hF0 hd
    have hqs : Tps H5 [v1, v2] (([((n : Int), js1), ((n : Int), js2)] : List (Int × List Jn)).map encQn) := .cons (h1.mono tx5) (.cons (h2.mono tx5) .nil)
    have hsm : ∀ q ∈ ([((n : Int), js1), ((n : Int), js2)] : List (Int × List Jn)), q.2.length ≤ 5 ∧ ∀ j ∈ q.2, VJ n 4 3 j := by
      intro q hq
      rcases List.mem_cons.mp hq with rfl | hq
      · exact ⟨pr.l1, pr.v1⟩
      · rw [List.mem_singleton] at hq
        rw [hq]
        exact ⟨pr.l2, pr.v2⟩
    have lqs : ([((n : Int), js1), ((n : Int), js2)] : List (Int × List Jn)).length = 2 := rfl
    generalize hqq : ([((n : Int), js1), ((n : Int), js2)] : List (Int × List Jn)) = qs at hqs hsm lqs
    clear tL hL e3 e4 e5 e45 k25 tx5 h1 h2 hx2
    refine ⟨_, rfl, p, rfl, ⟨_, SqL.of hp⟩, ?_⟩
    refine for_list (K := K) (xs := [v1, v2]) (fun i σ H' => ∃ (fv : List V) (c7 c8 c9 c10 c11 : Option V), σ = [some (.ref d), some x, some (.str kind), some (.int 3), some (.ref p), some (.ref T), some (.ref F), c7, c8, c9, c10, c11] ∧ Kd d H H' ∧ H' p = some (.lst [v1, v2]) ∧ Tq H' T lv ∧ Tps H' lv (ts.map encTm) ∧ Tps H' [v1, v2] (qs.map encQn) ∧ H' F = some (.lst fv) ∧ Tps H' fv ((qs.take i).map fun q => encQn (preQ ts q)))
      ⟨[], _, _, _, _, _, rfl, k5, hp, hT, tT, hqs, hF, .nil⟩ (fun i σ H' _ ⟨_, _, _, _, _, _, _, _, h, _⟩ => SqL.of h) (fun i v σ H' hi hP => ?_) (fun σ H' hP => ?_)
    · obtain ⟨fv, c7, c8, c9, c10, c11, rfl, e, hp, hT, tT, hqs, hF, tF⟩ := hP
      obtain ⟨q, hq, hv⟩ := hqs.getM hi
      obtain ⟨lq, vq⟩ := hsm q (List.mem_of_getElem? hq)
      obtain ⟨r, rb, ys, rfl, hr', hrb, hys⟩ := qnE (id hv)
      have lys : ys.length = q.2.length := by rw [hys.length, List.length_map]
      have lfv : fv.length ≤ 2 := by
        rw [tF.length, List.length_map, List.length_take, lqs]
        exact Nat.min_le_right _ _
      refine ⟨sz0, fun J H6 hJ0 e6 hJ => ?_⟩
      have F_J := ne_of_none hF hJ0
      have hJ0' := none_kd e hJ0 hd
      refine ⟨_, rfl, r, _, 1, _, rfl, rfl, hr'.same e6, rfl, rb, rfl, ⟨_, (hrb.same e6).seq⟩, ?_⟩
      refine for_tup (K := K) (xs := ys) (fun i' σ H'' => ∃ (jv : List V) (c9 c10 c11 : Option V), σ = [some (.ref d), some x, some (.str kind), some (.int 3), some (.ref p), some (.ref T), some (.ref F), some (.ref r), some (.ref J), c9, c10, c11] ∧ Same H' H'' ∧ H'' J = some (.lst jv) ∧ Tps H'' jv ((q.2.take i').map fun j => encJn (preJ ts j)))
        ⟨[], _, _, _, rfl, e6, hJ, .nil⟩ (fun i' σ H'' _ ⟨_, _, _, _, _, e, _⟩ => (hrb.same e).seq) (fun i' v σ H'' hi' hP => ?_) (fun σ H'' hP => ?_)
      · obtain ⟨jv, c9, c10, c11, rfl, e7, hJ, tJ⟩ := hP
        obtain ⟨z, hz, hv⟩ := hys.getM hi'
        have vz := vq z (List.mem_of_getElem? hz)
        have lz := vz.bl
        obtain ⟨s, sa, sb, us, zs, rfl, hs, hsa, hus, hsb, hzs⟩ := jnE (hv.mono (Same.tx e7))
        have ljv : jv.length ≤ 5 := by
          rw [tJ.length, List.length_map, List.length_take]
          omega
        refine ⟨_, rfl, ⟨J, _, rfl, hJ⟩, _, rfl, s, _, 0, _, rfl, rfl, hs, rfl, _, rfl, s, _, 1, _, rfl, rfl, hs, rfl, sb, rfl, ⟨_, hsb.seq⟩, lc_t (l := z.2) (ea := encAt) (f := fun a => encAt (preA ts a)) (c := fun _ => true) hsb hzs (by omega) (fun a ha v H8 e8 hv R Qy _ kY => ⟨rfl, yesI ?_⟩) (fun D dv H8 hD0 e8 hD tD => ?_)⟩
        · obtain ⟨u, u2, av, rfl, hu, hu2, hav, hok⟩ := atE hv
          have lav : av.length = a.2.length := by rw [hav.length, List.length_map]
          have la := (vz.at_ a ha).2.2
          have llv : lv.length = 3 := by rw [tT.length, List.length_map, hlen]
          refine ⟨_, rfl, u, _, 0, _, rfl, rfl, hu, rfl, _, rfl, _, rfl, u, _, 1, _, rfl, rfl, hu, rfl, T, u2, lv, av, rfl, rfl, (hT.same e7).same e8, hu2, szl (by omega), fun C H9 e9 hC => ⟨sz2, fun U H10 _ e10 hU => ?_⟩⟩
          refine kY rfl _ H10 (e9.trans e10) (atI' (a := preA ts a) hU (hC.same e10) ?_ hok)
          show Tps H10 (lv ++ av) ((ts ++ a.2).map encTm)
          rw [List.map_append]
          exact (tT.mono (Same.tx (e7.trans (e8.trans (e9.trans e10))))).append (hav.mono (Same.tx (e9.trans e10)))
        · rw [filter_yes] at tD
          refine ⟨D, dv, rfl, hD, fun T2 H9 _ e9 hT2 => ⟨sz2, fun U H10 _ e10 hU => ?_⟩⟩
          have e810 := e8.trans (e9.trans e10)
          have hJ10 := e810 _ _ hJ
          have tz : Tp H10 (.ref U) (encJn (preJ ts z)) := jnI (j := preJ ts z) hU (hsa.same e810) (hus.mono (Same.tx e810)) (hT2.same e10) (by
            show Tps H10 dv ((z.2.map (preA ts)).map encAt)
            rw [List.map_map]
            exact tD.mono (Same.tx (e9.trans e10)))
          refine ⟨J, jv, _, rfl, rfl, hJ10, szt (by omega), ?_⟩
          refine ⟨_, _, _, _, rfl, same_mut (e7.trans e810) hJ0, upd_same, ?_⟩
          rw [take_map_snoc hz]
          exact ((tJ.mono (Same.tx e810)).snoc tz).mono (tx_lst hJ10)
      · obtain ⟨jv, c9, c10, c11, rfl, e7, hJ, tJ⟩ := hP
        rw [lys, List.take_length] at tJ
        have hr7 := hr'.same e7
        refine ⟨_, rfl, ⟨F, _, rfl, e7 _ _ hF⟩, _, rfl, r, _, 0, _, rfl, rfl, hr7, rfl, _, rfl, J, jv, rfl, hJ, fun T2 H9 _ e9 hT2 => ⟨sz2, fun U H10 _ e10 hU => ?_⟩⟩
        have e910 := e9.trans e10
        have e010 := e7.trans e910
        have hF10 := e010 _ _ hF
        refine ⟨F, fv, _, rfl, rfl, hF10, szt (by omega), ?_⟩
        have txF := tx_lst (o := .lst (fv ++ [V.ref U])) hF10
        have tz : Tp H10 (.ref U) (encQn (preQ ts q)) := qnI (q := preQ ts q) hU (hT2.same e10) (by
          show Tps H10 jv ((q.2.map (preJ ts)).map encJn)
          rw [List.map_map]
          exact tJ.mono (Same.tx e910))
        refine ⟨_, _, _, _, _, _, rfl, kd_mut (e.then_ e010) hF0 hd, ?_, txF _ _ (hT.same e010), (tT.mono (Same.tx e010)).mono txF, (hqs.mono (Same.tx e010)).mono txF, upd_same, ?_⟩
        · rw [upd_ne p_F]
          exact e010 _ _ hp
        · rw [take_map_snoc hq]
          exact ((tF.mono (Same.tx e010)).snoc tz).mono txF
    · obtain ⟨fv, c7, c8, c9, c10, c11, rfl, e, hp, hT, tT, hqs, hF, tF⟩ := hP
      rw [show ([v1, v2] : List V).length = 2 from rfl, ← hqq] at tF
      obtain ⟨u1, u2, rfl, t1, t2⟩ := Tps.two tF
      refine ⟨_, rfl, k F u1 u2 n (js1.map (preJ ts)) (js2.map (preJ ts)) H' F_d ⟨pr.hn, by rw [List.length_map]; exact pr.l1, by rw [List.length_map]; exact pr.l2, fun j hj => ?_, fun j hj => ?_⟩ e hF t1 t2⟩
      · obtain ⟨j', hj', rfl⟩ := List.mem_map.mp hj
        exact (pr.v1 j' hj').pre hlen hts
      · obtain ⟨j', hj', rfl⟩ := List.mem_map.mp hj
        exact (pr.v2 j' hj').pre hlen hts
end
end Aw

/-! M4: the plain law. -/
namespace Aw
open PySem
/-! ### lists -/
theorem dedup_len {α : Type} [DecidableEq α] : ∀ l : List α, (dedup l).length ≤ l.length
  | [] => Nat.le_refl _
  | x :: l => by
    have ih := dedup_len l
    unfold dedup
    split
    · exact Nat.le_succ_of_le ih
    · exact Nat.succ_le_succ ih
theorem nodup_dedup_len {α : Type} [DecidableEq α] : ∀ {l : List α}, l.length ≤ (dedup l).length → l.Nodup
  | [], _ => .nil
  | x :: l, h => by
    unfold dedup at h
    by_cases hx : x ∈ l
    · rw [if_pos hx] at h
      have := dedup_len l
      rw [List.length_cons] at h
      omega
    · rw [if_neg hx] at h
      rw [List.length_cons, List.length_cons] at h
      exact List.nodup_cons.mpr ⟨hx, nodup_dedup_len (by omega)⟩
/-- a nodup list in a list no longer is all of it -/
theorem sub_full {α : Type} [DecidableEq α] {a b : List α} (na : a.Nodup) (s : ∀ x ∈ a, x ∈ b) (l : b.length ≤ a.length) : ∀ x ∈ b, x ∈ a := by
  intro x hx
  by_cases h : x ∈ a
  · exact h
  · exfalso
    have h1 := nodup_sub_len na (D := b.erase x) fun y hy => by
      have : y ≠ x := fun e => h (e ▸ hy)
      exact (List.mem_erase_of_ne this).mpr (s y hy)
    rw [List.length_erase_of_mem hx] at h1
    have : 0 < b.length := List.length_pos_iff.mpr (List.ne_nil_of_mem hx)
    omega
theorem nodup_perm {α : Type} [DecidableEq α] {a b : List α} (na : a.Nodup) (s : ∀ x ∈ a, x ∈ b) (l : b.length = a.length) : b.Perm a := by
  have nb : b.Nodup := nodup_dedup_len (by
    have := nodup_sub_len na (D := dedup b) fun x hx => mem_dedup.mpr (s x hx)
    omega)
  exact (List.perm_ext_iff_of_nodup nb na).mpr fun x => ⟨sub_full na s (by omega) x, s x⟩
/-! ### kinds -/
theorem kma_km {kind : Str} (hk : kind3d kind) {s t : Jn} : KMA kind s t ↔ KM kind s t := by
  constructor
  · rintro ⟨m, g, h⟩
    refine km_of g ?_
    rcases h with e | ⟨p, q⟩
    · exact .inl e
    · refine .inr ⟨p, ?_⟩
      rcases q with e | ⟨l, _⟩
      · exact .inl e
      · exact .inr l
  · rintro ⟨f, hf, h⟩
    obtain ⟨g, e⟩ := hf.good
    refine ⟨_, g, ?_⟩
    rw [e]
    rcases h with e | ⟨p, q⟩
    · exact .inl e
    · rcases hk with rfl | rfl | rfl
      · refine .inr ⟨p, .inr ⟨?_, .inl rfl⟩⟩
        rcases q with e | l
        · exact absurd e (by decide +kernel)
        · exact l
      · exact .inr ⟨p, .inl rfl⟩
      · exact .inl rfl
/-! ### exact maps -/
/-- bodies match one to one -/
structure Ex (s t : Jn) (f : Fn) : Prop where
  hom : Hom s t f
  perm : t.2.Perm (appB f s.2)
theorem Ex.occ {s t : Jn} {f : Fn} (e : Ex s t f) {r : Str} (o : occ r t) : ∃ q, occ q s ∧ f q = .var r := by
  have key : ∀ ts : List Tm, Tm.var r ∈ ts.map (app f) → ∃ q, Tm.var q ∈ ts ∧ f q = .var r := fun ts h => by
    obtain ⟨x, hx, hr⟩ := List.mem_map.mp h
    cases x with
    | var q => exact ⟨q, hx, hr⟩
    | val k => exact nomatch hr
  rcases o with h | ⟨a, ha, h⟩
  · rw [← e.hom.hd] at h
    obtain ⟨q, hq, hr⟩ := key _ h
    exact ⟨q, .inl hq, hr⟩
  · obtain ⟨b, hb, rfl⟩ := List.mem_map.mp (e.perm.mem_iff.mp ha)
    obtain ⟨q, hq, hr⟩ := key _ h
    exact ⟨q, .inr ⟨b, hb, hq⟩, hr⟩
theorem Ex.count {s t : Jn} {f : Fn} (e : Ex s t f) : (occL t).length ≤ (vnames ((occL s).map f)).length := by
  refine nodup_sub_len nodup_dedup fun r hr => ?_
  obtain ⟨q, hq, hf⟩ := e.occ (mem_occL.mp hr)
  exact mem_vnames.mpr (List.mem_map.mpr ⟨q, mem_occL.mpr hq, hf⟩)
theorem vnames_all : ∀ {ts : List Tm}, ts.length ≤ (vnames ts).length → ∀ t ∈ ts, ∃ r, t = .var r
  | [], _, t, h => by cases h
  | .var s :: ts, l, t, h => by
    rcases List.mem_cons.mp h with rfl | h
    · exact ⟨s, rfl⟩
    · exact vnames_all (by
        have : (vnames (.var s :: ts)).length = (vnames ts).length + 1 := rfl
        rw [this, List.length_cons] at l
        omega) t h
  | .val k :: ts, l, t, h => by
    exfalso
    have := vnames_len ts
    have e : (vnames (.val k :: ts)).length = (vnames ts).length := rfl
    rw [e, List.length_cons] at l
    omega
theorem vnames_vars {ts : List Tm} (h : ∀ t ∈ ts, ∃ r, t = .var r) : (vnames ts).map Tm.var = ts := by
  induction ts with
  | nil => rfl
  | cons t ts ih =>
    obtain ⟨r, rfl⟩ := h t List.mem_cons_self
    show Tm.var r :: (vnames ts).map Tm.var = _
    rw [ih fun t ht => h t (List.mem_cons_of_mem _ ht)]
theorem inj_of_nodup {α β : Type} {f : α → β} : ∀ {l : List α}, (l.map f).Nodup → ∀ a ∈ l, ∀ b ∈ l, f a = f b → a = b
  | [], _, a, h, _, _, _ => by cases h
  | x :: l, n, a, ha, b, hb, e => by
    rw [List.map_cons] at n
    obtain ⟨n1, n2⟩ := List.nodup_cons.mp n
    rcases List.mem_cons.mp ha with ea | ha'
    · rcases List.mem_cons.mp hb with eb | hb'
      · rw [ea, eb]
      · exact absurd (List.mem_map.mpr ⟨b, hb', by rw [← e, ea]⟩) n1
    · rcases List.mem_cons.mp hb with eb | hb'
      · exact absurd (List.mem_map.mpr ⟨a, ha', by rw [e, eb]⟩) n1
      · exact inj_of_nodup n2 a ha' b hb' e
/-- exact both ways: a renaming -/
theorem Ex.turn {s t : Jn} {f g : Fn} (e : Ex s t f) (k : Ex t s g) : KMA "all" s t := by
  have l1 := e.count
  have l2 := k.count
  have v1 := vnames_len ((occL s).map f)
  have v2 := vnames_len ((occL t).map g)
  rw [List.length_map] at v1 v2
  have hv := vnames_all (ts := (occL s).map f) (by rw [List.length_map]; omega)
  have hd : (vnames ((occL s).map f)).Nodup := by
    have ns : (occL t).Nodup := nodup_dedup
    have sub : ∀ r ∈ occL t, r ∈ vnames ((occL s).map f) := fun r hr => by
      obtain ⟨q, hq, hf⟩ := e.occ (mem_occL.mp hr)
      exact mem_vnames.mpr (List.mem_map.mpr ⟨q, mem_occL.mpr hq, hf⟩)
    exact nodup_dedup_len (by
      have := nodup_sub_len ns (D := dedup (vnames ((occL s).map f))) fun r hr => mem_dedup.mpr (sub r hr)
      omega)
  have hn : ((occL s).map f).Nodup := by
    rw [← vnames_vars hv]
    exact List.Pairwise.map _ (fun a b (h : a ≠ b) z => h (Tm.var.inj z)) hd
  obtain ⟨gd, hb⟩ := e.hom.good
  have nk : (keys (mapOf s f)).Nodup := by
    rw [keys_mapOf]
    exact nodup_dedup
  refine ⟨_, gd, .inr ⟨?_, .inr ⟨?_, .inr ?_⟩⟩⟩
  · rw [hb]
    exact prt_of (r := []) (by rw [List.append_nil]; exact e.perm)
  · rw [hb]
    exact e.perm.length_eq.symm
  · refine ⟨fun q u h => ?_, fun q q' u h h' => ?_⟩
    · have := lk_mem h
      obtain ⟨q2, hq2, e2⟩ := List.mem_map.mp this
      cases e2
      exact hv _ (List.mem_map.mpr ⟨_, hq2, rfl⟩)
    · obtain ⟨q2, hq2, e2⟩ := List.mem_map.mp (lk_mem h)
      obtain ⟨q3, hq3, e3⟩ := List.mem_map.mp (lk_mem h')
      have a1 : q2 = q := (Prod.mk.inj e2).1
      have a2 : f q2 = u := (Prod.mk.inj e2).2
      have b1 : q3 = q' := (Prod.mk.inj e3).1
      have b2 : f q3 = u := (Prod.mk.inj e3).2
      rw [← a1, ← b1]
      exact inj_of_nodup hn _ hq2 _ hq3 (a2.trans b2.symm)
/-- a renaming: both ways of any kind -/
theorem kma_both {kind : Str} {s t : Jn} (h : KMA "all" s t) : KM kind s t ∧ KM kind t s := by
  obtain ⟨m, g, h⟩ := h
  have hp : Prt (subB m s.2) t.2 ∧ (subB m s.2).length = t.2.length ∧ Turn m := by
    rcases h with e | ⟨p, e | ⟨l, e | tn⟩⟩
    · exact absurd e (by decide +kernel)
    · exact absurd e (by decide +kernel)
    · exact absurd e (by decide +kernel)
    · exact ⟨p, l, tn⟩
  obtain ⟨p, l, t1, t2⟩ := hp
  refine ⟨km_of g (.inr ⟨p, .inr l⟩), ?_⟩
  have hm := p.perm l
  -- the way back
  classical
  let k : Fn := fun r => if h : ∃ q, lk m q = some (.var r) then .var (Classical.choose h) else .var r
  have kk : ∀ q, occ q s → app k (subT m (.var q)) = .var q := fun q ho => by
    obtain ⟨u, hu⟩ := lk_some.mpr ((g.dom q).mpr ho)
    obtain ⟨r, rfl⟩ := t1 q u hu
    rw [subT_var hu]
    show k r = _
    have hex : ∃ q, lk m q = some (.var r) := ⟨q, hu⟩
    show (if h : ∃ q, lk m q = some (.var r) then Tm.var (Classical.choose h) else .var r) = _
    rw [dif_pos hex, t2 _ _ _ (Classical.choose_spec hex) hu]
  have kt : ∀ ts : List Tm, (∀ q, Tm.var q ∈ ts → occ q s) → (ts.map (subT m)).map (app k) = ts := fun ts ho => by
    rw [List.map_map]
    conv => rhs; rw [← List.map_id ts]
    refine List.map_congr_left fun t ht => ?_
    cases t with
    | var q => exact kk q (ho q ht)
    | val c => rfl
  have ka : ∀ a ∈ s.2, appA k (subA m a) = a := fun a ha => by
    show (a.1, (a.2.map (subT m)).map (app k)) = a
    rw [kt a.2 fun q hq => .inr ⟨a, ha, hq⟩]
  have kb : appB k (subB m s.2) = s.2 := by
    unfold appB subB
    rw [List.map_map]
    conv => rhs; rw [← List.map_id s.2]
    exact List.map_congr_left ka
  have hpk : (appB k t.2).Perm s.2 := by
    have := hm.map (appA k)
    rw [show (subB m s.2).map (appA k) = s.2 from kb] at this
    exact this
  refine ⟨k, ⟨?_, fun a ha => hpk.mem_iff.mp (List.mem_map.mpr ⟨a, ha, rfl⟩)⟩, .inr ⟨prt_of (r := []) (by rw [List.append_nil]; exact hpk.symm), .inr hpk.length_eq⟩⟩
  rw [← g.hd]
  exact kt s.1 fun q hq => .inl hq
/-- what makes both ways exact -/
def Tight (kind : Str) (s : Jn) : Prop := kind = "yes" → s.2.Nodup ∧ Mnl s
theorem len_yes {s t : Jn} {f g : Fn} (ms : s.2.Nodup ∧ Mnl s) (hf : Hom s t f) (hg : Hom t s g) : s.2.length ≤ (dedup (appB f s.2)).length := by
  have h1 := ms.2 _ (hf.comp hg) (dedup (appB (cmp f g) s.2)) nodup_dedup fun a => mem_dedup
  refine Nat.le_trans h1 ?_
  rw [appB_cmp]
  have h2 := nodup_sub_len (D := appB g (dedup (appB f s.2))) (nodup_dedup (l := appB g (appB f s.2))) fun x hx => by
    obtain ⟨y, hy, e⟩ := List.mem_map.mp (mem_dedup.mp hx)
    exact List.mem_map.mpr ⟨y, mem_dedup.mpr hy, e⟩
  refine Nat.le_trans h2 ?_
  unfold appB
  rw [List.length_map]
  exact Nat.le_refl _
theorem ex_yes {s t : Jn} {f g : Fn} (ms : s.2.Nodup ∧ Mnl s) (mt : t.2.Nodup ∧ Mnl t) (hf : Hom s t f) (hg : Hom t s g) : Ex s t f := by
  have a1 := len_yes ms hf hg
  have a2 := len_yes mt hg hf
  have b1 := nodup_sub_len (D := t.2) (nodup_dedup (l := appB f s.2)) fun x hx => by
    obtain ⟨y, hy, e⟩ := List.mem_map.mp (mem_dedup.mp hx)
    exact e ▸ hf.bd y hy
  have b2 := nodup_sub_len (D := s.2) (nodup_dedup (l := appB g t.2)) fun x hx => by
    obtain ⟨y, hy, e⟩ := List.mem_map.mp (mem_dedup.mp hx)
    exact e ▸ hg.bd y hy
  have lf : (appB f s.2).length = s.2.length := List.length_map ..
  have nf : (appB f s.2).Nodup := nodup_dedup_len (by omega)
  refine ⟨hf, nodup_perm nf (fun x hx => ?_) (by omega)⟩
  obtain ⟨y, hy, e⟩ := List.mem_map.mp hx
  exact e ▸ hf.bd y hy
theorem km_all {kind : Str} (hk : kind3d kind) {s t : Jn} (ts : Tight kind s) (tt : Tight kind t) : KMA "all" s t ↔ KM kind s t ∧ KM kind t s := by
  refine ⟨kma_both, ?_⟩
  rintro ⟨⟨f, hf, kf⟩, g, hg, kg⟩
  rcases kf with e | ⟨pf, _⟩
  · exact (ex_yes (ts e) (tt e) hf hg).turn (ex_yes (tt e) (ts e) hg hf)
  · rcases kg with e | ⟨pg, _⟩
    · exact (ex_yes (ts e) (tt e) hf hg).turn (ex_yes (tt e) (ts e) hg hf)
    · have l1 := Prt.len pf
      have l2 := Prt.len pg
      have e1 : (appB f s.2).length = s.2.length := List.length_map ..
      have e2 : (appB g t.2).length = t.2.length := List.length_map ..
      exact Ex.turn ⟨hf, Prt.perm pf (by omega)⟩ ⟨hg, Prt.perm pg (by omega)⟩
/-! ### covers -/
def Cv (kind : Str) (A B : List Jn) : Prop := ∀ t ∈ B, ∃ s ∈ A, KM kind s t
theorem Cv.trans {kind : Str} {A B C : List Jn} (h : Cv kind A B) (k : Cv kind B C) : Cv kind A C := fun t ht => by
  obtain ⟨s, hs, k1⟩ := k t ht
  obtain ⟨r, hr, k2⟩ := h s hs
  exact ⟨r, hr, km_trans k2 k1⟩
theorem core_to {j c : Jn} (h : Core j c) : KM "yes" j c := by
  obtain ⟨f, hf⟩ := h.to
  exact ⟨f, hf, .inl rfl⟩
theorem core_from {j c : Jn} (h : Core j c) : KM "yes" c j := ⟨idF, ⟨by rw [app_id, List.map_id]; exact h.hd, fun a ha => by rw [appA_id]; exact h.sub a ha⟩, .inl rfl⟩
theorem least_cv {kind : Str} {js J0 L : List Jn} (b : Base kind js J0) (l : Least kind J0 L) : Cv kind L js ∧ Cv kind js L := by
  rcases b with ⟨_, rfl⟩ | ⟨rfl, cs⟩
  · exact ⟨l.cov, fun s hs => ⟨s, l.sub s hs, km_refl _ _⟩⟩
  · constructor
    · intro j hj
      obtain ⟨c, hc, k⟩ := cs.mem1 j hj
      obtain ⟨s, hs, k2⟩ := l.cov c hc
      exact ⟨s, hs, km_trans k2 (core_from k)⟩
    · intro s hs
      obtain ⟨j, hj, k⟩ := cs.mem2 s (l.sub s hs)
      exact ⟨j, hj, core_to k⟩
theorem least_tight {kind : Str} {js J0 L : List Jn} (b : Base kind js J0) (l : Least kind J0 L) : ∀ s ∈ L, Tight kind s := fun s hs e => by
  rcases b with ⟨n, _⟩ | ⟨_, cs⟩
  · exact absurd e n
  · obtain ⟨j, _, k⟩ := cs.mem2 s (l.sub s hs)
    exact ⟨k.nd, k.mnl⟩
theorem cov_cv {kind : Str} (hk : kind3d kind) {A B : List Jn} : CovB kind A B ↔ Cv kind B A ∧ Cv kind A B := by
  unfold CovB Cv
  constructor
  · rintro ⟨h1, h2⟩
    exact ⟨fun t ht => by obtain ⟨s, hs, k⟩ := h1 t ht; exact ⟨s, hs, (kma_km hk).mp k⟩, fun t ht => by obtain ⟨s, hs, k⟩ := h2 t ht; exact ⟨s, hs, (kma_km hk).mp k⟩⟩
  · rintro ⟨h1, h2⟩
    exact ⟨fun t ht => by obtain ⟨s, hs, k⟩ := h1 t ht; exact ⟨s, hs, (kma_km hk).mpr k⟩, fun t ht => by obtain ⟨s, hs, k⟩ := h2 t ht; exact ⟨s, hs, (kma_km hk).mpr k⟩⟩
theorem cov_least {kind : Str} (hk : kind3d kind) {js1 J1 L1 js2 J2 L2 : List Jn} (b1 : Base kind js1 J1) (l1 : Least kind J1 L1) (b2 : Base kind js2 J2) (l2 : Least kind J2 L2) :
    CovB kind js1 js2 ↔ Cv kind L2 L1 ∧ Cv kind L1 L2 := by
  obtain ⟨a1, a2⟩ := least_cv b1 l1
  obtain ⟨c1, c2⟩ := least_cv b2 l2
  rw [cov_cv hk]
  exact ⟨fun ⟨h1, h2⟩ => ⟨(c1.trans h1).trans a2, (a1.trans h2).trans c2⟩, fun ⟨h1, h2⟩ => ⟨(c2.trans h1).trans a1, (a2.trans h2).trans c1⟩⟩
/-! ### the greedy pairing -/
section
variable {R : Nat → Nat → Prop} {n1 n2 : Nat}
theorem pick_some {us : List Nat} {i k : Nat} (h : pick R n2 us i = some k) : k < n2 ∧ k ∉ us ∧ R i k := by
  unfold pick at h
  have h1 := List.mem_of_find?_eq_some h
  have h2 := List.find?_some h
  exact ⟨List.mem_range.mp h1, pickB_true.mp h2⟩
theorem pick_none {us : List Nat} {i : Nat} (h : pick R n2 us i = none) : ∀ k, k < n2 → ¬ (k ∉ us ∧ R i k) := fun k hk z => by
  unfold pick at h
  have := List.find?_eq_none.mp h k (List.mem_range.mpr hk)
  exact this (pickB_true.mpr z)
theorem used_succ (i : Nat) : (∃ k, pick R n2 (usedL R n2 i) i = some k ∧ usedL R n2 (i + 1) = usedL R n2 i ++ [k]) ∨ (pick R n2 (usedL R n2 i) i = none ∧ usedL R n2 (i + 1) = usedL R n2 i) := by
  cases h : pick R n2 (usedL R n2 i) i with
  | some k =>
    refine .inl ⟨k, rfl, ?_⟩
    show (match pick R n2 (usedL R n2 i) i with | some k => usedL R n2 i ++ [k] | none => usedL R n2 i) = _
    rw [h]
  | none =>
    refine .inr ⟨rfl, ?_⟩
    show (match pick R n2 (usedL R n2 i) i with | some k => usedL R n2 i ++ [k] | none => usedL R n2 i) = _
    rw [h]
theorem used_word : ∀ i, (usedL R n2 i).length ≤ i ∧ (usedL R n2 i).Nodup ∧ ∀ k ∈ usedL R n2 i, k < n2 ∧ ∃ i', i' < i ∧ R i' k
  | 0 => ⟨Nat.le_refl _, .nil, fun k h => by cases h⟩
  | i + 1 => by
    obtain ⟨h1, h2, h3⟩ := used_word i
    rcases used_succ (R := R) (n2 := n2) i with ⟨k, hp, e⟩ | ⟨_, e⟩
    · obtain ⟨p1, p2, p3⟩ := pick_some hp
      rw [e]
      refine ⟨by rw [List.length_append]; exact Nat.succ_le_succ h1, List.nodup_append.mpr ⟨h2, by simp, fun a ha b hb ee => p2 (by rw [List.mem_singleton] at hb; rw [← hb, ← ee]; exact ha)⟩, fun k' hk' => ?_⟩
      rcases List.mem_append.mp hk' with z | z
      · obtain ⟨a, i', b, c⟩ := h3 k' z
        exact ⟨a, i', by omega, c⟩
      · rw [List.mem_singleton] at z
        rw [z]
        exact ⟨p1, i, by omega, p3⟩
    · rw [e]
      exact ⟨by omega, h2, fun k' hk' => by
        obtain ⟨a, i', b, c⟩ := h3 k' hk'
        exact ⟨a, i', by omega, c⟩⟩
/-- one list as long as all: each has a partner -/
theorem used_len : ∀ i, (usedL R n2 i).length = i → ∀ i', i' < i → ∃ k ∈ usedL R n2 i, R i' k
  | 0, _, i', h => absurd h (Nat.not_lt_zero _)
  | i + 1, hl, i', h => by
    rcases used_succ (R := R) (n2 := n2) i with ⟨k, hp, e⟩ | ⟨_, e⟩
    · rw [e] at hl ⊢
      rw [List.length_append] at hl
      have hl' : (usedL R n2 i).length = i := Nat.succ.inj hl
      rcases Nat.lt_or_ge i' i with z | z
      · obtain ⟨k', hk', r⟩ := used_len i hl' i' z
        exact ⟨k', List.mem_append_left _ hk', r⟩
      · have : i' = i := by omega
        subst this
        exact ⟨k, by simp, (pick_some hp).2.2⟩
    · rw [e] at hl
      have := (used_word (R := R) (n2 := n2) i).1
      omega
/-- partners are one to one -/
structure OneOne (R : Nat → Nat → Prop) : Prop where
  l : ∀ i k k', R i k → R i k' → k = k'
  r : ∀ i i' k, R i k → R i' k → i = i'
theorem used_full (o : OneOne R) (h : ∀ i, i < n1 → ∃ k, k < n2 ∧ R i k) : ∀ i, i ≤ n1 → (usedL R n2 i).length = i
  | 0, _ => rfl
  | i + 1, hi => by
    have ih := used_full o h i (by omega)
    rcases used_succ (R := R) (n2 := n2) i with ⟨k, hp, e⟩ | ⟨hp, e⟩
    · rw [e, List.length_append, ih]
      rfl
    · exfalso
      obtain ⟨k, hk, r⟩ := h i (by omega)
      refine pick_none hp k hk ⟨fun z => ?_, r⟩
      obtain ⟨_, i', hi', r'⟩ := (used_word i).2.2 k z
      have := o.r _ _ _ r r'
      omega
theorem rng_nodup (n : Nat) : (List.range n).Nodup := List.nodup_range
theorem full_iff (o : OneOne R) (hb : ∀ i k, R i k → i < n1 ∧ k < n2) :
    ((usedL R n2 n1).length = n1 ∧ (usedL R n2 n1).length = n2) ↔ (∀ i, i < n1 → ∃ k, R i k) ∧ ∀ k, k < n2 → ∃ i, R i k := by
  obtain ⟨w1, w2, w3⟩ := used_word (R := R) (n2 := n2) n1
  constructor
  · rintro ⟨h1, h2⟩
    refine ⟨fun i hi => ?_, fun k hk => ?_⟩
    · obtain ⟨k, _, r⟩ := used_len n1 h1 i hi
      exact ⟨k, r⟩
    · have := sub_full (a := usedL R n2 n1) (b := List.range n2) w2 (fun x hx => List.mem_range.mpr (w3 x hx).1) (by rw [List.length_range, h2]; exact Nat.le_refl _) k (List.mem_range.mpr hk)
      obtain ⟨_, i, _, r⟩ := w3 k this
      exact ⟨i, r⟩
  · rintro ⟨h1, h2⟩
    have lf := used_full (n1 := n1) (n2 := n2) o (fun i hi => by
      obtain ⟨k, r⟩ := h1 i hi
      exact ⟨k, (hb i k r).2, r⟩) n1 (Nat.le_refl _)
    refine ⟨lf, ?_⟩
    have a1 := nodup_sub_len (D := List.range n2) w2 fun x hx => List.mem_range.mpr (w3 x hx).1
    have a2 := nodup_sub_len (D := usedL R n2 n1) (rng_nodup n2) fun k hk => by
      obtain ⟨i, r⟩ := h2 k (List.mem_range.mp hk)
      obtain ⟨k', hk', r'⟩ := used_len n1 lf i (hb i k r).1
      rw [o.l _ _ _ r r']
      exact hk'
    rw [List.length_range] at a1 a2
    omega
end
/-! ### THE PLAIN LAW -/
theorem plain_law {kind : Str} (hk : kind3d kind) {js1 J1 L1 js2 J2 L2 : List Jn} (b1 : Base kind js1 J1) (l1 : Least kind J1 L1) (b2 : Base kind js2 J2) (l2 : Least kind J2 L2) :
    FullP L1 L2 ↔ CovB kind js1 js2 := by
  have t1 := least_tight b1 l1
  have t2 := least_tight b2 l2
  have key : ∀ i k, RA L1 L2 i k ↔ ∃ s t, L1[i]? = some s ∧ L2[k]? = some t ∧ KM kind s t ∧ KM kind t s := fun i k => by
    constructor
    · rintro ⟨s, t, hs, ht, h⟩
      exact ⟨s, t, hs, ht, (km_all hk (t1 s (List.mem_of_getElem? hs)) (t2 t (List.mem_of_getElem? ht))).mp h⟩
    · rintro ⟨s, t, hs, ht, h⟩
      exact ⟨s, t, hs, ht, (km_all hk (t1 s (List.mem_of_getElem? hs)) (t2 t (List.mem_of_getElem? ht))).mpr h⟩
  have o : OneOne (RA L1 L2) := by
    refine ⟨fun i k k' h h' => ?_, fun i i' k h h' => ?_⟩
    · obtain ⟨s, t, hs, ht, a, b⟩ := (key i k).mp h
      obtain ⟨s', t', hs', ht', a', b'⟩ := (key i k').mp h'
      rw [hs] at hs'
      cases hs'
      by_cases z : k = k'
      · exact z
      · exact absurd (km_trans b a') (l2.anti k k' t t' z ht ht')
    · obtain ⟨s, t, hs, ht, a, b⟩ := (key i k).mp h
      obtain ⟨s', t', hs', ht', a', b'⟩ := (key i' k).mp h'
      rw [ht] at ht'
      cases ht'
      by_cases z : i = i'
      · exact z
      · exact absurd (km_trans a b') (l1.anti i i' s s' z hs hs')
  rw [cov_least hk b1 l1 b2 l2]
  unfold FullP
  rw [full_iff o fun i k ⟨s, t, hs, ht, _⟩ => ⟨(List.getElem?_eq_some_iff.mp hs).1, (List.getElem?_eq_some_iff.mp ht).1⟩]
  constructor
  · rintro ⟨h1, h2⟩
    refine ⟨fun t ht => ?_, fun t ht => ?_⟩
    · obtain ⟨i, hi, e⟩ := List.getElem_of_mem ht
      obtain ⟨k, hR⟩ := h1 i hi
      obtain ⟨s, u, hs, hu, a, b⟩ := (key i k).mp hR
      rw [List.getElem?_eq_getElem hi, e] at hs
      cases hs
      exact ⟨u, List.mem_of_getElem? hu, b⟩
    · obtain ⟨k, hk', e⟩ := List.getElem_of_mem ht
      obtain ⟨i, hR⟩ := h2 k hk'
      obtain ⟨s, u, hs, hu, a, b⟩ := (key i k).mp hR
      rw [List.getElem?_eq_getElem hk', e] at hu
      cases hu
      exact ⟨s, List.mem_of_getElem? hs, a⟩
  · rintro ⟨h1, h2⟩
    refine ⟨fun i hi => ?_, fun k hk' => ?_⟩
    · obtain ⟨t, ht, a⟩ := h1 L1[i] (List.getElem_mem hi)
      obtain ⟨s, hs, b⟩ := h2 t ht
      obtain ⟨i', hi', e⟩ := List.getElem_of_mem hs
      obtain ⟨k, hk', e2⟩ := List.getElem_of_mem ht
      have : i' = i := by
        by_cases z : i' = i
        · exact z
        · exact absurd (km_trans b a) (l1.anti i' i s _ z (by rw [List.getElem?_eq_getElem hi', e]) (List.getElem?_eq_getElem hi))
      subst this
      exact ⟨k, (key i' k).mpr ⟨s, t, by rw [List.getElem?_eq_getElem hi', e], by rw [List.getElem?_eq_getElem hk', e2], b, e ▸ a⟩⟩
    · obtain ⟨s, hs, a⟩ := h2 L2[k] (List.getElem_mem hk')
      obtain ⟨t, ht, b⟩ := h1 s hs
      obtain ⟨k', hk2, e⟩ := List.getElem_of_mem ht
      obtain ⟨i, hi, e2⟩ := List.getElem_of_mem hs
      have : k' = k := by
        by_cases z : k' = k
        · exact z
        · exact absurd (km_trans b a) (l2.anti k' k t _ z (by rw [List.getElem?_eq_getElem hk2, e]) (List.getElem?_eq_getElem hk'))
      subst this
      exact ⟨i, (key i k').mpr ⟨s, t, by rw [List.getElem?_eq_getElem hi, e2], by rw [List.getElem?_eq_getElem hk2, e], e ▸ a, b⟩⟩
/-! ### least questions are as drawn -/
theorem VJ.sm {n : Nat} {j : Jn} (h : VJ n 4 6 j) (hn : n ≤ 4) : Sm j := ⟨by rw [h.hl]; omega, Nat.le_trans h.bl (by decide), fun a ha => Nat.le_trans (h.at_ a ha).2.2 (by decide)⟩
theorem core_vj {n : Nat} {j c : Jn} (h : VJ n 4 6 j) (k : Core j c) : VJ n 4 6 c := by
  refine ⟨by rw [k.hd, h.hl], fun t ht => h.ht t (k.hd ▸ ht), Nat.le_trans (nodup_sub_len k.nd k.sub) h.bl, fun a ha => h.at_ a (k.sub a ha), fun s hs => ?_⟩
  rw [k.hd] at hs
  obtain ⟨f, hf⟩ := k.to
  obtain ⟨a, ha, hr⟩ := h.hb s hs
  have hfs : f s = .var s := by
    have e : j.1.map (app f) = j.1 := hf.hd.trans k.hd
    have : ∀ ts : List Tm, ts.map (app f) = ts → Tm.var s ∈ ts → f s = .var s := by
      intro ts
      induction ts with
      | nil => intro _ h; cases h
      | cons t ts ih =>
        intro e h
        rw [List.map_cons] at e
        rcases List.mem_cons.mp h with z | z
        · rw [← z] at e
          exact (List.cons.inj e).1
        · exact ih (List.cons.inj e).2 z
    exact this j.1 e hs
  exact ⟨appA f a, hf.bd a ha, List.mem_map.mpr ⟨_, hr, hfs⟩⟩
theorem least_vj {kind : Str} {n : Nat} {js J0 L : List Jn} (h : ∀ j ∈ js, VJ n 4 6 j) (b : Base kind js J0) (l : Least kind J0 L) : ∀ j ∈ L, VJ n 4 6 j := fun c hc => by
  have hc := l.sub c hc
  rcases b with ⟨_, rfl⟩ | ⟨_, cs⟩
  · exact h c hc
  · obtain ⟨j, hj, k⟩ := cs.mem2 c hc
    exact core_vj (h j hj) k
end Aw

/-! D1: the law's def. -/
namespace Aw
open PySem PySem.Spec PyProof.Rows L2
open C8 (Cal pe_c)
open LamX (CodeO TabS Tabs ExtN TabB lamEnv)
theorem tabs_kd {P0 d : Addr} {H H' : Hp} (t : Tabs (T0 P0) H) (hd : Dr H d) (e : Kd d H H') : Tabs (T0 P0) H' := fun z hz => by
  obtain ⟨ps, a1, a2, a3⟩ := t z hz
  obtain ⟨ns, hd⟩ := hd
  refine ⟨ps, e.ob _ _ (fun zz => ?_) a1, a2, fun pos cv hc => ?_⟩
  · rw [zz, hd] at a1
    cases a1
  · obtain ⟨c, e1, e2⟩ := a3 pos cv hc
    refine ⟨c, e1, e.ob _ _ (fun zz => ?_) e2⟩
    rw [zz, hd] at e2
    unfold CodeO at e2
    cases e2
def spLaw (K : PySem.W.Frag) (P0 : Addr) : Sp := fun vs H Q _ => ∃ (a : Addr) (ns : List Int), vs = [.ref a] ∧ SqL K H a (ns.map V.int) ∧ ns.length ≤ 50000 ∧ H P0 = some (.tbl #[]) ∧ ∀ H', Q (.bl true) H'
section
variable {P : Program} {w : World} {K : PySem.W.Frag} {mg : Str → Option Value} {base : Heap}
theorem fnok_mk {x : Str} {st : Stmt} {N ps : List Str} {k : Nat} {sp : Sp} {f : Addr} {fd : FuncData} (F : FnP K x st f fd) (S : FnScope N ps (defScope st))
    (len : ∀ vs H Q E, sp vs H Q E → vs.length = ps.length)
    (hbody : ∀ (cdv : Value) (A : Around) (outer : List Env) (s : Shared) (H : Hp) (vs : List V) (Q : VK) (E : XK), Room k (A.deeper (envOfC x (defScope st) s.heap.objs.size f cdv)) → sp vs H Q E →
      ∃ t, PSs (cxOf CX0 P w K mg base N x (defScope st) f cdv A outer s H E).nox (defBody st) t ∧ t { nx := fun _ H' => Q .non H', rt := Q } (start N vs) H) : FnOk P w K mg base CX0 (k + 1) f fd ps sp := F.ok S len fun cdv A outer s H vs Q E hr h => by
  obtain ⟨t, h1, h2⟩ := hbody cdv A outer s H vs Q E hr h
  exact ⟨t, h1.nox, h2⟩
end
section
variable {P : Program} {w : World} {K : PySem.W.Frag} {mg : Str → Option Value} {base : Heap}
theorem sc_l_law : FnScope ["_law_script", "_law_draws_here", "_law_world_here", "_law_kind", "_law_pair", "_law_one", "_law_two_here"] ["_law_script"] (defScope st_l_law) := ⟨rfl, rfl, rfl, by decide +kernel, rfl, by decide +kernel, by decide +kernel⟩
theorem ok_l_law {P0 f : Addr} {fd : FuncData} (F : FnP K "law" st_l_law f fd) (B : Bt mg) (C_l_draws : Cal P w K mg base 1 "_law_draws" (spDw K) []) (C_l_world : Cal P w K mg base 3 "_law_world" spWo []) (C_l_pick : Cal P w K mg base 2 "_law_pick" spPk []) (C_l_two_long : Cal P w K mg base 9 "_law_two_long" (spTw 6) []) (C_least_question : Cal P w K mg base 9 "least_question" (spLq P0) []) (C_l_is_question : Cal P w K mg base 4 "_law_is_question" spLiq []) (C_l_paper : Cal P w K mg base 8 "_law_paper" spLpa []) : FnOk P w K mg base CX0 10 f fd ["_law_script"] (spLaw K P0) := by
  refine fnok_mk F sc_l_law (fun vs H Q E h => ?_) (fun cdv A outer s H vs Q E hr h => ?_)
  · obtain ⟨a, ns, rfl, _⟩ := h
    rfl
  · obtain ⟨a, ns, rfl, ha, hn, hP0, k⟩ := h
    have nd := sc_l_law.nd
    refine ⟨_, (pss_cons (ps_set (i := 1) nd rfl (.inl rfl) (pe_c C_l_draws hr (by decide) rfl (pa_cons (pv 0) (pa_cons pe_int pa_nil))))
      (pss_cons (ps_set (i := 2) nd rfl (.inl rfl) (pe_c C_l_world hr (by decide) rfl (pa_cons (pv 1) pa_nil)))
      (pss_cons (ps_set (i := 3) nd rfl (.inl rfl) (pe_c C_l_pick hr (by decide) rfl (pa_cons (pv 1) (pa_cons (peL (pa_cons pe_str (pa_cons pe_str (pa_cons pe_str pa_nil)))) pa_nil))))
      (pss_cons (ps_set (i := 4) nd rfl (.inl rfl) (pe_c C_l_two_long hr (by decide) rfl (pa_cons (pv 1) (pa_cons (pv 2) (pa_cons (pv 3) (pa_cons pe_int pa_nil))))))
      (pss_cons (ps_set (i := 5) nd rfl (.inl rfl) (pe_c C_least_question hr (by decide) rfl (pa_cons (pv 3) (pa_cons (pe_ix ixL (pv 4) pe_int (fun _ _ => rfl)) pa_nil))))
      (pss_cons (ps_set (i := 6) nd rfl (.inl rfl) (pe_c C_least_question hr (by decide) rfl (pa_cons (pv 3) (pa_cons (pe_ix ixL (pv 4) pe_int (fun _ _ => rfl)) pa_nil))))
      (pss_cons (ps_if (PW.pt (pw_or (pt_not (pt_val (pe_c C_l_is_question hr (by decide) rfl (pa_cons (pv 5) (pa_cons (pe_ix ixT (pe_ix ixL (pv 4) pe_int (fun _ _ => rfl)) pe_int (fun _ _ => rfl)) pa_nil))))) (pw_or1 (pt_not (pt_val (pe_c C_l_is_question hr (by decide) rfl (pa_cons (pv 6) (pa_cons (pe_ix ixT (pe_ix ixL (pv 4) pe_int (fun _ _ => rfl)) pe_int (fun _ _ => rfl)) pa_nil))))))))
      (pss_one (ps_ret pe_bl))
      pss_nil)
      (pss_one (ps_ret (pe_cmpR op_eq (pe_cmpR op_isN (pe_c C_l_paper hr (by decide) rfl (pa_cons pe_str (pa_cons (pv 5) (pa_cons (pv 6) pa_nil)))) pe_non (nomark _)) (pe_cmpR op_isN (pe_c C_l_paper hr (by decide) rfl (pa_cons (pv 3) (pa_cons (pe_ix ixL (pv 4) pe_int (fun _ _ => rfl)) (pa_cons (pe_ix ixL (pv 4) pe_int (fun _ _ => rfl)) pa_nil)))) pe_non (nomark _)) (nomark _))))))))))), ?_⟩
    have tab : Tabs (T0 P0) H := fun z hz => by
      rw [List.mem_singleton] at hz
      rw [hz]
      exact TabS.nil hP0
    refine ⟨_, rfl, a, ns, rfl, ha, hn, fun d H1 hd0 e1 hd => ?_⟩
    have tab := tabs_same tab e1
    refine ⟨_, rfl, d, rfl, hd, fun x H2 k2 hw => ?_⟩
    refine ⟨_, rfl, sz3, fun L H3 hL0 e3 hL => ?_⟩
    have k3 := k2.then_ e3
    have L_d := dr_ne hL0 k2.dr
    refine ⟨d, L, _, rfl, k3.dr, .inl hL, L_d, (by show 0 < 3; decide), fun v H4 hv e4 => ?_⟩
    have k4 := k3.trans e4
    have hw4 := (hw.kd (.same e3 k2.dr)).kd e4
    have hkind : ∃ kind : Str, v = .str kind ∧ kind3d kind := by
      simp only [List.mem_cons, List.not_mem_nil, or_false] at hv
      rcases hv with rfl | rfl | rfl
      · exact ⟨_, rfl, .inl rfl⟩
      · exact ⟨_, rfl, .inr (.inl rfl)⟩
      · exact ⟨_, rfl, .inr (.inr rfl)⟩
    obtain ⟨kind, rfl, hk⟩ := hkind
    have hna : kind ≠ "all" := by rcases hk with rfl | rfl | rfl <;> decide +kernel
    have hk4 : kind4 kind := by
      rcases hk with h | h | h
      · exact .inl h
      · exact .inr (.inl h)
      · exact .inr (.inr (.inl h))
    refine ⟨_, rfl, _, rfl, _, rfl, d, x, kind, rfl, hk, k4.dr, hw4, fun p v1 v2 n js1 js2 H5 p_d pr k5 hp h1 h2 => ?_⟩
    have tab5 := tabs_kd tab hd (k4.trans k5)
    obtain ⟨q, qb, qs, rfl, hq, _, _⟩ := qnE (id h1)
    have s1 : ∀ s ∈ js1, Sm s := fun s hs => (pr.v1 s hs).sm pr.hn
    have s2 : ∀ s ∈ js2, Sm s := fun s hs => (pr.v2 s hs).sm pr.hn
    have n4 := pr.hn
    have l15 := pr.l1
    have l25 := pr.l2
    refine ⟨_, rfl, _, rfl, p, _, 0, _, rfl, rfl, hp, rfl, kind, _, (n : Int), js1, rfl, hk, h1, s1, by omega, tab5, fun J1 L1 b1 m1 ll1 w1 H6 g6 t1 => ?_⟩
    refine ⟨_, rfl, _, rfl, p, _, 1, _, rfl, rfl, g6.at_ hp, rfl, kind, _, (n : Int), js2, rfl, hk, h2.mono g6.tx, s2, by omega, g6.t, fun J2 L2 b2 m2 ll2 w2 H7 g7 t2 => ?_⟩
    have hp7 := g7.at_ (g6.at_ hp)
    have hq7 := hq.ext (g6.trans g7).e
    have h1 := h1.mono (g6.trans g7).tx
    have h2 := h2.mono (g6.trans g7).tx
    have t1 := t1.mono g7.tx
    have v1 := least_vj pr.v1 b1 m1
    have v2 := least_vj pr.v2 b2 m2
    refine ⟨_, rfl, _, rfl, p, _, 0, _, rfl, rfl, hp7, rfl, q, _, 0, _, rfl, rfl, hq7, rfl, w1, n, L1, rfl, t1, by omega, by omega, fun j hj => (v1 j hj).le (by decide) (by decide), fun H8 e8 => ⟨_, rfl, iteF ?_⟩⟩
    refine ⟨_, rfl, _, rfl, p, _, 0, _, rfl, rfl, e8 _ _ hp7, rfl, q, _, 0, _, rfl, rfl, hq7.same e8, rfl, w2, n, L2, rfl, t2.mono (Same.tx e8), by omega, by omega, fun j hj => (v2 j hj).le (by decide) (by decide), fun H9 e9 => ⟨_, rfl, iteF ?_⟩⟩
    have e89 := e8.trans e9
    have tx9 := Same.tx e89
    have hp9 := e89 _ _ hp7
    have law := plain_law hk b1 m1 b2 m2
    have sL1 : ∀ s ∈ L1, Sm s := fun s hs => (v1 s hs).sm pr.hn
    have sL2 : ∀ s ∈ L2, Sm s := fun s hs => (v2 s hs).sm pr.hn
    have pa : PapOk "all" L1 L2 ↔ CovB kind js1 js2 := by
      rw [← law]
      exact ⟨fun h => h.elim (fun h => h.2) fun h => absurd rfl h.1, fun h => .inl ⟨rfl, h⟩⟩
    have pb : PapOk kind js1 js2 ↔ CovB kind js1 js2 := ⟨fun h => h.elim (fun h => absurd h.1 hna) fun h => h.2, fun h => .inr ⟨hna, h⟩⟩
    have hall : kind4 "all" := .inr (.inr (.inr rfl))
    by_cases hC : CovB kind js1 js2
    · refine ⟨_, rfl, _, rfl, "all", w1, w2, (n : Int), (n : Int), L1, L2, rfl, hall, t1.mono tx9, t2.mono tx9, by omega, by omega, sL1, sL2, fun _ p1 H10 e10 => ?_, fun h => absurd (pa.mpr hC) h⟩
      refine ⟨rfl, _, rfl, _, rfl, p, _, 0, _, rfl, rfl, e10 _ _ hp9, rfl, _, rfl, p, _, 1, _, rfl, rfl, e10 _ _ hp9, rfl, kind, _, _, (n : Int), (n : Int), js1, js2, rfl, hk4, (h1.mono tx9).mono (Same.tx e10), (h2.mono tx9).mono (Same.tx e10), by omega, by omega, s1, s2, fun _ p2 H11 e11 => ?_, fun h => absurd (pb.mpr hC) h⟩
      exact ⟨rfl, rfl, k H11⟩
    · refine ⟨_, rfl, _, rfl, "all", w1, w2, (n : Int), (n : Int), L1, L2, rfl, hall, t1.mono tx9, t2.mono tx9, by omega, by omega, sL1, sL2, fun h => absurd (pa.mp h) hC, fun _ H10 e10 => ?_⟩
      refine ⟨rfl, _, rfl, _, rfl, p, _, 0, _, rfl, rfl, e10 _ _ hp9, rfl, _, rfl, p, _, 1, _, rfl, rfl, e10 _ _ hp9, rfl, kind, _, _, (n : Int), (n : Int), js1, js2, rfl, hk4, (h1.mono tx9).mono (Same.tx e10), (h2.mono tx9).mono (Same.tx e10), by omega, by omega, s1, s2, fun h => absurd (pb.mp h) hC, fun _ H11 e11 => ?_⟩
      exact ⟨rfl, rfl, k H11⟩
end
end Aw

/-! H0: the head's run. -/
namespace Aw
open PySem PySem.Spec PyProof.Rows L2
def d_value_key : He.DefD := ⟨("value_key", none), "value_key", "value_key", defArgs st_value_key, defBody st_value_key, defScope st_value_key, [], []⟩
def d_put_term : He.DefD := ⟨("put_term", none), "put_term", "put_term", defArgs st_put_term, defBody st_put_term, defScope st_put_term, [], []⟩
def d_put_terms : He.DefD := ⟨("put_terms", none), "put_terms", "put_terms", defArgs st_put_terms, defBody st_put_terms, defScope st_put_terms, [], []⟩
def d_extended : He.DefD := ⟨("extended", none), "extended", "extended", defArgs st_extended, defBody st_extended, defScope st_extended, [], []⟩
def d_ordered_atoms : He.DefD := ⟨("ordered_atoms", none), "ordered_atoms", "ordered_atoms", defArgs st_ordered_atoms, defBody st_ordered_atoms, defScope st_ordered_atoms, [], []⟩
def d_term_key : He.DefD := ⟨("term_key", none), "term_key", "term_key", defArgs st_term_key, defBody st_term_key, defScope st_term_key, [], []⟩
def d_map_key : He.DefD := ⟨("map_key", none), "map_key", "map_key", defArgs st_map_key, defBody st_map_key, defScope st_map_key, [], []⟩
def d_matchings : He.DefD := ⟨("matchings", none), "matchings", "matchings", defArgs st_matchings, defBody st_matchings, defScope st_matchings, [], []⟩
def d_image : He.DefD := ⟨("image", none), "image", "image", defArgs st_image, defBody st_image, defScope st_image, [], []⟩
def d_is_part : He.DefD := ⟨("is_part", none), "is_part", "is_part", defArgs st_is_part, defBody st_is_part, defScope st_is_part, [], []⟩
def d_is_turn : He.DefD := ⟨("is_turn", none), "is_turn", "is_turn", defArgs st_is_turn, defBody st_is_turn, defScope st_is_turn, [], []⟩
def d_fits : He.DefD := ⟨("fits", none), "fits", "fits", defArgs st_fits, defBody st_fits, defScope st_fits, [], []⟩
def d_covers : He.DefD := ⟨("covers", none), "covers", "covers", defArgs st_covers, defBody st_covers, defScope st_covers, [], []⟩
def d_cover_of : He.DefD := ⟨("cover_of", none), "cover_of", "cover_of", defArgs st_cover_of, defBody st_cover_of, defScope st_cover_of, [], []⟩
def d_entry_of : He.DefD := ⟨("entry_of", none), "entry_of", "entry_of", defArgs st_entry_of, defBody st_entry_of, defScope st_entry_of, [], []⟩
def d_distinct : He.DefD := ⟨("distinct", none), "distinct", "distinct", defArgs st_distinct, defBody st_distinct, defScope st_distinct, [], []⟩
def d_smaller : He.DefD := ⟨("smaller", none), "smaller", "smaller", defArgs st_smaller, defBody st_smaller, defScope st_smaller, [], []⟩
def d_core_of : He.DefD := ⟨("core_of", none), "core_of", "core_of", defArgs st_core_of, defBody st_core_of, defScope st_core_of, [], []⟩
def d_least_question : He.DefD := ⟨("least_question", none), "least_question", "least_question", defArgs st_least_question, defBody st_least_question, defScope st_least_question, [], []⟩
def d_l_draws : He.DefD := ⟨("_law_draws", none), "_law_draws", "_law_draws", defArgs st_l_draws, defBody st_l_draws, defScope st_l_draws, [], []⟩
def d_l_take : He.DefD := ⟨("_law_take", none), "_law_take", "_law_take", defArgs st_l_take, defBody st_l_take, defScope st_l_take, [], []⟩
def d_l_pick : He.DefD := ⟨("_law_pick", none), "_law_pick", "_law_pick", defArgs st_l_pick, defBody st_l_pick, defScope st_l_pick, [], []⟩
def d_l_same : He.DefD := ⟨("_law_same", none), "_law_same", "_law_same", defArgs st_l_same, defBody st_l_same, defScope st_l_same, [], []⟩
def d_l_pool : He.DefD := ⟨("_law_pool", none), "_law_pool", "_law_pool", defArgs st_l_pool, defBody st_l_pool, defScope st_l_pool, [], []⟩
def d_l_values : He.DefD := ⟨("_law_values", none), "_law_values", "_law_values", defArgs st_l_values, defBody st_l_values, defScope st_l_values, [], []⟩
def d_l_value : He.DefD := ⟨("_law_value", none), "_law_value", "_law_value", defArgs st_l_value, defBody st_l_value, defScope st_l_value, [], []⟩
def d_l_world : He.DefD := ⟨("_law_world", none), "_law_world", "_law_world", defArgs st_l_world, defBody st_l_world, defScope st_l_world, [], []⟩
def d_l_term : He.DefD := ⟨("_law_term", none), "_law_term", "_law_term", defArgs st_l_term, defBody st_l_term, defScope st_l_term, [], []⟩
def d_l_atom : He.DefD := ⟨("_law_atom", none), "_law_atom", "_law_atom", defArgs st_l_atom, defBody st_l_atom, defScope st_l_atom, [], []⟩
def d_l_join : He.DefD := ⟨("_law_join", none), "_law_join", "_law_join", defArgs st_l_join, defBody st_l_join, defScope st_l_join, [], []⟩
def d_l_question : He.DefD := ⟨("_law_question", none), "_law_question", "_law_question", defArgs st_l_question, defBody st_l_question, defScope st_l_question, [], []⟩
def d_l_put : He.DefD := ⟨("_law_put", none), "_law_put", "_law_put", defArgs st_l_put, defBody st_l_put, defScope st_l_put, [], []⟩
def d_l_put_join : He.DefD := ⟨("_law_put_join", none), "_law_put_join", "_law_put_join", defArgs st_l_put_join, defBody st_l_put_join, defScope st_l_put_join, [], []⟩
def d_l_join_variables : He.DefD := ⟨("_law_join_variables", none), "_law_join_variables", "_law_join_variables", defArgs st_l_join_variables, defBody st_l_join_variables, defScope st_l_join_variables, [], []⟩
def d_l_turned_join : He.DefD := ⟨("_law_turned_join", none), "_law_turned_join", "_law_turned_join", defArgs st_l_turned_join, defBody st_l_turned_join, defScope st_l_turned_join, [], []⟩
def d_l_near_join : He.DefD := ⟨("_law_near_join", none), "_law_near_join", "_law_near_join", defArgs st_l_near_join, defBody st_l_near_join, defScope st_l_near_join, [], []⟩
def d_l_near_question : He.DefD := ⟨("_law_near_question", none), "_law_near_question", "_law_near_question", defArgs st_l_near_question, defBody st_l_near_question, defScope st_l_near_question, [], []⟩
def d_l_bound : He.DefD := ⟨("_law_bound", none), "_law_bound", "_law_bound", defArgs st_l_bound, defBody st_l_bound, defScope st_l_bound, [], []⟩
def d_l_distinct : He.DefD := ⟨("_law_distinct", none), "_law_distinct", "_law_distinct", defArgs st_l_distinct, defBody st_l_distinct, defScope st_l_distinct, [], []⟩
def d_l_matchings : He.DefD := ⟨("_law_matchings", none), "_law_matchings", "_law_matchings", defArgs st_l_matchings, defBody st_l_matchings, defScope st_l_matchings, [], []⟩
def d_l_image : He.DefD := ⟨("_law_image", none), "_law_image", "_law_image", defArgs st_l_image, defBody st_l_image, defScope st_l_image, [], []⟩
def d_l_fits : He.DefD := ⟨("_law_fits", none), "_law_fits", "_law_fits", defArgs st_l_fits, defBody st_l_fits, defScope st_l_fits, [], []⟩
def d_l_good_maps : He.DefD := ⟨("_law_good_maps", none), "_law_good_maps", "_law_good_maps", defArgs st_l_good_maps, defBody st_l_good_maps, defScope st_l_good_maps, [], []⟩
def d_l_entries : He.DefD := ⟨("_law_entries", none), "_law_entries", "_law_entries", defArgs st_l_entries, defBody st_l_entries, defScope st_l_entries, [], []⟩
def d_l_cover : He.DefD := ⟨("_law_cover", none), "_law_cover", "_law_cover", defArgs st_l_cover, defBody st_l_cover, defScope st_l_cover, [], []⟩
def d_l_half_of : He.DefD := ⟨("_law_half_of", none), "_law_half_of", "_law_half_of", defArgs st_l_half_of, defBody st_l_half_of, defScope st_l_half_of, [], []⟩
def d_l_paper : He.DefD := ⟨("_law_paper", none), "_law_paper", "_law_paper", defArgs st_l_paper, defBody st_l_paper, defScope st_l_paper, [], []⟩
def d_l_width : He.DefD := ⟨("_law_width", none), "_law_width", "_law_width", defArgs st_l_width, defBody st_l_width, defScope st_l_width, [], []⟩
def d_l_weaker : He.DefD := ⟨("_law_weaker", none), "_law_weaker", "_law_weaker", defArgs st_l_weaker, defBody st_l_weaker, defScope st_l_weaker, [], []⟩
def d_l_equal : He.DefD := ⟨("_law_equal", none), "_law_equal", "_law_equal", defArgs st_l_equal, defBody st_l_equal, defScope st_l_equal, [], []⟩
def d_l_near : He.DefD := ⟨("_law_near", none), "_law_near", "_law_near", defArgs st_l_near, defBody st_l_near, defScope st_l_near, [], []⟩
def d_l_two : He.DefD := ⟨("_law_two", none), "_law_two", "_law_two", defArgs st_l_two, defBody st_l_two, defScope st_l_two, [], []⟩
def d_l_two_long : He.DefD := ⟨("_law_two_long", none), "_law_two_long", "_law_two_long", defArgs st_l_two_long, defBody st_l_two_long, defScope st_l_two_long, [], []⟩
def d_l_is_term : He.DefD := ⟨("_law_is_term", none), "_law_is_term", "_law_is_term", defArgs st_l_is_term, defBody st_l_is_term, defScope st_l_is_term, [], []⟩
def d_l_are_terms : He.DefD := ⟨("_law_are_terms", none), "_law_are_terms", "_law_are_terms", defArgs st_l_are_terms, defBody st_l_are_terms, defScope st_l_are_terms, [], []⟩
def d_l_is_join : He.DefD := ⟨("_law_is_join", none), "_law_is_join", "_law_is_join", defArgs st_l_is_join, defBody st_l_is_join, defScope st_l_is_join, [], []⟩
def d_l_is_question : He.DefD := ⟨("_law_is_question", none), "_law_is_question", "_law_is_question", defArgs st_l_is_question, defBody st_l_is_question, defScope st_l_is_question, [], []⟩
def d_l_law : He.DefD := ⟨("law", none), "law", "law", defArgs st_l_law, defBody st_l_law, defScope st_l_law, [], []⟩
def fn : List He.DefD := [d_value_key, d_put_term, d_put_terms, d_extended, d_ordered_atoms, d_term_key, d_map_key, d_matchings, d_image, d_is_part, d_is_turn, d_fits, d_covers, d_cover_of, d_entry_of, d_distinct, d_smaller, d_core_of, d_least_question, d_l_draws, d_l_take, d_l_pick, d_l_same, d_l_pool, d_l_values, d_l_value, d_l_world, d_l_term, d_l_atom, d_l_join, d_l_question, d_l_put, d_l_put_join, d_l_join_variables, d_l_turned_join, d_l_near_join, d_l_near_question, d_l_bound, d_l_distinct, d_l_matchings, d_l_image, d_l_fits, d_l_good_maps, d_l_entries, d_l_cover, d_l_half_of, d_l_paper, d_l_width, d_l_weaker, d_l_equal, d_l_near, d_l_two, d_l_two_long, d_l_is_term, d_l_are_terms, d_l_is_join, d_l_is_question, d_l_law]

def fa : List He.Fa := [.glo "value_key", .glo "put_term", .glo "put_terms", .glo "extended", .glo "ordered_atoms", .glo "term_key", .glo "map_key", .glo "matchings", .glo "image", .glo "is_part", .glo "is_turn", .glo "fits", .glo "covers", .glo "cover_of", .glo "entry_of", .glo "distinct", .glo "smaller", .glo "core_of", .glo "least_question", .glo "_law_draws", .glo "_law_take", .glo "_law_pick", .glo "_law_same", .glo "_law_pool", .glo "_law_values", .glo "_law_value", .glo "_law_world", .glo "_law_term", .glo "_law_atom", .glo "_law_join", .glo "_law_question", .glo "_law_put", .glo "_law_put_join", .glo "_law_join_variables", .glo "_law_turned_join", .glo "_law_near_join", .glo "_law_near_question", .glo "_law_bound", .glo "_law_distinct", .glo "_law_matchings", .glo "_law_image", .glo "_law_fits", .glo "_law_good_maps", .glo "_law_entries", .glo "_law_cover", .glo "_law_half_of", .glo "_law_paper", .glo "_law_width", .glo "_law_weaker", .glo "_law_equal", .glo "_law_near", .glo "_law_two", .glo "_law_two_long", .glo "_law_is_term", .glo "_law_are_terms", .glo "_law_is_join", .glo "_law_is_question", .glo "law"] ++ [.free "isinstance", .free "str", .free "tuple", .free "len", .free "dict", .free "range", .free "list", .free "min", .free "sorted", .free "all", .free "set", .free "any", .free "enumerate", .free "int", .free "bool"]
abbrev R : PySem.W.OpenRow := PySem.W.OpenLaw.row PySem.Challenge.rw_anyworth_k75_whole_equal_questions_alike
def tfs : List He.Defn := [("ordered_atoms", none)]
abbrev hk : PySem.W.Hook := He.hookX 4 fa fn [] tfs (fun _ => true)
def ob (s : PySem.W.SharedT) : He.AlX := He.obsX 4 fa fn [] tfs (fun _ => true) (HandSHeadRun.getT s)
theorem ob_eq (s : PySem.W.SharedT) : ob s = hk.obs s.abs := He.obsX_eq (HandSHeadRun.getT_eq s)
def loose0 : List PySem.Str := ["value_key", "put_term", "put_terms", "extended", "ordered_atoms", "term_key", "map_key", "matchings", "image", "is_part", "is_turn", "fits"]
def loose1 : List PySem.Str := ["covers", "cover_of", "entry_of", "distinct", "smaller", "core_of", "least_question", "_law_draws", "_law_take", "_law_pick", "_law_same", "_law_pool"]
def loose2 : List PySem.Str := ["_law_values", "_law_value", "_law_world", "_law_term", "_law_atom", "_law_join", "_law_question", "_law_put", "_law_put_join", "_law_join_variables", "_law_turned_join", "_law_near_join"]
def loose3 : List PySem.Str := ["_law_near_question", "_law_bound", "_law_distinct", "_law_matchings", "_law_image", "_law_fits", "_law_good_maps", "_law_entries", "_law_cover", "_law_half_of", "_law_paper", "_law_width"]
def loose4 : List PySem.Str := ["_law_weaker", "_law_equal", "_law_near", "_law_two", "_law_two_long", "_law_is_term", "_law_are_terms", "_law_is_join", "_law_is_question"]
def loose : List PySem.Str := loose0 ++ loose1 ++ loose2 ++ loose3 ++ loose4
theorem run (w : World) : HandSHeadRun.RunEq R (PySem.W.view R.prog [63]) hk ob 4000 loose w := by
  intro os
  kernel_rfl
end Aw

/-! E1: the facts of the head and the end. -/
namespace Aw
open PySem PySem.Spec PyProof.Rows L2
open C8 (Cal pe_c)
open LamX (TabB)
section
variable {P : Program} {w : World} {K : PySem.W.Frag} {h : Heap} {mg : Str → Option Value}
theorem bt_of (X : K.In h) (G : h.Ns mainGlobals mg) (c : He.SaysD fa fn K) : Bt mg where
  isinstance_ := He.free_ok X G (c.fact 58 (f := .free "isinstance") rfl)
  str_ := He.free_ok X G (c.fact 59 (f := .free "str") rfl)
  tuple_ := He.free_ok X G (c.fact 60 (f := .free "tuple") rfl)
  len_ := He.free_ok X G (c.fact 61 (f := .free "len") rfl)
  dict_ := He.free_ok X G (c.fact 62 (f := .free "dict") rfl)
  range_ := He.free_ok X G (c.fact 63 (f := .free "range") rfl)
  list_ := He.free_ok X G (c.fact 64 (f := .free "list") rfl)
  min_ := He.free_ok X G (c.fact 65 (f := .free "min") rfl)
  sorted_ := He.free_ok X G (c.fact 66 (f := .free "sorted") rfl)
  all_ := He.free_ok X G (c.fact 67 (f := .free "all") rfl)
  set_ := He.free_ok X G (c.fact 68 (f := .free "set") rfl)
  any_ := He.free_ok X G (c.fact 69 (f := .free "any") rfl)
  enumerate_ := He.free_ok X G (c.fact 70 (f := .free "enumerate") rfl)
  int_ := He.free_ok X G (c.fact 71 (f := .free "int") rfl)
  bool_ := He.free_ok X G (c.fact 72 (f := .free "bool") rfl)
theorem df_value_key (X : K.In h) (G : h.Ns mainGlobals mg) (c : He.SaysD fa fn K) : Def' K mg "value_key" st_value_key := by
  obtain ⟨fd, F⟩ := c.def_ 0 (d := d_value_key) rfl
  exact ⟨⟨_, fd, F, He.glo_ok X G (c.fact 0 (f := .glo "value_key") rfl)⟩⟩
theorem df_put_term (X : K.In h) (G : h.Ns mainGlobals mg) (c : He.SaysD fa fn K) : Def' K mg "put_term" st_put_term := by
  obtain ⟨fd, F⟩ := c.def_ 1 (d := d_put_term) rfl
  exact ⟨⟨_, fd, F, He.glo_ok X G (c.fact 1 (f := .glo "put_term") rfl)⟩⟩
theorem df_put_terms (X : K.In h) (G : h.Ns mainGlobals mg) (c : He.SaysD fa fn K) : Def' K mg "put_terms" st_put_terms := by
  obtain ⟨fd, F⟩ := c.def_ 2 (d := d_put_terms) rfl
  exact ⟨⟨_, fd, F, He.glo_ok X G (c.fact 2 (f := .glo "put_terms") rfl)⟩⟩
theorem df_extended (X : K.In h) (G : h.Ns mainGlobals mg) (c : He.SaysD fa fn K) : Def' K mg "extended" st_extended := by
  obtain ⟨fd, F⟩ := c.def_ 3 (d := d_extended) rfl
  exact ⟨⟨_, fd, F, He.glo_ok X G (c.fact 3 (f := .glo "extended") rfl)⟩⟩
theorem df_term_key (X : K.In h) (G : h.Ns mainGlobals mg) (c : He.SaysD fa fn K) : Def' K mg "term_key" st_term_key := by
  obtain ⟨fd, F⟩ := c.def_ 5 (d := d_term_key) rfl
  exact ⟨⟨_, fd, F, He.glo_ok X G (c.fact 5 (f := .glo "term_key") rfl)⟩⟩
theorem df_map_key (X : K.In h) (G : h.Ns mainGlobals mg) (c : He.SaysD fa fn K) : Def' K mg "map_key" st_map_key := by
  obtain ⟨fd, F⟩ := c.def_ 6 (d := d_map_key) rfl
  exact ⟨⟨_, fd, F, He.glo_ok X G (c.fact 6 (f := .glo "map_key") rfl)⟩⟩
theorem df_image (X : K.In h) (G : h.Ns mainGlobals mg) (c : He.SaysD fa fn K) : Def' K mg "image" st_image := by
  obtain ⟨fd, F⟩ := c.def_ 8 (d := d_image) rfl
  exact ⟨⟨_, fd, F, He.glo_ok X G (c.fact 8 (f := .glo "image") rfl)⟩⟩
theorem df_is_part (X : K.In h) (G : h.Ns mainGlobals mg) (c : He.SaysD fa fn K) : Def' K mg "is_part" st_is_part := by
  obtain ⟨fd, F⟩ := c.def_ 9 (d := d_is_part) rfl
  exact ⟨⟨_, fd, F, He.glo_ok X G (c.fact 9 (f := .glo "is_part") rfl)⟩⟩
theorem df_distinct (X : K.In h) (G : h.Ns mainGlobals mg) (c : He.SaysD fa fn K) : Def' K mg "distinct" st_distinct := by
  obtain ⟨fd, F⟩ := c.def_ 15 (d := d_distinct) rfl
  exact ⟨⟨_, fd, F, He.glo_ok X G (c.fact 15 (f := .glo "distinct") rfl)⟩⟩
theorem df_fits (X : K.In h) (G : h.Ns mainGlobals mg) (c : He.SaysD fa fn K) : Def' K mg "fits" st_fits := by
  obtain ⟨fd, F⟩ := c.def_ 11 (d := d_fits) rfl
  exact ⟨⟨_, fd, F, He.glo_ok X G (c.fact 11 (f := .glo "fits") rfl)⟩⟩
theorem df_matchings (X : K.In h) (G : h.Ns mainGlobals mg) (c : He.SaysD fa fn K) : Def' K mg "matchings" st_matchings := by
  obtain ⟨fd, F⟩ := c.def_ 7 (d := d_matchings) rfl
  exact ⟨⟨_, fd, F, He.glo_ok X G (c.fact 7 (f := .glo "matchings") rfl)⟩⟩
theorem df_entry_of (X : K.In h) (G : h.Ns mainGlobals mg) (c : He.SaysD fa fn K) : Def' K mg "entry_of" st_entry_of := by
  obtain ⟨fd, F⟩ := c.def_ 14 (d := d_entry_of) rfl
  exact ⟨⟨_, fd, F, He.glo_ok X G (c.fact 14 (f := .glo "entry_of") rfl)⟩⟩
theorem df_smaller (X : K.In h) (G : h.Ns mainGlobals mg) (c : He.SaysD fa fn K) : Def' K mg "smaller" st_smaller := by
  obtain ⟨fd, F⟩ := c.def_ 16 (d := d_smaller) rfl
  exact ⟨⟨_, fd, F, He.glo_ok X G (c.fact 16 (f := .glo "smaller") rfl)⟩⟩
theorem df_core_of (X : K.In h) (G : h.Ns mainGlobals mg) (c : He.SaysD fa fn K) : Def' K mg "core_of" st_core_of := by
  obtain ⟨fd, F⟩ := c.def_ 17 (d := d_core_of) rfl
  exact ⟨⟨_, fd, F, He.glo_ok X G (c.fact 17 (f := .glo "core_of") rfl)⟩⟩
theorem df_least_question (X : K.In h) (G : h.Ns mainGlobals mg) (c : He.SaysD fa fn K) : Def' K mg "least_question" st_least_question := by
  obtain ⟨fd, F⟩ := c.def_ 18 (d := d_least_question) rfl
  exact ⟨⟨_, fd, F, He.glo_ok X G (c.fact 18 (f := .glo "least_question") rfl)⟩⟩
theorem df_l_put (X : K.In h) (G : h.Ns mainGlobals mg) (c : He.SaysD fa fn K) : Def' K mg "_law_put" st_l_put := by
  obtain ⟨fd, F⟩ := c.def_ 31 (d := d_l_put) rfl
  exact ⟨⟨_, fd, F, He.glo_ok X G (c.fact 31 (f := .glo "_law_put") rfl)⟩⟩
theorem df_l_put_join (X : K.In h) (G : h.Ns mainGlobals mg) (c : He.SaysD fa fn K) : Def' K mg "_law_put_join" st_l_put_join := by
  obtain ⟨fd, F⟩ := c.def_ 32 (d := d_l_put_join) rfl
  exact ⟨⟨_, fd, F, He.glo_ok X G (c.fact 32 (f := .glo "_law_put_join") rfl)⟩⟩
theorem df_l_image (X : K.In h) (G : h.Ns mainGlobals mg) (c : He.SaysD fa fn K) : Def' K mg "_law_image" st_l_image := by
  obtain ⟨fd, F⟩ := c.def_ 40 (d := d_l_image) rfl
  exact ⟨⟨_, fd, F, He.glo_ok X G (c.fact 40 (f := .glo "_law_image") rfl)⟩⟩
theorem df_l_distinct (X : K.In h) (G : h.Ns mainGlobals mg) (c : He.SaysD fa fn K) : Def' K mg "_law_distinct" st_l_distinct := by
  obtain ⟨fd, F⟩ := c.def_ 38 (d := d_l_distinct) rfl
  exact ⟨⟨_, fd, F, He.glo_ok X G (c.fact 38 (f := .glo "_law_distinct") rfl)⟩⟩
theorem df_l_join_variables (X : K.In h) (G : h.Ns mainGlobals mg) (c : He.SaysD fa fn K) : Def' K mg "_law_join_variables" st_l_join_variables := by
  obtain ⟨fd, F⟩ := c.def_ 33 (d := d_l_join_variables) rfl
  exact ⟨⟨_, fd, F, He.glo_ok X G (c.fact 33 (f := .glo "_law_join_variables") rfl)⟩⟩
theorem df_l_bound (X : K.In h) (G : h.Ns mainGlobals mg) (c : He.SaysD fa fn K) : Def' K mg "_law_bound" st_l_bound := by
  obtain ⟨fd, F⟩ := c.def_ 37 (d := d_l_bound) rfl
  exact ⟨⟨_, fd, F, He.glo_ok X G (c.fact 37 (f := .glo "_law_bound") rfl)⟩⟩
theorem df_l_matchings (X : K.In h) (G : h.Ns mainGlobals mg) (c : He.SaysD fa fn K) : Def' K mg "_law_matchings" st_l_matchings := by
  obtain ⟨fd, F⟩ := c.def_ 39 (d := d_l_matchings) rfl
  exact ⟨⟨_, fd, F, He.glo_ok X G (c.fact 39 (f := .glo "_law_matchings") rfl)⟩⟩
theorem df_l_fits (X : K.In h) (G : h.Ns mainGlobals mg) (c : He.SaysD fa fn K) : Def' K mg "_law_fits" st_l_fits := by
  obtain ⟨fd, F⟩ := c.def_ 41 (d := d_l_fits) rfl
  exact ⟨⟨_, fd, F, He.glo_ok X G (c.fact 41 (f := .glo "_law_fits") rfl)⟩⟩
theorem df_l_good_maps (X : K.In h) (G : h.Ns mainGlobals mg) (c : He.SaysD fa fn K) : Def' K mg "_law_good_maps" st_l_good_maps := by
  obtain ⟨fd, F⟩ := c.def_ 42 (d := d_l_good_maps) rfl
  exact ⟨⟨_, fd, F, He.glo_ok X G (c.fact 42 (f := .glo "_law_good_maps") rfl)⟩⟩
theorem df_l_entries (X : K.In h) (G : h.Ns mainGlobals mg) (c : He.SaysD fa fn K) : Def' K mg "_law_entries" st_l_entries := by
  obtain ⟨fd, F⟩ := c.def_ 43 (d := d_l_entries) rfl
  exact ⟨⟨_, fd, F, He.glo_ok X G (c.fact 43 (f := .glo "_law_entries") rfl)⟩⟩
theorem df_l_half_of (X : K.In h) (G : h.Ns mainGlobals mg) (c : He.SaysD fa fn K) : Def' K mg "_law_half_of" st_l_half_of := by
  obtain ⟨fd, F⟩ := c.def_ 45 (d := d_l_half_of) rfl
  exact ⟨⟨_, fd, F, He.glo_ok X G (c.fact 45 (f := .glo "_law_half_of") rfl)⟩⟩
theorem df_l_paper (X : K.In h) (G : h.Ns mainGlobals mg) (c : He.SaysD fa fn K) : Def' K mg "_law_paper" st_l_paper := by
  obtain ⟨fd, F⟩ := c.def_ 46 (d := d_l_paper) rfl
  exact ⟨⟨_, fd, F, He.glo_ok X G (c.fact 46 (f := .glo "_law_paper") rfl)⟩⟩
theorem df_l_same (X : K.In h) (G : h.Ns mainGlobals mg) (c : He.SaysD fa fn K) : Def' K mg "_law_same" st_l_same := by
  obtain ⟨fd, F⟩ := c.def_ 22 (d := d_l_same) rfl
  exact ⟨⟨_, fd, F, He.glo_ok X G (c.fact 22 (f := .glo "_law_same") rfl)⟩⟩
theorem df_l_is_term (X : K.In h) (G : h.Ns mainGlobals mg) (c : He.SaysD fa fn K) : Def' K mg "_law_is_term" st_l_is_term := by
  obtain ⟨fd, F⟩ := c.def_ 53 (d := d_l_is_term) rfl
  exact ⟨⟨_, fd, F, He.glo_ok X G (c.fact 53 (f := .glo "_law_is_term") rfl)⟩⟩
theorem df_l_are_terms (X : K.In h) (G : h.Ns mainGlobals mg) (c : He.SaysD fa fn K) : Def' K mg "_law_are_terms" st_l_are_terms := by
  obtain ⟨fd, F⟩ := c.def_ 54 (d := d_l_are_terms) rfl
  exact ⟨⟨_, fd, F, He.glo_ok X G (c.fact 54 (f := .glo "_law_are_terms") rfl)⟩⟩
theorem df_l_is_join (X : K.In h) (G : h.Ns mainGlobals mg) (c : He.SaysD fa fn K) : Def' K mg "_law_is_join" st_l_is_join := by
  obtain ⟨fd, F⟩ := c.def_ 55 (d := d_l_is_join) rfl
  exact ⟨⟨_, fd, F, He.glo_ok X G (c.fact 55 (f := .glo "_law_is_join") rfl)⟩⟩
theorem df_l_is_question (X : K.In h) (G : h.Ns mainGlobals mg) (c : He.SaysD fa fn K) : Def' K mg "_law_is_question" st_l_is_question := by
  obtain ⟨fd, F⟩ := c.def_ 56 (d := d_l_is_question) rfl
  exact ⟨⟨_, fd, F, He.glo_ok X G (c.fact 56 (f := .glo "_law_is_question") rfl)⟩⟩
theorem df_l_take (X : K.In h) (G : h.Ns mainGlobals mg) (c : He.SaysD fa fn K) : Def' K mg "_law_take" st_l_take := by
  obtain ⟨fd, F⟩ := c.def_ 20 (d := d_l_take) rfl
  exact ⟨⟨_, fd, F, He.glo_ok X G (c.fact 20 (f := .glo "_law_take") rfl)⟩⟩
theorem df_l_pick (X : K.In h) (G : h.Ns mainGlobals mg) (c : He.SaysD fa fn K) : Def' K mg "_law_pick" st_l_pick := by
  obtain ⟨fd, F⟩ := c.def_ 21 (d := d_l_pick) rfl
  exact ⟨⟨_, fd, F, He.glo_ok X G (c.fact 21 (f := .glo "_law_pick") rfl)⟩⟩
theorem df_l_pool (X : K.In h) (G : h.Ns mainGlobals mg) (c : He.SaysD fa fn K) : Def' K mg "_law_pool" st_l_pool := by
  obtain ⟨fd, F⟩ := c.def_ 23 (d := d_l_pool) rfl
  exact ⟨⟨_, fd, F, He.glo_ok X G (c.fact 23 (f := .glo "_law_pool") rfl)⟩⟩
theorem df_l_values (X : K.In h) (G : h.Ns mainGlobals mg) (c : He.SaysD fa fn K) : Def' K mg "_law_values" st_l_values := by
  obtain ⟨fd, F⟩ := c.def_ 24 (d := d_l_values) rfl
  exact ⟨⟨_, fd, F, He.glo_ok X G (c.fact 24 (f := .glo "_law_values") rfl)⟩⟩
theorem df_l_value (X : K.In h) (G : h.Ns mainGlobals mg) (c : He.SaysD fa fn K) : Def' K mg "_law_value" st_l_value := by
  obtain ⟨fd, F⟩ := c.def_ 25 (d := d_l_value) rfl
  exact ⟨⟨_, fd, F, He.glo_ok X G (c.fact 25 (f := .glo "_law_value") rfl)⟩⟩
theorem df_l_world (X : K.In h) (G : h.Ns mainGlobals mg) (c : He.SaysD fa fn K) : Def' K mg "_law_world" st_l_world := by
  obtain ⟨fd, F⟩ := c.def_ 26 (d := d_l_world) rfl
  exact ⟨⟨_, fd, F, He.glo_ok X G (c.fact 26 (f := .glo "_law_world") rfl)⟩⟩
theorem df_l_term (X : K.In h) (G : h.Ns mainGlobals mg) (c : He.SaysD fa fn K) : Def' K mg "_law_term" st_l_term := by
  obtain ⟨fd, F⟩ := c.def_ 27 (d := d_l_term) rfl
  exact ⟨⟨_, fd, F, He.glo_ok X G (c.fact 27 (f := .glo "_law_term") rfl)⟩⟩
theorem df_l_atom (X : K.In h) (G : h.Ns mainGlobals mg) (c : He.SaysD fa fn K) : Def' K mg "_law_atom" st_l_atom := by
  obtain ⟨fd, F⟩ := c.def_ 28 (d := d_l_atom) rfl
  exact ⟨⟨_, fd, F, He.glo_ok X G (c.fact 28 (f := .glo "_law_atom") rfl)⟩⟩
theorem df_l_draws (X : K.In h) (G : h.Ns mainGlobals mg) (c : He.SaysD fa fn K) : Def' K mg "_law_draws" st_l_draws := by
  obtain ⟨fd, F⟩ := c.def_ 19 (d := d_l_draws) rfl
  exact ⟨⟨_, fd, F, He.glo_ok X G (c.fact 19 (f := .glo "_law_draws") rfl)⟩⟩
theorem df_l_width (X : K.In h) (G : h.Ns mainGlobals mg) (c : He.SaysD fa fn K) : Def' K mg "_law_width" st_l_width := by
  obtain ⟨fd, F⟩ := c.def_ 47 (d := d_l_width) rfl
  exact ⟨⟨_, fd, F, He.glo_ok X G (c.fact 47 (f := .glo "_law_width") rfl)⟩⟩
theorem df_l_join (X : K.In h) (G : h.Ns mainGlobals mg) (c : He.SaysD fa fn K) : Def' K mg "_law_join" st_l_join := by
  obtain ⟨fd, F⟩ := c.def_ 29 (d := d_l_join) rfl
  exact ⟨⟨_, fd, F, He.glo_ok X G (c.fact 29 (f := .glo "_law_join") rfl)⟩⟩
theorem df_l_question (X : K.In h) (G : h.Ns mainGlobals mg) (c : He.SaysD fa fn K) : Def' K mg "_law_question" st_l_question := by
  obtain ⟨fd, F⟩ := c.def_ 30 (d := d_l_question) rfl
  exact ⟨⟨_, fd, F, He.glo_ok X G (c.fact 30 (f := .glo "_law_question") rfl)⟩⟩
theorem df_l_turned_join (X : K.In h) (G : h.Ns mainGlobals mg) (c : He.SaysD fa fn K) : Def' K mg "_law_turned_join" st_l_turned_join := by
  obtain ⟨fd, F⟩ := c.def_ 34 (d := d_l_turned_join) rfl
  exact ⟨⟨_, fd, F, He.glo_ok X G (c.fact 34 (f := .glo "_law_turned_join") rfl)⟩⟩
theorem df_l_near_join (X : K.In h) (G : h.Ns mainGlobals mg) (c : He.SaysD fa fn K) : Def' K mg "_law_near_join" st_l_near_join := by
  obtain ⟨fd, F⟩ := c.def_ 35 (d := d_l_near_join) rfl
  exact ⟨⟨_, fd, F, He.glo_ok X G (c.fact 35 (f := .glo "_law_near_join") rfl)⟩⟩
theorem df_l_near_question (X : K.In h) (G : h.Ns mainGlobals mg) (c : He.SaysD fa fn K) : Def' K mg "_law_near_question" st_l_near_question := by
  obtain ⟨fd, F⟩ := c.def_ 36 (d := d_l_near_question) rfl
  exact ⟨⟨_, fd, F, He.glo_ok X G (c.fact 36 (f := .glo "_law_near_question") rfl)⟩⟩
theorem df_l_near (X : K.In h) (G : h.Ns mainGlobals mg) (c : He.SaysD fa fn K) : Def' K mg "_law_near" st_l_near := by
  obtain ⟨fd, F⟩ := c.def_ 50 (d := d_l_near) rfl
  exact ⟨⟨_, fd, F, He.glo_ok X G (c.fact 50 (f := .glo "_law_near") rfl)⟩⟩
theorem df_l_weaker (X : K.In h) (G : h.Ns mainGlobals mg) (c : He.SaysD fa fn K) : Def' K mg "_law_weaker" st_l_weaker := by
  obtain ⟨fd, F⟩ := c.def_ 48 (d := d_l_weaker) rfl
  exact ⟨⟨_, fd, F, He.glo_ok X G (c.fact 48 (f := .glo "_law_weaker") rfl)⟩⟩
theorem df_l_equal (X : K.In h) (G : h.Ns mainGlobals mg) (c : He.SaysD fa fn K) : Def' K mg "_law_equal" st_l_equal := by
  obtain ⟨fd, F⟩ := c.def_ 49 (d := d_l_equal) rfl
  exact ⟨⟨_, fd, F, He.glo_ok X G (c.fact 49 (f := .glo "_law_equal") rfl)⟩⟩
theorem df_l_two (X : K.In h) (G : h.Ns mainGlobals mg) (c : He.SaysD fa fn K) : Def' K mg "_law_two" st_l_two := by
  obtain ⟨fd, F⟩ := c.def_ 51 (d := d_l_two) rfl
  exact ⟨⟨_, fd, F, He.glo_ok X G (c.fact 51 (f := .glo "_law_two") rfl)⟩⟩
theorem df_l_two_long (X : K.In h) (G : h.Ns mainGlobals mg) (c : He.SaysD fa fn K) : Def' K mg "_law_two_long" st_l_two_long := by
  obtain ⟨fd, F⟩ := c.def_ 52 (d := d_l_two_long) rfl
  exact ⟨⟨_, fd, F, He.glo_ok X G (c.fact 52 (f := .glo "_law_two_long") rfl)⟩⟩
theorem dc_ordered_atoms (X : K.In h) (G : h.Ns mainGlobals mg) (c : He.SaysD fa fn K) : DefC K mg "ordered_atoms" st_ordered_atoms (He.codeOf K ("ordered_atoms", none)) := by
  obtain ⟨fd, F⟩ := c.def_ 4 (d := d_ordered_atoms) rfl
  refine ⟨⟨_, fd, F, He.glo_ok X G (c.fact 4 (f := .glo "ordered_atoms") rfl), ?_⟩⟩
  obtain ⟨oc, od, dV, kV, doc, pm, an, cdv, ct, osl, rfl, lk, hcd, _, _⟩ := F.ex
  obtain ⟨c0, rfl⟩ := He.codeIn_ref hcd
  have e := He.codeOf_eq (p := ("ordered_atoms", none)) (c := c0) lk rfl
  rw [e]
end
theorem law_ok {P : Program} {w : World} {K : PySem.W.Frag} {h base : Heap} {mg : Str → Option Value} {f : Addr} {fd : FuncData} {P0 : Addr} (X : K.In h) (G : h.Ns mainGlobals mg) (c : He.SaysD fa fn K)
    (TB : TabB base mg (He.codeOf K ("ordered_atoms", none)) P0) (F : FnP K "law" st_l_law f fd) : FnOk P w K mg base CX0 10 f fd ["_law_script"] (spLaw K P0) := by
  have B := bt_of X G c
  have C_value_key : Cal P w K mg base 1 "value_key" spVk [] := ok_value_key (df_value_key X G c) B
  have C_put_term : Cal P w K mg base 1 "put_term" spPt [] := ok_put_term (df_put_term X G c) B
  have C_put_terms : Cal P w K mg base 2 "put_terms" spPts [] := ok_put_terms (df_put_terms X G c) B C_put_term
  have C_extended : Cal P w K mg base 1 "extended" spEx [] := ok_extended (df_extended X G c) B
  have C_term_key : Cal P w K mg base 2 "term_key" spTk [] := ok_term_key (df_term_key X G c) B C_value_key
  have C_map_key : Cal P w K mg base 3 "map_key" spMk [] := ok_map_key (df_map_key X G c) B C_term_key
  have C_image : Cal P w K mg base 3 "image" spIm [] := ok_image (df_image X G c) B C_put_terms
  have C_is_part : Cal P w K mg base 1 "is_part" spPa [] := ok_is_part (df_is_part X G c) B
  have C_distinct : Cal P w K mg base 1 "distinct" spDi [] := ok_distinct (df_distinct X G c) B
  have C_fits : Cal P w K mg base 4 "fits" spFi [] := ok_fits (df_fits X G c) B C_image C_is_part
  have C_ordered_atoms : Cal P w K mg base 3 "ordered_atoms" (spOa P0) [] := ok_ordered_atoms (dc_ordered_atoms X G c) B TB
  have C_matchings : Cal P w K mg base 6 "matchings" (spMt P0) [] := ok_matchings (df_matchings X G c) B C_extended C_ordered_atoms C_map_key
  have C_entry_of : Cal P w K mg base 7 "entry_of" (spEn P0) [] := ok_entry_of (df_entry_of X G c) B C_matchings C_fits
  have C_smaller : Cal P w K mg base 7 "smaller" (spSm P0) [] := ok_smaller (df_smaller X G c) B C_matchings C_image C_distinct
  have C_core_of : Cal P w K mg base 8 "core_of" (spCo P0) [] := ok_core_of (df_core_of X G c) B C_smaller C_distinct
  have C_least_question : Cal P w K mg base 9 "least_question" (spLq P0) [] := ok_least_question (df_least_question X G c) B C_entry_of C_core_of
  have C_l_put : Cal P w K mg base 1 "_law_put" spLp [] := ok_l_put (df_l_put X G c) B
  have C_l_put_join : Cal P w K mg base 2 "_law_put_join" spLpj [] := ok_l_put_join (df_l_put_join X G c) B C_l_put
  have C_l_image : Cal P w K mg base 3 "_law_image" spLim [] := ok_l_image (df_l_image X G c) B C_l_put_join
  have C_l_distinct : Cal P w K mg base 1 "_law_distinct" spLdi [] := ok_l_distinct (df_l_distinct X G c) B
  have C_l_join_variables : Cal P w K mg base 1 "_law_join_variables" spLjv [] := ok_l_join_variables (df_l_join_variables X G c) B
  have C_l_bound : Cal P w K mg base 1 "_law_bound" spLbd [] := ok_l_bound (df_l_bound X G c) B
  have C_l_matchings : Cal P w K mg base 2 "_law_matchings" spLmt [] := ok_l_matchings (df_l_matchings X G c) B C_l_bound C_l_distinct
  have C_l_fits : Cal P w K mg base 4 "_law_fits" spLfi [] := ok_l_fits (df_l_fits X G c) B C_l_image
  have C_l_good_maps : Cal P w K mg base 5 "_law_good_maps" spLgm [] := ok_l_good_maps (df_l_good_maps X G c) B C_l_matchings C_l_fits
  have C_l_entries : Cal P w K mg base 6 "_law_entries" spLes [] := ok_l_entries (df_l_entries X G c) B C_l_good_maps
  have C_l_half_of : Cal P w K mg base 7 "_law_half_of" spLho [] := ok_l_half_of (df_l_half_of X G c) B C_l_entries
  have C_l_paper : Cal P w K mg base 8 "_law_paper" spLpa [] := ok_l_paper (df_l_paper X G c) B C_l_good_maps C_l_half_of
  have C_l_same : Cal P w K mg base 1 "_law_same" spLsa [] := ok_l_same (df_l_same X G c) B
  have C_l_is_term : Cal P w K mg base 1 "_law_is_term" spLit [] := ok_l_is_term (df_l_is_term X G c) B
  have C_l_are_terms : Cal P w K mg base 2 "_law_are_terms" spLat [] := ok_l_are_terms (df_l_are_terms X G c) B C_l_is_term
  have C_l_is_join : Cal P w K mg base 3 "_law_is_join" spLij [] := ok_l_is_join (df_l_is_join X G c) B C_l_is_term C_l_are_terms C_l_join_variables
  have C_l_is_question : Cal P w K mg base 4 "_law_is_question" spLiq [] := ok_l_is_question (df_l_is_question X G c) B C_l_same C_l_is_join
  have C_l_take : Cal P w K mg base 1 "_law_take" spTak [] := ok_l_take (df_l_take X G c) B
  have C_l_pick : Cal P w K mg base 2 "_law_pick" spPk [] := ok_l_pick (df_l_pick X G c) B C_l_take
  have C_l_pool : Cal P w K mg base 2 "_law_pool" spPo [] := ok_l_pool (df_l_pool X G c) B C_l_take
  have C_l_values : Cal P w K mg base 2 "_law_values" spVs [] := ok_l_values (df_l_values X G c) B C_l_take
  have C_l_value : Cal P w K mg base 2 "_law_value" spVl [] := ok_l_value (df_l_value X G c) B C_l_take
  have C_l_world : Cal P w K mg base 3 "_law_world" spWo [] := ok_l_world (df_l_world X G c) B C_l_pool C_l_values
  have C_l_term : Cal P w K mg base 3 "_law_term" spTe [] := ok_l_term (df_l_term X G c) B C_l_take C_l_pick C_l_value
  have C_l_atom : Cal P w K mg base 4 "_law_atom" spAt [] := ok_l_atom (df_l_atom X G c) B C_l_take C_l_term
  have C_l_draws : Cal P w K mg base 1 "_law_draws" (spDw K) [] := ok_l_draws (df_l_draws X G c) B
  have C_l_width : Cal P w K mg base 2 "_law_width" spWi [] := ok_l_width (df_l_width X G c) B C_l_take
  have C_l_join : Cal P w K mg base 5 "_law_join" spJo [] := ok_l_join (df_l_join X G c) B C_l_take C_l_pick C_l_value C_l_atom
  have C_l_question : Cal P w K mg base 6 "_law_question" spQu [] := ok_l_question (df_l_question X G c) B C_l_take C_l_join
  have C_l_turned_join : Cal P w K mg base 3 "_law_turned_join" spTj [] := ok_l_turned_join (df_l_turned_join X G c) B C_l_take C_l_pool C_l_join_variables C_l_put_join
  have C_l_near_join : Cal P w K mg base 5 "_law_near_join" spNj [] := ok_l_near_join (df_l_near_join X G c) B C_l_take C_l_pick C_l_term C_l_atom C_l_join_variables C_l_put_join C_l_turned_join
  have C_l_near_question : Cal P w K mg base 6 "_law_near_question" spNq [] := ok_l_near_question (df_l_near_question X G c) B C_l_take C_l_near_join
  have C_l_near : Cal P w K mg base 7 "_law_near" spNr [] := ok_l_near (df_l_near X G c) B C_l_near_question
  have C_l_weaker : Cal P w K mg base 5 "_law_weaker" spWk [] := ok_l_weaker (df_l_weaker X G c) B C_l_take C_l_pick C_l_term C_l_atom C_l_join_variables C_l_put_join C_l_bound
  have C_l_equal : Cal P w K mg base 6 "_law_equal" spEl [] := ok_l_equal (df_l_equal X G c) B C_l_take C_l_turned_join C_l_weaker
  have C_l_two : Cal P w K mg base 8 "_law_two" (spTw 3) [] := ok_l_two (df_l_two X G c) B C_l_take C_l_width C_l_question C_l_join C_l_equal C_l_near
  have C_l_two_long : Cal P w K mg base 9 "_law_two_long" (spTw 6) [] := ok_l_two_long (df_l_two_long X G c) B C_l_take C_l_value C_l_two
  exact ok_l_law F B C_l_draws C_l_world C_l_pick C_l_two_long C_least_question C_l_is_question C_l_paper
theorem facts {w : World} {K : PySem.W.Frag} {h : Heap} {mg : Str → Option Value} {f : Addr} (X : K.In h) (G : h.Ns mainGlobals mg) (hfa : mg ("law" : Str) = some (.ref f)) (c : He.SaysX fa fn [] tfs (fun _ => true) w h K) :
    LamX.LawAtS PySem.Challenge.rw_anyworth_k75_whole_equal_questions_alike w K CX0 10 63 "_law_script" mg f h := by
  have cd := c.t.d
  obtain ⟨fd, F⟩ := cd.def_ 57 (d := d_l_law) rfl
  have e := hfa.symm.trans (He.glo_ok X G (cd.fact 57 (f := .glo "law") rfl))
  cases e
  have b := FunD.bindsA (ps := ["_law_script"]) F fun _ _ _ _ _ _ us hl => match us, hl with | [_], _ => rfl
  have mem : ∀ {p : Addr × Addr}, p ∈ [He.cT K ("ordered_atoms", none)] → p = He.cT K ("ordered_atoms", none) := fun hp => List.mem_singleton.mp hp
  have m0 : (("ordered_atoms", none) : He.Defn) ∈ tfs := List.mem_singleton.mpr rfl
  refine ⟨fd, [He.cT K ("ordered_atoms", none)], spLaw K (He.cT K ("ordered_atoms", none)).2, fun p hp => ?_, fun p hp => ?_, fun p hp => ?_, fun s v => b s [v] rfl, fun H a ns hl _ hT hS => ?_, fun base _ _ hTB => ?_⟩
  · rw [mem hp]
    exact c.empty _ m0
  · rw [mem hp]
    exact c.out _ m0
  · rw [mem hp]
    exact PySem.W.codeHd_of_K X (c.hd _ m0)
  · exact ⟨a, ns, rfl, hS, Nat.le_trans hl (by decide), hT _ (List.mem_singleton.mpr rfl), fun _ => rfl⟩
  · exact law_ok X G cd (hTB _ (List.mem_singleton.mpr rfl)) F
end Aw
open PySem PySem.W PySem.Calls PyProof.Rows
theorem PySem.Challenge.cw_anyworth_k75_whole_equal_questions_alike_holds : PySem.Challenge.rw_anyworth_k75_whole_equal_questions_alike.Holds := by
  w_on; o_law
  refine HandSHeadRun.head_any (r := OpenLaw.row PySem.Challenge.rw_anyworth_k75_whole_equal_questions_alike) (q := view (OpenLaw.row PySem.Challenge.rw_anyworth_k75_whole_equal_questions_alike).prog [63]) (H := Aw.hk) (ob := Aw.ob) (M := 4000) (loose := Aw.loose) (d := HandSHeadRun.topDef (OpenLaw.row PySem.Challenge.rw_anyworth_k75_whole_equal_questions_alike).prog 63) (kwd := []) Aw.ob_eq
    (by kernel_rfl) (fun s => by kernel_rfl) Aw.run (by kernel_rfl) (by kernel_rfl) (by kernel_rfl) (by rfl) (by first | assumption | decide +kernel) (by decide +kernel) ⟨rfl, rfl, rfl, rfl, rfl, by decide +kernel⟩ ?hw ?hc
  case hw => w_witness2
  case hc =>
    refine LamX.walk_ofTsE (l := PySem.Challenge.rw_anyworth_k75_whole_equal_questions_alike) (n := 63) (k := 10) (x := "_law_script") (CX := fun _ => L2.CX0) rfl (by decide) (by kernel_rfl) ⟨rfl, by decide, by decide⟩ ?F (fun _ _ _ _ _ z => z)
    intro w mg fa h Y G hmg0
    obtain ⟨K, KX, c⟩ := Y
    have hmg : mg ("law" : PySem.Str) = some (.ref fa) := by
      have e : (HandSHeadRun.topDef (OpenLaw.row PySem.Challenge.rw_anyworth_k75_whole_equal_questions_alike).prog 63).name = ("law" : PySem.Str) := by kernel_rfl
      rw [← e]
      exact hmg0
    exact ⟨K, KX, Aw.facts KX G hmg c⟩

