import PyProof.Rows.All
import Wide.All
import OpenK.AllK
import Wide.FinOn
import HandS.Base
import HandS.Call
import HandS.List
import HandS.Comp
import HandS.Words
import HandS.WordsList
import HandS.Deep
import HandS.IsInst
import HandS.TupAny
import HandS.Text
import HandS.Defaults
import HandS.Iter
import HandS.Flow
import HandS.Exc
import HandS.ExcOwn
import HandS.WordsExc
import HandS.TryOnly
import HandS.ExcIs
import HandS.Walk
import PyProof.StrBlock2
import PyProof.NeKinds
import HandS.More
import HandS.Dict
import HandS.HeadHook1
import HandS.HeadHook2
import HandS.HeadHook3
import HandS.HeadHook4
import KE.KDictWalk
import KE.KDictKeyed
import KE.KeyNested
import Wide.Once
import HandS.TryMany
import HandS.TupLen
import HandS.Zip
import HandS.Conv
import HandS.SortInts
import HandS.ExcInit
import HandS.ExcField
import HandS.ClsMeth
import KE.KExcIs
import KE.SortKeyHeap
import HandS.SortKw
import HandS.GenList
import HandS.Lambda
import HandS.Nested
import HandS.EndTab
import HandS.HeadEnd
import HandS.TupMul
import HandS.SetFor
import HandS.Strs
import KE.SortData
import HandS.Sort
import HandS.WordsDict
import HandS.TupLe
import HandS.Replace
import HandS.Head0
import HandS.Head1
import HandS.Head2
import KE.GoesComp
import PySem.Challenge.RW_alikeboard_k21_book
set_option Elab.async false
set_option linter.all false
set_option maxRecDepth 100000
namespace AB
open PySem PySem.Spec PyProof.Rows L2

/-! ### immutable data: ints, texts, tuples of such -/
inductive Da where
  | int (i : Int)
  | str (s : Str)
  | tup (l : List Da)

mutual
def Da.py : Da → PyData
  | .int i => .int i
  | .str s => .str s
  | .tup l => .tuple (Da.pys l)
def Da.pys : List Da → List PyData
  | [] => []
  | d :: r => Da.py d :: Da.pys r
end
mutual
def Da.depth : Da → Nat
  | .int _ => 0
  | .str _ => 0
  | .tup l => Da.depths l + 1
def Da.depths : List Da → Nat
  | [] => 0
  | d :: r => max (Da.depth d) (Da.depths r)
end
/-- the texts in it are texts of the model -/
def okS (s : Str) : Bool := s.cps.all (· < 0x110000)
mutual
def Da.ok : Da → Bool
  | .int _ => true
  | .str s => okS s
  | .tup l => Da.oks l
def Da.oks : List Da → Bool
  | [] => true
  | d :: r => Da.ok d && Da.oks r
end
mutual
theorem Da.eqv_iff : ∀ a b : Da, PyData.eqv a.py b.py = true ↔ a = b
  | .int a, .int b => by simp [Da.py, PyData.eqv]
  | .str a, .str b => by simp [Da.py, PyData.eqv]
  | .tup a, .tup b => by
    have h := Da.eqvs_iff a b
    simp only [Da.py, PyData.eqv, h, Da.tup.injEq]
  | .int _, .str _ => by simp [Da.py, PyData.eqv]
  | .int _, .tup _ => by simp [Da.py, PyData.eqv]
  | .str _, .int _ => by simp [Da.py, PyData.eqv]
  | .str _, .tup _ => by simp [Da.py, PyData.eqv]
  | .tup _, .int _ => by simp [Da.py, PyData.eqv]
  | .tup _, .str _ => by simp [Da.py, PyData.eqv]
theorem Da.eqvs_iff : ∀ a b : List Da, PyData.eqvAll (Da.pys a) (Da.pys b) = true ↔ a = b
  | [], [] => by simp [Da.pys, PyData.eqvAll]
  | [], _ :: _ => by simp [Da.pys, PyData.eqvAll]
  | _ :: _, [] => by simp [Da.pys, PyData.eqvAll]
  | a :: as, b :: bs => by
    have h1 := Da.eqv_iff a b
    have h2 := Da.eqvs_iff as bs
    simp only [Da.pys, PyData.eqvAll, Bool.and_eq_true, h1, h2, List.cons.injEq]
end
instance : DecidableEq Da := fun a b => if h : PyData.eqv a.py b.py = true then .isTrue ((Da.eqv_iff a b).mp h) else .isFalse fun e => h ((Da.eqv_iff a b).mpr e)
theorem Da.eqv_dec (a b : Da) : PyData.eqv a.py b.py = decide (a = b) := by
  by_cases h : a = b
  · rw [decide_eq_true h]; exact (Da.eqv_iff a b).mpr h
  · rw [decide_eq_false h]
    cases e : PyData.eqv a.py b.py with
    | false => rfl
    | true => exact absurd ((Da.eqv_iff a b).mp e) h
mutual
theorem Da.py_depth : ∀ a : Da, a.py.depth = a.depth
  | .int _ => by simp [Da.py, PyData.depth, Da.depth]
  | .str _ => by simp [Da.py, PyData.depth, Da.depth]
  | .tup l => by
    have h := Da.pys_depth l
    simp [Da.py, PyData.depth, Da.depth, h]
theorem Da.pys_depth : ∀ l : List Da, PyData.depthAll (Da.pys l) = Da.depths l
  | [] => by simp [Da.pys, PyData.depthAll, Da.depths]
  | d :: r => by simp [Da.pys, PyData.depthAll, Da.depths, Da.py_depth d, Da.pys_depth r]
end
mutual
theorem Da.py_lay : ∀ a : Da, a.py.canLay0 = a.ok
  | .int _ => by simp [Da.py, PyData.canLay0, Da.ok]
  | .str _ => by simp [Da.py, PyData.canLay0, Da.ok, okS, PyData.strOk]
  | .tup l => by
    have h := Da.pys_lay l
    simp [Da.py, PyData.canLay0, Da.ok, h]
theorem Da.pys_lay : ∀ l : List Da, PyData.canLayAll0 (Da.pys l) = Da.oks l
  | [] => by simp [Da.pys, PyData.canLayAll0, Da.oks]
  | d :: r => by simp [Da.pys, PyData.canLayAll0, Da.oks, Da.py_lay d, Da.pys_lay r]
end
theorem Da.shaped {a : Da} (h : a.ok = true) (h2 : a.depth ≤ 64) : SeqAt.shaped a.py = true := by
  unfold SeqAt.shaped
  rw [Da.py_lay, Da.py_depth, h, decide_eq_true h2]; rfl
theorem Da.oks_mem : ∀ {l : List Da} {d : Da}, Da.oks l = true → d ∈ l → d.ok = true
  | [], _, _, h => by cases h
  | x :: r, d, h, hm => by
    simp only [Da.oks, Bool.and_eq_true] at h
    rcases List.mem_cons.mp hm with rfl | hm
    · exact h.1
    · exact Da.oks_mem h.2 hm
theorem Da.oks_of : ∀ {l : List Da}, (∀ d ∈ l, d.ok = true) → Da.oks l = true
  | [], _ => rfl
  | x :: r, h => by
    simp only [Da.oks, Bool.and_eq_true]
    exact ⟨h x (by simp), Da.oks_of fun d hd => h d (by simp [hd])⟩
theorem Da.depths_le : ∀ {l : List Da} {n : Nat}, Da.depths l ≤ n ↔ ∀ d ∈ l, d.depth ≤ n
  | [], n => by simp [Da.depths]
  | x :: r, n => by
    have h := Da.depths_le (l := r) (n := n)
    simp only [Da.depths, List.mem_cons, forall_eq_or_imp, ← h]
    omega

/-! ### where such data stands -/
mutual
def DaAt (H : Hp) : V → Da → Prop
  | v, .int i => v = .int i
  | v, .str s => v = .str s
  | v, .tup l => ∃ a vs, v = .ref a ∧ H a = some (.tup vs) ∧ DasAt H vs l
def DasAt (H : Hp) : List V → List Da → Prop
  | vs, [] => vs = []
  | vs, d :: ds => ∃ v r, vs = v :: r ∧ DaAt H v d ∧ DasAt H r ds
end
/-- what never changes: tuples, what is locked -/
def Im : HO → Prop
  | .tup _ => True
  | .frz _ _ => True
  | _ => False
/-- the unchanging stands -/
def TX (H H' : Hp) : Prop := ∀ a o, Im o → H a = some o → H' a = some o
theorem TX.tup {H H' : Hp} (t : TX H H') {a : Addr} {xs : List V} (h : H a = some (.tup xs)) : H' a = some (.tup xs) := t a _ trivial h
theorem TX.frz {H H' : Hp} (t : TX H H') {a : Addr} {o : Obj} {u : HO} (h : H a = some (.frz o u)) : H' a = some (.frz o u) := t a _ trivial h
theorem TX.refl (H : Hp) : TX H H := fun _ _ _ h => h
theorem TX.trans {H H1 H2 : Hp} (a : TX H H1) (b : TX H1 H2) : TX H H2 := fun p o i h => b p o i (a p o i h)
theorem TX.of_same {H H' : Hp} (s : Same H H') : TX H H' := fun a _ _ h => s a _ h
theorem TX.new {H : Hp} {p : Addr} {o : HO} (h : H p = none) : TX H (upd H p o) := fun a u _ e => by
  rw [upd_ne (ne_of_none e h)]; exact e
theorem TX.put {H : Hp} {p : Addr} {o u : HO} (h : H p = some u) (hu : ¬ Im u) : TX H (upd H p o) := fun a w i e => by
  rw [upd_ne (ne_of e h (fun z => hu (z ▸ i)))]; exact e
theorem TX.lst {H : Hp} {p : Addr} {o : HO} {xs : List V} (h : H p = some (.lst xs)) : TX H (upd H p o) := TX.put h (fun z => z)
theorem same_new {H : Hp} {p : Addr} (h : H p = none) (o : HO) : Same H (upd H p o) := fun b u q => by rw [upd_ne (ne_of_none q h)]; exact q
/-- what was not tracked ahead may be written -/
theorem same_put {H H' : Hp} {p : Addr} (s : Same H H') (h : H p = none) (o : HO) : Same H (upd H' p o) := fun b u q => by rw [upd_ne (ne_of_none q h)]; exact s b u q
theorem same_nw {H H' : Hp} {p : Addr} (s : Same H H') (h : H' p = none) (o : HO) : Same H (upd H' p o) := s.trans (same_new h o)
mutual
theorem DaAt.mono {H H' : Hp} (t : TX H H') : ∀ {d : Da} {v : V}, DaAt H v d → DaAt H' v d
  | .int _, _, h => by simp only [DaAt] at h ⊢; exact h
  | .str _, _, h => by simp only [DaAt] at h ⊢; exact h
  | .tup l, v, h => by
    simp only [DaAt] at h ⊢
    obtain ⟨a, vs, e, h1, h2⟩ := h
    exact ⟨a, vs, e, t.tup h1, DasAt.mono t h2⟩
theorem DasAt.mono {H H' : Hp} (t : TX H H') : ∀ {ds : List Da} {vs : List V}, DasAt H vs ds → DasAt H' vs ds
  | [], _, h => by simp only [DasAt] at h ⊢; exact h
  | d :: ds, vs, h => by
    simp only [DasAt] at h ⊢
    obtain ⟨v, r, e, h1, h2⟩ := h
    exact ⟨v, r, e, DaAt.mono t h1, DasAt.mono t h2⟩
end
theorem DaAt.int {H : Hp} {i : Int} : DaAt H (.int i) (.int i) := by simp only [DaAt]
theorem DaAt.str {H : Hp} {s : Str} : DaAt H (.str s) (.str s) := by simp only [DaAt]
theorem DaAt.tup {H : Hp} {a : Addr} {vs : List V} {l : List Da} (h : H a = some (.tup vs)) (r : DasAt H vs l) : DaAt H (.ref a) (.tup l) := by
  simp only [DaAt]; exact ⟨a, vs, rfl, h, r⟩
theorem DaAt.tup_inv {H : Hp} {v : V} {l : List Da} (h : DaAt H v (.tup l)) : ∃ a vs, v = .ref a ∧ H a = some (.tup vs) ∧ DasAt H vs l := by simpa only [DaAt] using h
theorem DaAt.int_inv {H : Hp} {v : V} {i : Int} (h : DaAt H v (.int i)) : v = .int i := by simpa only [DaAt] using h
theorem DaAt.str_inv {H : Hp} {v : V} {s : Str} (h : DaAt H v (.str s)) : v = .str s := by simpa only [DaAt] using h
theorem DasAt.nil {H : Hp} : DasAt H [] [] := by simp only [DasAt]
theorem DasAt.cons {H : Hp} {v : V} {vs : List V} {d : Da} {ds : List Da} (h : DaAt H v d) (r : DasAt H vs ds) : DasAt H (v :: vs) (d :: ds) := by
  simp only [DasAt]; exact ⟨v, vs, rfl, h, r⟩
theorem DasAt.one {H : Hp} {v : V} {d : Da} (h : DaAt H v d) : DasAt H [v] [d] := .cons h .nil
theorem DasAt.nil_inv {H : Hp} {vs : List V} (h : DasAt H vs []) : vs = [] := by simpa only [DasAt] using h
theorem DasAt.cons_inv {H : Hp} {vs : List V} {d : Da} {ds : List Da} (h : DasAt H vs (d :: ds)) : ∃ v r, vs = v :: r ∧ DaAt H v d ∧ DasAt H r ds := by simpa only [DasAt] using h
theorem DasAt.length {H : Hp} : ∀ {ds : List Da} {vs : List V}, DasAt H vs ds → vs.length = ds.length
  | [], _, h => by rw [h.nil_inv]; rfl
  | d :: ds, _, h => by
    obtain ⟨v, r, rfl, _, h2⟩ := h.cons_inv
    simp [DasAt.length h2]
theorem DasAt.append {H : Hp} : ∀ {ds es : List Da} {vs ws : List V}, DasAt H vs ds → DasAt H ws es → DasAt H (vs ++ ws) (ds ++ es)
  | [], _, _, _, h, h2 => by rw [h.nil_inv]; exact h2
  | d :: ds, es, _, ws, h, h2 => by
    obtain ⟨v, r, rfl, h1, h3⟩ := h.cons_inv
    exact .cons h1 (DasAt.append h3 h2)
theorem DasAt.get {H : Hp} : ∀ {ds : List Da} {vs : List V} {i : Nat} {d : Da}, DasAt H vs ds → ds[i]? = some d → ∃ v, vs[i]? = some v ∧ DaAt H v d
  | [], _, _, _, _, e => by simp at e
  | d :: ds, _, 0, _, h, e => by
    obtain ⟨v, r, rfl, h1, h2⟩ := h.cons_inv
    simp at e; subst e
    exact ⟨v, rfl, h1⟩
  | d :: ds, _, i + 1, x, h, e => by
    obtain ⟨v, r, rfl, h1, h2⟩ := h.cons_inv
    obtain ⟨u, h3, h4⟩ := DasAt.get (i := i) h2 (by simpa using e)
    exact ⟨u, by simpa using h3, h4⟩
theorem DasAt.at {H : Hp} {ds : List Da} {vs : List V} {i : Nat} {v : V} (h : DasAt H vs ds) (e : vs[i]? = some v) : ∃ d, ds[i]? = some d ∧ DaAt H v d := by
  have hl := h.length
  obtain ⟨hi, _⟩ := List.getElem?_eq_some_iff.mp e
  obtain ⟨u, h1, h2⟩ := h.get (i := i) (d := ds[i]'(by omega)) (List.getElem?_eq_getElem _)
  rw [e] at h1; cases h1
  exact ⟨_, List.getElem?_eq_getElem _, h2⟩
theorem DasAt.take {H : Hp} : ∀ {ds : List Da} {vs : List V} (n : Nat), DasAt H vs ds → DasAt H (vs.take n) (ds.take n)
  | _, _, 0, _ => by simpa using DasAt.nil
  | [], _, n + 1, h => by rw [h.nil_inv]; simpa using DasAt.nil
  | d :: ds, _, n + 1, h => by
    obtain ⟨v, r, rfl, h1, h2⟩ := h.cons_inv
    simpa using DasAt.cons h1 (DasAt.take n h2)
theorem DasAt.drop {H : Hp} : ∀ {ds : List Da} {vs : List V} (n : Nat), DasAt H vs ds → DasAt H (vs.drop n) (ds.drop n)
  | _, _, 0, h => by simpa using h
  | [], _, n + 1, h => by rw [h.nil_inv]; simpa using DasAt.nil
  | d :: ds, _, n + 1, h => by
    obtain ⟨v, r, rfl, h1, h2⟩ := h.cons_inv
    simpa using DasAt.drop n h2
mutual
theorem DaAt.dp {K : PySem.W.Frag} {H : Hp} : ∀ {d : Da} {v : V}, DaAt H v d → Dp K H v d.py
  | .int i, v, h => by rw [h.int_inv]; simp only [Da.py]; exact .int i
  | .str s, v, h => by rw [h.str_inv]; simp only [Da.py]; exact .str s
  | .tup l, v, h => by
    obtain ⟨a, vs, rfl, h1, h2⟩ := h.tup_inv
    simp only [Da.py]
    exact .tup (SqT.of h1) (DasAt.dps h2)
theorem DasAt.dps {K : PySem.W.Frag} {H : Hp} : ∀ {ds : List Da} {vs : List V}, DasAt H vs ds → DpAll K H vs (Da.pys ds)
  | [], _, h => by rw [h.nil_inv]; simp only [Da.pys]; exact .nil
  | d :: ds, _, h => by
    obtain ⟨v, r, rfl, h1, h2⟩ := h.cons_inv
    simp only [Da.pys]
    exact .cons (DaAt.dp h1) (DasAt.dps h2)
end
/-- a list of such data -/
def LD (H : Hp) (a : Addr) (ds : List Da) : Prop := ∃ vs, H a = some (.lst vs) ∧ DasAt H vs ds
theorem LD.sq {K : PySem.W.Frag} {H : Hp} {a : Addr} {ds : List Da} (h : LD H a ds) : ∃ vs, SqL K H a vs ∧ DasAt H vs ds := let ⟨vs, h1, h2⟩ := h; ⟨vs, SqL.of h1, h2⟩
theorem LD.mono {H H' : Hp} {a : Addr} {ds : List Da} (s : Same H H') (h : LD H a ds) : LD H' a ds := let ⟨vs, h1, h2⟩ := h; ⟨vs, s _ _ h1, h2.mono (TX.of_same s)⟩
theorem LD.dp {K : PySem.W.Frag} {H : Hp} {a : Addr} {ds : List Da} (h : LD H a ds) : Dp K H (.ref a) (.list (Da.pys ds)) := let ⟨_, h1, h2⟩ := h; .lst (SqL.of h1) h2.dps
theorem pys_shaped {ds : List Da} (h : Da.oks ds = true) (h2 : Da.depths ds ≤ 63) : SeqAt.shaped (.list (Da.pys ds)) = true := by
  unfold SeqAt.shaped
  simp only [PyData.canLay0, PyData.depth, Da.pys_lay, Da.pys_depth, h, Bool.true_and, decide_eq_true_eq]
  omega
theorem any_pys (d : Da) : ∀ ds : List Da, ((Da.pys ds).any fun z => PyData.eqv z d.py) = decide (d ∈ ds)
  | [] => by simp [Da.pys]
  | x :: r => by
    simp only [Da.pys, List.any_cons, any_pys d r, Da.eqv_dec]
    by_cases h : x = d
    · subst h; simp
    · have h' : ¬ d = x := fun e => h e.symm
      simp [h, h']
theorem pys_eqv (a b : List Da) : PyData.eqvAll (Da.pys a) (Da.pys b) = decide (a = b) := by
  by_cases h : a = b
  · rw [decide_eq_true h]; exact (Da.eqvs_iff a b).mpr h
  · rw [decide_eq_false h]
    cases e : PyData.eqvAll (Da.pys a) (Da.pys b) with
    | false => rfl
    | true => exact absurd ((Da.eqvs_iff a b).mp e) h

/-! ### terms -/
inductive Tm where
  | mk (n : Str) (ps : List Tm)
mutual
def Tm.da : Tm → Da
  | .mk n ps => .tup (.str n :: Tm.das ps)
def Tm.das : List Tm → List Da
  | [] => []
  | t :: r => t.da :: Tm.das r
end
theorem Tm.das_map : ∀ l : List Tm, Tm.das l = l.map Tm.da
  | [] => rfl
  | t :: r => by rw [Tm.das, Tm.das_map r]; rfl
mutual
theorem Tm.da_inj : ∀ a b : Tm, a.da = b.da → a = b
  | .mk n ps, .mk m qs, h => by
    simp only [Tm.da, Da.tup.injEq, List.cons.injEq, Da.str.injEq] at h
    rw [h.1, Tm.das_inj ps qs h.2]
theorem Tm.das_inj : ∀ a b : List Tm, Tm.das a = Tm.das b → a = b
  | [], [], _ => rfl
  | [], _ :: _, h => by simp [Tm.das] at h
  | _ :: _, [], h => by simp [Tm.das] at h
  | a :: as, b :: bs, h => by
    simp only [Tm.das, List.cons.injEq] at h
    rw [Tm.da_inj a b h.1, Tm.das_inj as bs h.2]
end
theorem Tm.da_iff {a b : Tm} : a.da = b.da ↔ a = b := ⟨Tm.da_inj a b, fun e => by rw [e]⟩
instance : DecidableEq Tm := fun a b => if h : a.da = b.da then .isTrue (Tm.da_inj a b h) else .isFalse fun e => h (by rw [e])
def Tm.parts : Tm → List Tm | .mk _ ps => ps
def Tm.name : Tm → Str | .mk n _ => n
mutual
def Tm.depth : Tm → Nat
  | .mk _ ps => Tm.depths ps + 1
def Tm.depths : List Tm → Nat
  | [] => 0
  | t :: r => max t.depth (Tm.depths r)
end
mutual
theorem Tm.da_depth : ∀ t : Tm, t.da.depth = t.depth
  | .mk n ps => by
    have h := Tm.das_depth ps
    simp only [Tm.da, Da.depth, Da.depths, Tm.depth, h]
    omega
theorem Tm.das_depth : ∀ l : List Tm, Da.depths (Tm.das l) = Tm.depths l
  | [] => rfl
  | t :: r => by simp only [Tm.das, Da.depths, Tm.depths, Tm.da_depth t, Tm.das_depth r]
end
theorem Tm.depths_le : ∀ {l : List Tm} {n : Nat}, Tm.depths l ≤ n ↔ ∀ d ∈ l, d.depth ≤ n
  | [], n => by simp [Tm.depths]
  | x :: r, n => by
    have h := Tm.depths_le (l := r) (n := n)
    simp only [Tm.depths, List.mem_cons, forall_eq_or_imp, ← h]
    omega
theorem Tm.parts_depth {t p : Tm} (h : p ∈ t.parts) : p.depth < t.depth := by
  cases t with
  | mk n ps =>
    have h2 := (Tm.depths_le (l := ps) (n := Tm.depths ps)).mp (Nat.le_refl _) p h
    simp only [Tm.depth]
    omega
mutual
def Tm.ok : Tm → Bool
  | .mk n ps => okS n && Tm.oks ps
def Tm.oks : List Tm → Bool
  | [] => true
  | t :: r => t.ok && Tm.oks r
end
mutual
theorem Tm.da_ok : ∀ t : Tm, t.da.ok = t.ok
  | .mk n ps => by
    have h := Tm.das_ok ps
    simp only [Tm.da, Da.ok, Da.oks, Tm.ok, h]
theorem Tm.das_ok : ∀ l : List Tm, Da.oks (Tm.das l) = Tm.oks l
  | [] => rfl
  | t :: r => by simp only [Tm.das, Da.oks, Tm.oks, Tm.da_ok t, Tm.das_ok r]
end
theorem Tm.oks_iff : ∀ {l : List Tm}, Tm.oks l = true ↔ ∀ t ∈ l, t.ok = true
  | [] => by simp [Tm.oks]
  | x :: r => by simp [Tm.oks, Tm.oks_iff (l := r)]
theorem Tm.parts_ok {t p : Tm} (h : t.ok = true) (hp : p ∈ t.parts) : p.ok = true := by
  cases t with
  | mk n ps =>
    simp only [Tm.ok, Bool.and_eq_true] at h
    exact Tm.oks_iff.mp h.2 p hp
theorem Tm.da_eq (t : Tm) : t.da = .tup (.str t.name :: t.parts.map Tm.da) := by
  cases t with
  | mk n ps => simp only [Tm.da, Tm.das_map, Tm.name, Tm.parts]
theorem DaAt.tm {H : Hp} {v : V} {t : Tm} (h : DaAt H v t.da) : ∃ a vs, v = .ref a ∧ H a = some (.tup (.str t.name :: vs)) ∧ DasAt H vs (t.parts.map Tm.da) := by
  rw [Tm.da_eq] at h
  obtain ⟨a, vs, rfl, h1, h2⟩ := h.tup_inv
  obtain ⟨u, r, rfl, h3, h4⟩ := h2.cons_inv
  rw [h3.str_inv] at h1
  exact ⟨a, r, rfl, h1, h4⟩
end AB

set_option Elab.async false
set_option linter.all false
set_option maxRecDepth 100000
namespace AB
open PySem PySem.Spec PyProof.Rows L2
abbrev St := L2.St

/-! ### the world around: one structure -/
structure Ev where
  P : Program
  w : World
  K : PySem.W.Frag
  mg : Str → Option Value
  base : Heap
structure Of (e : Ev) (X : Cx) : Prop where
  P : X.prog = e.P
  w : X.w = e.w
  K : X.K = e.K
  mg : X.mg = e.mg
  base : X.base = e.base
/-- the text's def st stands under the name x -/
structure At (e : Ev) (x : Str) (ps : List Str) (st : Stmt) : Prop where
  ex : ∃ f fd, FunD e.K x x (defArgs st) (defBody st) (defScope st) [] [] f fd ∧ e.mg x = some (.ref f) ∧ Binds e.K fd ps []
/-- under x stands a def that keeps the promise sp -/
def Has (e : Ev) (k : Nat) (x : Str) (ps : List Str) (sp : Sp) : Prop :=
  ∃ f fd, FnOk e.P e.w e.K e.mg e.base (L2.CX e.P e.w) k f fd ps sp ∧ e.mg x = some (.ref f) ∧ PySem.W.keepIn e.K (.ref f) = true ∧ Binds e.K fd ps [] ∧ ∃ oc od osl, e.K.lookup f = some ⟨oc, od, .func fd, osl⟩
theorem Has.mono {e : Ev} {j k : Nat} {x : Str} {ps : List Str} {sp : Sp} (h : Has e j x ps sp) (l : j ≤ k) : Has e k x ps sp :=
  let ⟨f, fd, F, a, b, c⟩ := h; ⟨f, fd, F.mono l, a, b, c⟩
theorem Has.imp {e : Ev} {k : Nat} {x : Str} {ps : List Str} {sp sp' : Sp} (h : Has e k x ps sp) (l : ∀ vs H Q E, sp' vs H Q E → sp vs H Q E) : Has e k x ps sp' :=
  let ⟨f, fd, F, a, b, c⟩ := h; ⟨f, fd, F.imp l, a, b, c⟩
theorem FunD.lk {K : PySem.W.Frag} {x qual : Str} {params : Arguments} {body : List Stmt} {scope : Scope} {dvs : List V} {kws : List (Str × V)} {f : Addr} {fd : FuncData} (F : FunD K x qual params body scope dvs kws f fd) :
    ∃ oc od osl, K.lookup f = some ⟨oc, od, .func fd, osl⟩ := by
  obtain ⟨oc, od, _, _, _, _, _, _, _, osl, _, lk, _⟩ := F.ex
  exact ⟨oc, od, osl, lk⟩
theorem At.ok {e : Ev} {x : Str} {N ps : List Str} {st : Stmt} {k : Nat} {sp : Sp} (A : At e x ps st) (S : FnScope N ps (defScope st)) (len : ∀ vs H Q E, sp vs H Q E → vs.length = ps.length)
    (hbody : ∀ (f : Addr) (cdv : Value) (A : Around) (outer : List Env) (s : Shared) (H : Hp) (vs : List V) (Q : VK) (E : XK), Room k (A.deeper (envOfC x (defScope st) s.heap.objs.size f cdv)) → sp vs H Q E →
      ∃ t, PSs (cxOf (L2.CX e.P e.w) e.P e.w e.K e.mg e.base N x (defScope st) f cdv A outer s H E).nox (defBody st) t ∧ t { nx := fun _ H' => Q .non H', rt := Q } (start N vs) H) : Has e (k + 1) x ps sp := by
  obtain ⟨f, fd, F, m, b⟩ := A.ex
  refine ⟨f, fd, F.ok S len fun cdv A outer s H vs Q E hr h => ?_, m, F.kp, b, FunD.lk F⟩
  obtain ⟨t, h1, h2⟩ := hbody f cdv A outer s H vs Q E hr h
  exact ⟨t, h1.nox, h2⟩
/-- a promise with a bound that nothing meets at 0 -/
theorem At.zero {e : Ev} {x : Str} {ps : List Str} {st : Stmt} {sp : Sp} (A : At e x ps st) (no : ∀ vs H Q E, ¬ sp vs H Q E) : Has e 0 x ps sp := by
  obtain ⟨f, fd, F, m, b⟩ := A.ex
  exact ⟨f, fd, ⟨fun vs H Q E h => absurd h (no vs H Q E), fun A outer s H args us vs Q E _ _ _ _ h => absurd h (no vs H Q E)⟩, m, F.kp, b, FunD.lk F⟩

section
variable {e : Ev} {X : Cx} {k j : Nat} {x : Str} {ps : List Str} {sp : Sp} {a : Expr} {es : List Expr} {t : TA} {p pos : Pos}
theorem pe_callH (h : Has e j x ps sp) (hr : Room k X.A) (ha : PA X (a :: es) t) (hk : j ≤ k := by omega) (hX : Of e X := by exact ⟨rfl, rfl, rfl, rfl, rfl⟩) (hg : Gl X x := by rfl) (hdb : (x == ("__debug__" : Str)) = false := by decide)
    (he : starEach (a :: es) X.env = (false, eval a X.env) :: starEach es X.env := by rfl) (hpl : (backTo pos (starEach es X.env)).any (·.1) = false := by rfl) :
    PE X (.Call (.Name x p) (a :: es) [] pos) (tCall sp [] E0 t) := by
  obtain ⟨f, fd, F, m, kp, b, _⟩ := h
  obtain ⟨h1, h2, h3, h4, h5⟩ := hX
  have F2 := F.mono hk
  rw [← h1, ← h2, ← h3, ← h4, ← h5] at F2
  rw [← h4] at m
  rw [← h3] at kp b
  exact pe_call F2 hr hg m kp b .nil passL ha hdb he hpl
/-- a call that may raise what W takes -/
theorem pe_callX {W : WX} (h : Has e j x ps sp) (hr : Room k X.A) (tk : Takes X W) (ha : PA X (a :: es) t) (hk : j ≤ k := by omega) (hX : Of e X := by exact ⟨rfl, rfl, rfl, rfl, rfl⟩) (hg : Gl X x := by rfl) (hdb : (x == ("__debug__" : Str)) = false := by decide)
    (he : starEach (a :: es) X.env = (false, eval a X.env) :: starEach es X.env := by rfl) (hpl : (backTo pos (starEach es X.env)).any (·.1) = false := by rfl) :
    PE X (.Call (.Name x p) (a :: es) [] pos) (tCallS sp (WE W) t) := by
  obtain ⟨f, fd, F, m, kp, b, _⟩ := h
  obtain ⟨h1, h2, h3, h4, h5⟩ := hX
  have F2 := F.mono hk
  rw [← h1, ← h2, ← h3, ← h4, ← h5] at F2
  rw [← h4] at m
  rw [← h3] at kp b
  exact pe_callS F2 hr hg m kp b (passAt tk) ha hdb he hpl
end
/-- a def that may raise -/
theorem At.okX {e : Ev} {x : Str} {N ps : List Str} {st : Stmt} {k : Nat} {sp : Sp} (A : At e x ps st) (S : FnScope N ps (defScope st)) (len : ∀ vs H Q E, sp vs H Q E → vs.length = ps.length)
    (hbody : ∀ (f : Addr) (cdv : Value) (A : Around) (outer : List Env) (s : Shared) (H : Hp) (vs : List V) (Q : VK) (E : XK), Room k (A.deeper (envOfC x (defScope st) s.heap.objs.size f cdv)) → sp vs H Q E →
      ∃ t, PSs (cxOf (L2.CX e.P e.w) e.P e.w e.K e.mg e.base N x (defScope st) f cdv A outer s H E) (defBody st) t ∧ t { nx := fun _ H' => Q .non H', rt := Q } (start N vs) H) : Has e (k + 1) x ps sp := by
  obtain ⟨f, fd, F, m, b⟩ := A.ex
  exact ⟨f, fd, F.ok S len fun cdv A outer s H vs Q E hr h => hbody f cdv A outer s H vs Q E hr h, m, F.kp, b, FunD.lk F⟩
/-- a promise that never raises, over the context that lets nothing out -/
theorem FnOk.cx0 {P : Program} {w : World} {K : PySem.W.Frag} {mg : Str → Option Value} {base : Heap} {k : Nat} {f : Addr} {fd : FuncData} {ps : List Str} {sp : Sp} (F : FnOk P w K mg base (L2.CX P w) k f fd ps sp)
    (h : ∀ vs H Q E, sp vs H Q E → sp vs H Q E0) : FnOk P w K mg base CX0 k f fd ps sp :=
  ⟨F.len, fun A outer s H args us vs Q E hr he hb hv hs => codeAny_mono (F.run A outer s H args us vs Q E0 hr he hb hv (h _ _ _ _ hs)) fun r s' q => by
    cases r with
    | ok fl => cases fl <;> exact q
    | error u =>
      obtain ⟨_, _, _, _, _, _, _, _, _, _, _, _, z⟩ := q
      exact z.elim⟩

/-! ### classes, methods -/
/-- the method m of the class at C -/
def AtM (e : Ev) (C : Addr) (m qual : Str) (ps : List Str) (st : Stmt) : Prop := ∃ f fd, FunD e.K m qual (defArgs st) (defBody st) (defScope st) [] [] f fd ∧ Meth e.K C m f ∧ Binds e.K fd ps []
def HasM (e : Ev) (k : Nat) (C : Addr) (m : Str) (ps : List Str) (sp : Sp) : Prop := ∃ f fd, FnOk e.P e.w e.K e.mg e.base (L2.CX e.P e.w) k f fd ps sp ∧ Meth e.K C m f ∧ Binds e.K fd ps []
theorem HasM.mono {e : Ev} {j k : Nat} {C : Addr} {m : Str} {ps : List Str} {sp : Sp} (h : HasM e j C m ps sp) (l : j ≤ k) : HasM e k C m ps sp := let ⟨f, fd, F, a, b⟩ := h; ⟨f, fd, F.mono l, a, b⟩
theorem HasM.imp {e : Ev} {k : Nat} {C : Addr} {m : Str} {ps : List Str} {sp sp' : Sp} (h : HasM e k C m ps sp) (l : ∀ vs H Q E, sp' vs H Q E → sp vs H Q E) : HasM e k C m ps sp' := let ⟨f, fd, F, a, b⟩ := h; ⟨f, fd, F.imp l, a, b⟩
theorem AtM.ok {e : Ev} {C : Addr} {m qual : Str} {N ps : List Str} {st : Stmt} {k : Nat} {sp : Sp} (A : AtM e C m qual ps st) (S : FnScope N ps (defScope st)) (len : ∀ vs H Q E, sp vs H Q E → vs.length = ps.length)
    (hbody : ∀ (f : Addr) (cdv : Value) (A : Around) (outer : List Env) (s : Shared) (H : Hp) (vs : List V) (Q : VK) (E : XK), Room k (A.deeper (envOfC qual (defScope st) s.heap.objs.size f cdv)) → sp vs H Q E →
      ∃ t, PSs (cxOf (L2.CX e.P e.w) e.P e.w e.K e.mg e.base N qual (defScope st) f cdv A outer s H E).nox (defBody st) t ∧ t { nx := fun _ H' => Q .non H', rt := Q } (start N vs) H) : HasM e (k + 1) C m ps sp := by
  obtain ⟨f, fd, F, mt, b⟩ := A
  refine ⟨f, fd, F.ok S len fun cdv A outer s H vs Q E hr h => ?_, mt, b⟩
  obtain ⟨t, h1, h2⟩ := hbody f cdv A outer s H vs Q E hr h
  exact ⟨t, h1.nox, h2⟩
theorem AtM.okX {e : Ev} {C : Addr} {m qual : Str} {N ps : List Str} {st : Stmt} {k : Nat} {sp : Sp} (A : AtM e C m qual ps st) (S : FnScope N ps (defScope st)) (len : ∀ vs H Q E, sp vs H Q E → vs.length = ps.length)
    (hbody : ∀ (f : Addr) (cdv : Value) (A : Around) (outer : List Env) (s : Shared) (H : Hp) (vs : List V) (Q : VK) (E : XK), Room k (A.deeper (envOfC qual (defScope st) s.heap.objs.size f cdv)) → sp vs H Q E →
      ∃ t, PSs (cxOf (L2.CX e.P e.w) e.P e.w e.K e.mg e.base N qual (defScope st) f cdv A outer s H E) (defBody st) t ∧ t { nx := fun _ H' => Q .non H', rt := Q } (start N vs) H) : HasM e (k + 1) C m ps sp := by
  obtain ⟨f, fd, F, mt, b⟩ := A
  exact ⟨f, fd, F.ok S len fun cdv A outer s H vs Q E hr h => hbody f cdv A outer s H vs Q E hr h, mt, b⟩
theorem AtM.zero {e : Ev} {C : Addr} {m qual : Str} {ps : List Str} {st : Stmt} {sp : Sp} (A : AtM e C m qual ps st) (no : ∀ vs H Q E, ¬ sp vs H Q E) : HasM e 0 C m ps sp := by
  obtain ⟨f, fd, F, mt, b⟩ := A
  exact ⟨f, fd, ⟨fun vs H Q E h => absurd h (no vs H Q E), fun A outer s H args us vs Q E _ _ _ _ h => absurd h (no vs H Q E)⟩, mt, b⟩
/-- the __init__ of the class at C, by which it is made -/
def AtI (e : Ev) (C : Addr) (qual : Str) (ps : List Str) (st : Stmt) : Prop := ∃ f fd, FunD e.K "__init__" qual (defArgs st) (defBody st) (defScope st) [] [] f fd ∧ Mk e.K C f ∧ Binds e.K fd ps []
def HasI (e : Ev) (k : Nat) (C : Addr) (ps : List Str) (sp : Sp) : Prop := ∃ f fd, FnOk e.P e.w e.K e.mg e.base (L2.CX e.P e.w) k f fd ps sp ∧ Mk e.K C f ∧ Binds e.K fd ps []
theorem AtI.ok {e : Ev} {C : Addr} {qual : Str} {N ps : List Str} {st : Stmt} {k : Nat} {sp : Sp} (A : AtI e C qual ps st) (S : FnScope N ps (defScope st)) (len : ∀ vs H Q E, sp vs H Q E → vs.length = ps.length)
    (hbody : ∀ (f : Addr) (cdv : Value) (A : Around) (outer : List Env) (s : Shared) (H : Hp) (vs : List V) (Q : VK) (E : XK), Room k (A.deeper (envOfC qual (defScope st) s.heap.objs.size f cdv)) → sp vs H Q E →
      ∃ t, PSs (cxOf (L2.CX e.P e.w) e.P e.w e.K e.mg e.base N qual (defScope st) f cdv A outer s H E).nox (defBody st) t ∧ t { nx := fun _ H' => Q .non H', rt := Q } (start N vs) H) : HasI e (k + 1) C ps sp := by
  obtain ⟨f, fd, F, mt, b⟩ := A
  refine ⟨f, fd, F.ok S len fun cdv A outer s H vs Q E hr h => ?_, mt, b⟩
  obtain ⟨t, h1, h2⟩ := hbody f cdv A outer s H vs Q E hr h
  exact ⟨t, h1.nox, h2⟩
section
variable {e : Ev} {X : Cx} {k j : Nat} {C : Addr} {x m : Str} {ps : List Str} {sp : Sp} {a o : Expr} {es : List Expr} {ta : TE} {t : TA} {p pos apos : Pos}
/-- o.m(e, ..) -/
theorem pe_methH {pl : Sem Bool} (h : HasM e j C m ps sp) (hr : Room k X.A) (c : Cls e.K C) (ho : PE X o ta) (ha : PA X (a :: es) t) (hk : j ≤ k := by omega) (hX : Of e X := by exact ⟨rfl, rfl, rfl, rfl, rfl⟩)
    (hst : starEach (a :: es) X.env = (false, eval a X.env) :: starEach es X.env := by rfl) (hpl : (backTo pos (starEach es X.env)).any (·.1) = false := by rfl)
    (ht : eval (.Call (.Attribute o m apos) (a :: es) [] pos) X.env = (do
      let ov ← eval o X.env
      standAt apos.atName
      let (f, first) ← holding [ov] (getMethod ov m pl)
      callWith pos f first (backTo pos (starEach (a :: es) X.env)) (backToKw pos (keywordEach [] X.env))) := by rfl) :
    PE X (.Call (.Attribute o m apos) (a :: es) [] pos) (tMeth C m sp [] E0 ta t) := by
  obtain ⟨f, fd, F, mt, b⟩ := h
  obtain ⟨h1, h2, h3, h4, h5⟩ := hX
  have F2 := F.mono hk
  rw [← h1, ← h2, ← h3, ← h4, ← h5] at F2
  rw [← h3] at b mt c
  exact pe_meth ho c mt F2 hr b .nil passL ha hst hpl ht
/-- o.m() -/
theorem pe_methH0 {pl : Sem Bool} (h : HasM e j C m ps sp) (hr : Room k X.A) (c : Cls e.K C) (ho : PE X o ta) (hk : j ≤ k := by omega) (hX : Of e X := by exact ⟨rfl, rfl, rfl, rfl, rfl⟩)
    (ht : eval (.Call (.Attribute o m apos) [] [] pos) X.env = (do
      let ov ← eval o X.env
      standAt apos.atName
      let (f, first) ← holding [ov] (getMethod ov m pl)
      callWith pos f first (backTo pos (starEach [] X.env)) (backToKw pos (keywordEach [] X.env))) := by rfl) :
    PE X (.Call (.Attribute o m apos) [] [] pos) (tMeth C m sp [] E0 ta tNil) := by
  obtain ⟨f, fd, F, mt, b⟩ := h
  obtain ⟨h1, h2, h3, h4, h5⟩ := hX
  have F2 := F.mono hk
  rw [← h1, ← h2, ← h3, ← h4, ← h5] at F2
  rw [← h3] at b mt c
  exact pe_meth0 ho c mt F2 hr b .nil passL ht
/-- the same, where it may raise -/
def tMethX (C : Addr) (m : Str) (sp : Sp) (E : St → XK) (ta : TE) (t : TA) : TE := fun σ H Q => ta σ H fun x H1 => ∃ a dx fs, x = .ref a ∧ H1 a = some (.ins C dx fs) ∧ fs.lookup m = none ∧
  t σ H1 fun vs H2 => sp (x :: vs) H2 Q (E σ)
theorem pe_methX {pl : Sem Bool} {W : WX} (h : HasM e j C m ps sp) (hr : Room k X.A) (tk : Takes X W) (c : Cls e.K C) (ho : PE X o ta) (ha : PA X (a :: es) t) (hk : j ≤ k := by omega) (hX : Of e X := by exact ⟨rfl, rfl, rfl, rfl, rfl⟩)
    (hst : starEach (a :: es) X.env = (false, eval a X.env) :: starEach es X.env := by rfl) (hpl : (backTo pos (starEach es X.env)).any (·.1) = false := by rfl)
    (ht : eval (.Call (.Attribute o m apos) (a :: es) [] pos) X.env = (do
      let ov ← eval o X.env
      standAt apos.atName
      let (f, first) ← holding [ov] (getMethod ov m pl)
      callWith pos f first (backTo pos (starEach (a :: es) X.env)) (backToKw pos (keywordEach [] X.env))) := by rfl) :
    PE X (.Call (.Attribute o m apos) (a :: es) [] pos) (tMethX C m sp (WE W) ta t) := by
  obtain ⟨f, fd, F, mt, b⟩ := h
  obtain ⟨h1, h2, h3, h4, h5⟩ := hX
  have F2 := F.mono hk
  rw [← h1, ← h2, ← h3, ← h4, ← h5] at F2
  rw [← h3] at b mt c
  refine ⟨fun pins s σ H Q I h => ?_⟩
  refine PySem.W.methodCall_KW (pl := pl) (thn (ho.run pins s σ H _ I h) fun u s1 ⟨x, H1, I1, rx, a, dx, fs, ex, ea, l, q⟩ => ?_) ht
  subst ex
  obtain rfl : u = Value.ref a := rx
  refine getmeth_ok I1 ea c mt l ?_
  refine PySem.W.callWith_K (first := [.ref a]) (h₀ := X.base) I.ok.mod.kin mt.kp (thn (ha.run pos pins s1 σ H1 _ I1 q) fun us s2 ⟨vs, H2, I2, r, q2⟩ => ⟨I2.kIn, ?_⟩) hst hpl
  exact run_fnS (us := .ref a :: us) (vs := .ref a :: vs) F2 hr b (passAt tk σ) I2 (.cons rfl r) q2
theorem pe_methX0 {pl : Sem Bool} {W : WX} (h : HasM e j C m ps sp) (hr : Room k X.A) (tk : Takes X W) (c : Cls e.K C) (ho : PE X o ta) (hk : j ≤ k := by omega) (hX : Of e X := by exact ⟨rfl, rfl, rfl, rfl, rfl⟩)
    (ht : eval (.Call (.Attribute o m apos) [] [] pos) X.env = (do
      let ov ← eval o X.env
      standAt apos.atName
      let (f, first) ← holding [ov] (getMethod ov m pl)
      callWith pos f first (backTo pos (starEach [] X.env)) (backToKw pos (keywordEach [] X.env))) := by rfl) :
    PE X (.Call (.Attribute o m apos) [] [] pos) (tMethX C m sp (WE W) ta tNil) := by
  obtain ⟨f, fd, F, mt, b⟩ := h
  obtain ⟨h1, h2, h3, h4, h5⟩ := hX
  have F2 := F.mono hk
  rw [← h1, ← h2, ← h3, ← h4, ← h5] at F2
  rw [← h3] at b mt c
  refine ⟨fun pins s σ H Q I h => ?_⟩
  refine PySem.W.methodCall_KW (pl := pl) (thn (ho.run pins s σ H _ I h) fun u s1 ⟨x, H1, I1, rx, a, dx, fs, ex, ea, l, q⟩ => ?_) ht
  subst ex
  obtain rfl : u = Value.ref a := rx
  refine getmeth_ok I1 ea c mt l ?_
  exact PySem.W.callWith_K0 (first := [.ref a]) I1.kIn mt.kp (run_fnS (us := [.ref a]) (vs := [.ref a]) F2 hr b (passAt tk σ) I1 (.cons rfl .nil) q)
/-- C(e, ..) -/
theorem pe_makeH (h : HasI e j C ps sp) (hm : e.mg x = some (.ref C)) (hr : Room k X.A) (ha : PA X (a :: es) t) (hk : j + 1 ≤ k := by omega) (hX : Of e X := by exact ⟨rfl, rfl, rfl, rfl, rfl⟩) (hg : Gl X x := by rfl) (hdb : (x == ("__debug__" : Str)) = false := by decide)
    (he : starEach (a :: es) X.env = (false, eval a X.env) :: starEach es X.env := by rfl) (hpl : (backTo pos (starEach es X.env)).any (·.1) = false := by rfl) :
    PE X (.Call (.Name x p) (a :: es) [] pos) (tMake C sp [] E0 t) := by
  obtain ⟨f, fd, F, mt, b⟩ := h
  obtain ⟨h1, h2, h3, h4, h5⟩ := hX
  have F2 := F
  rw [← h1, ← h2, ← h3, ← h4, ← h5] at F2
  rw [← h3] at b mt
  rw [← h4] at hm
  exact pe_make mt F2 (hr.mono hk) hg hm b .nil passL ha hdb he hpl
theorem pe_makeH0 (h : HasI e j C ps sp) (hm : e.mg x = some (.ref C)) (hr : Room k X.A) (hk : j + 1 ≤ k := by omega) (hX : Of e X := by exact ⟨rfl, rfl, rfl, rfl, rfl⟩) (hg : Gl X x := by rfl) (hdb : (x == ("__debug__" : Str)) = false := by decide) :
    PE X (.Call (.Name x p) [] [] pos) (tMake C sp [] E0 tNil) := by
  obtain ⟨f, fd, F, mt, b⟩ := h
  obtain ⟨h1, h2, h3, h4, h5⟩ := hX
  have F2 := F
  rw [← h1, ← h2, ← h3, ← h4, ← h5] at F2
  rw [← h3] at b mt
  rw [← h4] at hm
  exact pe_make0 mt F2 (hr.mono hk) hg hm b .nil passL hdb
end
/-- a constant of the module -/
def Cst (e : Ev) (x : Str) (v : V) : Prop := ∃ u, e.mg x = some u ∧ RelV v u
theorem pe_cst {e : Ev} {X : Cx} {x : Str} {v : V} {pos : Pos} (h : Cst e x v) (hX : Of e X := by exact ⟨rfl, rfl, rfl, rfl, rfl⟩) (hg : Gl X x := by rfl) (hd : (x == ("__debug__" : Str)) = false := by decide) : PE X (.Name x pos) (tC v) := by
  obtain ⟨u, h1, h2⟩ := h
  exact pe_glob hg (by rw [hX.mg]; exact h1) h2 hd
/-- an own class of errors, without an __init__ of its own -/
structure ExK (e : Ev) (x : Str) (C : Addr) : Prop where
  mg : e.mg x = some (.ref C)
  xin : PySem.W.excIn e.K C [.type "ValueError", .type "Exception", .type "BaseException", .type "object"] "ValueError.__new__" = true
  kp : PySem.W.keepIn e.K (.ref C) = true
  sb : PySem.W.subIn e.K (.ref C) (.type "BaseException") = some true
  ty : PySem.W.typeIn e.K (.ref C) = some (.type "type")
theorem ps_raiseE {e : Ev} {X : Cx} {W : WX} {x m : Str} {C : Addr} {j : Nat} {p p2 pos pos2 : Pos} (h : ExK e x C) (tk : Takes X W) (hc : X.calm = true := by rfl) (hX : Of e X := by exact ⟨rfl, rfl, rfl, rfl, rfl⟩) (hg : Gl X x := by rfl) (hdb : (x == ("__debug__" : Str)) = false := by decide) :
    PS X (.Raise (some (.Call (.Name x p) [.Constant (.str m) j p2] [] pos)) none pos2) (fun _ σ H => W (.ref C) none σ H) := by
  obtain ⟨h1, h2, h3, h4, h5⟩ := hX
  exact ps_raise hc tk (pmk_own PySem.F.excBase_ValueError (by rw [h3]; exact h.xin) (by rw [h4]; exact h.mg) (by rw [h3]; exact h.kp) (raises_own (by rw [h3]; exact h.sb) (by rw [h3]; exact h.ty)) hg hdb)


/-! ### the built-in names -/
structure Bl (e : Ev) : Prop where
  len : e.mg "len" = none
  abs : e.mg "abs" = none
  max : e.mg "max" = none
  min : e.mg "min" = none
  int : e.mg "int" = none
  tuple : e.mg "tuple" = none
  list : e.mg "list" = none
  range : e.mg "range" = none
  sum : e.mg "sum" = none
  isinstance : e.mg "isinstance" = none
  sorted : e.mg "sorted" = none
  set : e.mg "set" = none
  zip : e.mg "zip" = none
  enumerate : e.mg "enumerate" = none
  reversed : e.mg "reversed" = none
  str : e.mg "str" = none
  bool : e.mg "bool" = none
  ValueError : e.mg "ValueError" = none
  KeyError : e.mg "KeyError" = none
section
variable {e : Ev} {X : Cx} {x : Str} {a : Expr} {es : List Expr} {t : TA} {p pos : Pos} {id T : String} {r : List V → Hp → VK → Prop}
theorem Of.no (hX : Of e X) (m : e.mg x = none) : X.mg x = none := by rw [hX.mg]; exact m
theorem pe_b (hc : CallR X (.builtin id) r) (m : e.mg x = none) (ha : PA X (a :: es) t) (hX : Of e X := by exact ⟨rfl, rfl, rfl, rfl, rfl⟩) (hv : bootBuiltins x = some (.builtin id) := by decide +kernel) (hg : Gl X x := by rfl) (hn : x ≠ "__name__" := by decide) (hdb : (x == ("__debug__" : Str)) = false := by decide)
    (he : starEach (a :: es) X.env = (false, eval a X.env) :: starEach es X.env := by rfl) (hpl : (backTo pos (starEach es X.env)).any (·.1) = false := by rfl) : PE X (.Call (.Name x p) (a :: es) [] pos) (tCB r t) :=
  pe_callB hc hg (hX.no m) hv ha hn hdb he hpl
theorem pe_ty (hc : CallR X (.type T) r) (m : e.mg x = none) (ha : PA X (a :: es) t) (hX : Of e X := by exact ⟨rfl, rfl, rfl, rfl, rfl⟩) (hv : bootBuiltins x = some (.type T) := by decide +kernel) (hg : Gl X x := by rfl) (hn : x ≠ "__name__" := by decide) (hdb : (x == ("__debug__" : Str)) = false := by decide)
    (he : starEach (a :: es) X.env = (false, eval a X.env) :: starEach es X.env := by rfl) (hpl : (backTo pos (starEach es X.env)).any (·.1) = false := by rfl) : PE X (.Call (.Name x p) (a :: es) [] pos) (tCB r t) :=
  pe_callTy hc hg (hX.no m) hv ha hn hdb he hpl
theorem pe_tyv (m : e.mg x = none) (hX : Of e X := by exact ⟨rfl, rfl, rfl, rfl, rfl⟩) (hv : bootBuiltins x = some (.type T) := by decide +kernel) (hg : Gl X x := by rfl) (hn : x ≠ "__name__" := by decide) (hdb : (x == ("__debug__" : Str)) = false := by decide) : PE X (.Name x pos) (tC (.ty T)) :=
  pe_bltn hg (hX.no m) hv rfl hn hdb
end

/-! ### operations on immutable data -/
section
variable {X : Cx}
/-- t + u -/
def rCatD : R2 := fun x y H Q => ∃ l m, DaAt H x (.tup l) ∧ DaAt H y (.tup m) ∧ l.length + m.length ≤ sizeLine ∧ ∀ v H', Same H H' → DaAt H' v (.tup (l ++ m)) → Q v H'
theorem op_catD : OpR X (binaryOp .Add) rCatD := by
  intro pins s σ H x y v u Q I rx ry h
  obtain ⟨l, m, hx, hy, hz, q⟩ := h
  obtain ⟨a, vs, rfl, h1, h2⟩ := hx.tup_inv
  obtain ⟨b, ws, rfl, h3, h4⟩ := hy.tup_inv
  refine op_catA pins s σ H _ _ v u Q I rx ry ⟨a, b, vs, ws, rfl, rfl, SqT.of h1, SqT.of h3, by rw [h2.length, h4.length]; exact hz, fun z => ?_, fun _ z => ?_, fun _ _ p hp => ?_⟩
  · subst z
    have e : l = [] := by have := h2.length; simp at this; exact List.length_eq_zero_iff.mp this.symm
    subst e
    exact q _ _ (Same.refl _) hy
  · subst z
    have e : m = [] := by have := h4.length; simp at this; exact List.length_eq_zero_iff.mp this.symm
    subst e
    rw [List.append_nil] at q
    exact q _ _ (Same.refl _) hx
  · exact q _ _ (same_new hp _) (.tup upd_same ((h2.append h4).mono (TX.new hp)))
def cutD {α : Type} (l : List α) (lo hi : Option Int) : List α := (l.drop (HT.sIx l.length 0 lo)).take (HT.sIx l.length l.length hi - HT.sIx l.length 0 lo)
theorem cutD_tail {α : Type} (x : α) (l : List α) : cutD (x :: l) (some 1) none = l := by
  have e1 : HT.sIx (x :: l).length 0 (some 1) = 1 := by
    have := HT.sIx_nat (x :: l).length 0 1
    simpa using this
  unfold cutD
  rw [e1, HT.sIx_none]
  simp
theorem DasAt.cut {H : Hp} {vs : List V} {ds : List Da} (h : DasAt H vs ds) (lo hi : Option Int) : DasAt H (cutV vs lo hi) (cutD ds lo hi) := by
  unfold cutV cutD
  rw [h.length]
  exact (h.drop _).take _
/-- t[lo:hi] -/
def rSlD : V → Option Int → Option Int → Hp → VK → Prop := fun x lo hi H Q => ∃ l, DaAt H x (.tup l) ∧ ∀ v H', Same H H' → DaAt H' v (.tup (cutD l lo hi)) → Q v H'
theorem sl_tupD : SlR X rSlD := by
  intro pins s σ H x v vl vu lo hi sl Q I rx hs pl pu h
  obtain ⟨l, hx, q⟩ := h
  obtain ⟨a, vs, rfl, h1, h2⟩ := hx.tup_inv
  refine sl_tupA pins s σ H _ v vl vu lo hi sl Q I rx hs pl pu ⟨a, vs, rfl, SqT.of h1, fun z => ?_, fun _ p hp => ?_⟩
  · refine q _ _ (Same.refl _) (.tup h1 ?_)
    have e := h2.cut lo hi
    have e2 : cutV vs lo hi = vs := by
      unfold cutV
      rw [z.1, z.2]
      simp
    rw [e2] at e
    exact e
  · exact q _ _ (same_new hp _) (.tup upd_same ((h2.cut lo hi).mono (TX.new hp)))
/-- t[i] -/
def rIxD : R2 := fun x y H Q => ∃ l i d, DaAt H x (.tup l) ∧ y = .int i ∧ atI l i = some d ∧ ∀ v, DaAt H v d → Q v H
theorem atI_len {α β : Type} {xs : List α} {ys : List β} {i : Int} (h : xs.length = ys.length) {j : Nat} (e : ixN ys.length i = some j) : ixN xs.length i = some j := by rw [h]; exact e
theorem DasAt.atI {H : Hp} {vs : List V} {ds : List Da} {i : Int} {d : Da} (h : DasAt H vs ds) (e : L2.atI ds i = some d) : ∃ v, L2.atI vs i = some v ∧ DaAt H v d := by
  unfold L2.atI at e ⊢
  rw [h.length]
  cases q : ixN ds.length i with
  | none => rw [q] at e; cases e
  | some j =>
    rw [q] at e
    obtain ⟨v, h1, h2⟩ := h.get e
    exact ⟨v, h1, h2⟩
theorem ix_tupD : IxR X rIxD := by
  intro va sl pins s σ H x y v u Q I rx ry h hp
  obtain ⟨l, i, d, hx, rfl, hi, q⟩ := h
  obtain ⟨a, vs, rfl, h1, h2⟩ := hx.tup_inv
  obtain ⟨w, h3, h4⟩ := h2.atI hi
  exact ix_tup va sl pins s σ H _ _ v u Q I rx ry ⟨a, vs, i, w, rfl, rfl, SqT.of h1, h3, q w h4⟩ hp
/-- xs[i], a list of such data -/
def rIxLD : R2 := fun x y H Q => ∃ a l i d, x = .ref a ∧ LD H a l ∧ y = .int i ∧ atI l i = some d ∧ ∀ v, DaAt H v d → Q v H
theorem ix_listD : IxR X rIxLD := by
  intro va sl pins s σ H x y v u Q I rx ry h hp
  obtain ⟨a, l, i, d, rfl, ⟨vs, h1, h2⟩, rfl, hi, q⟩ := h
  obtain ⟨w, h3, h4⟩ := h2.atI hi
  exact ix_list va sl pins s σ H _ _ v u Q I rx ry ⟨a, vs, i, w, rfl, rfl, SqL.of h1, h3, q w h4⟩ hp
/-- len -/
def rLenT : List V → Hp → VK → Prop := fun xs H Q => ∃ x l, xs = [x] ∧ DaAt H x (.tup l) ∧ Q (.int l.length) H
theorem call_lenT : CallR X (.builtin "len") rLenT := by
  intro pins s σ H xs us Q I r h
  obtain ⟨x, l, rfl, hx, q⟩ := h
  obtain ⟨a, vs, rfl, h1, h2⟩ := hx.tup_inv
  exact call_len_seq pins s σ H _ us Q I r ⟨a, vs, rfl, .inr (SqT.of h1), by rw [h2.length]; exact q⟩
def rLenL (K : PySem.W.Frag) : List V → Hp → VK → Prop := fun xs H Q => ∃ p ys, xs = [.ref p] ∧ SqL K H p ys ∧ Q (.int ys.length) H
theorem call_lenL : CallR X (.builtin "len") (rLenL X.K) := by
  intro pins s σ H xs us Q I r h
  obtain ⟨p, ys, rfl, h1, q⟩ := h
  exact call_len_seq pins s σ H _ us Q I r ⟨p, ys, rfl, .inl h1, q⟩
/-- tuple(list) -/
def rTupL : List V → Hp → VK → Prop := fun xs H Q => ∃ p ds, xs = [.ref p] ∧ LD H p ds ∧ ∀ v H', Same H H' → DaAt H' v (.tup ds) → Q v H'
theorem call_tupL : CallR X (.type "tuple") rTupL := by
  intro pins s σ H xs us Q I r h
  obtain ⟨p, ds, rfl, ⟨vs, h1, h2⟩, q⟩ := h
  exact call_tuple_of pins s σ H _ us Q I r ⟨p, vs, rfl, .inl ⟨SqL.of h1, fun l hl => q _ _ (same_new hl _) (.tup upd_same (h2.mono (TX.new hl)))⟩⟩
/-- == of data -/
def okD (d : Da) : Prop := d.ok = true ∧ d.depth ≤ 60
def okL (ds : List Da) : Prop := ∀ d ∈ ds, okD d
theorem okL.oks {ds : List Da} (h : okL ds) : Da.oks ds = true ∧ Da.depths ds ≤ 60 := ⟨Da.oks_of fun d m => (h d m).1, Da.depths_le.mpr fun d m => (h d m).2⟩
theorem okD.sh {d : Da} (h : okD d) : SeqAt.shaped d.py = true := Da.shaped h.1 (Nat.le_trans h.2 (by decide))
theorem okL.sh {ds : List Da} (h : okL ds) : SeqAt.shaped (.list (Da.pys ds)) = true := pys_shaped h.oks.1 (Nat.le_trans h.oks.2 (by decide))
theorem okD.tup {l : List Da} (h : ∀ d ∈ l, d.ok = true ∧ d.depth ≤ 59) : okD (.tup l) := ⟨by simp only [Da.ok]; exact Da.oks_of fun d m => (h d m).1, by
  have := (Da.depths_le (l := l) (n := 59)).mpr fun d m => (h d m).2
  simp only [Da.depth]; omega⟩
def rEqDa (neg : Bool) : R2 := fun x y H Q => ∃ d e, DaAt H x d ∧ DaAt H y e ∧ okD d ∧ okD e ∧ Q (.bl (if neg then !decide (d = e) else decide (d = e))) H
theorem op_eqDa (hu : X.A.units + 64 < cLine) : OpR X (compareOp .Eq) (rEqDa false) := by
  intro pins s σ H x y v u Q I rx ry h
  obtain ⟨d, e, hx, hy, k1, k2, q⟩ := h
  exact op_eqD hu pins s σ H x y v u Q I rx ry ⟨d.py, e.py, hx.dp, hy.dp, k1.sh, k2.sh, by rw [Da.eqv_dec]; exact q⟩
theorem op_neDa (hu : X.A.units + 64 < cLine) : OpR X (compareOp .NotEq) (rEqDa true) := by
  intro pins s σ H x y v u Q I rx ry h
  obtain ⟨d, e, hx, hy, k1, k2, q⟩ := h
  exact op_neD hu pins s σ H x y v u Q I rx ry ⟨d.py, e.py, hx.dp, hy.dp, k1.sh, k2.sh, by rw [Da.eqv_dec]; exact q⟩
/-- == of lists of data -/
def rEqLa (neg : Bool) : R2 := fun x y H Q => ∃ a b ds es, x = .ref a ∧ y = .ref b ∧ LD H a ds ∧ LD H b es ∧ okL ds ∧ okL es ∧ Q (.bl (if neg then !decide (ds = es) else decide (ds = es))) H
theorem op_eqLa (hu : X.A.units + 64 < cLine) : OpR X (compareOp .Eq) (rEqLa false) := by
  intro pins s σ H x y v u Q I rx ry h
  obtain ⟨a, b, d, e, rfl, rfl, hx, hy, k1, k2, q⟩ := h
  exact op_eqD hu pins s σ H _ _ v u Q I rx ry ⟨_, _, hx.dp, hy.dp, k1.sh, k2.sh, by simp only [PyData.eqv]; rw [pys_eqv]; exact q⟩
theorem op_neLa (hu : X.A.units + 64 < cLine) : OpR X (compareOp .NotEq) (rEqLa true) := by
  intro pins s σ H x y v u Q I rx ry h
  obtain ⟨a, b, d, e, rfl, rfl, hx, hy, k1, k2, q⟩ := h
  exact op_neD hu pins s σ H _ _ v u Q I rx ry ⟨_, _, hx.dp, hy.dp, k1.sh, k2.sh, by simp only [PyData.eqv]; rw [pys_eqv]; exact q⟩
/-- d in a list of data -/
def rInDa (neg : Bool) : R2 := fun x y H Q => ∃ d a ds, DaAt H x d ∧ y = .ref a ∧ LD H a ds ∧ okD d ∧ okL ds ∧ Q (.bl (if neg then !decide (d ∈ ds) else decide (d ∈ ds))) H
theorem op_inDa (hu : X.A.units + 65 < cLine) : OpR X (compareOp .In) (rInDa false) := by
  intro pins s σ H x y v u Q I rx ry h
  obtain ⟨d, a, ds, hx, rfl, hy, k1, k2, q⟩ := h
  exact op_inD hu pins s σ H _ _ v u Q I rx ry ⟨d.py, Da.pys ds, hx.dp, hy.dp, k1.sh, k2.sh, by rw [any_pys]; exact q⟩
theorem op_notInDa (hu : X.A.units + 65 < cLine) : OpR X (compareOp .NotIn) (rInDa true) := by
  intro pins s σ H x y v u Q I rx ry h
  obtain ⟨d, a, ds, hx, rfl, hy, k1, k2, q⟩ := h
  exact op_notInD hu pins s σ H _ _ v u Q I rx ry ⟨d.py, Da.pys ds, hx.dp, hy.dp, k1.sh, k2.sh, by rw [any_pys]; exact q⟩
theorem hu64 {A : Around} {k : Nat} (hr : Room k A) : A.units + 64 < cLine := hr.units
theorem hu65 {A : Around} {k : Nat} (hr : Room k A) : A.units + 65 < cLine := by have := hr.un; omega
/-- text * number -/
def rMulS : R2 := fun x y H Q => ∃ z n, x = .str z ∧ y = .int n ∧ z.length ≤ 1000 ∧ 0 ≤ n ∧ n ≤ 1000 ∧ Q (.str (Txt.mul z n)) H
theorem mulOk_small {z : Str} {n : Int} (h1 : z.length ≤ 1000) (h2 : 0 ≤ n) (h3 : n ≤ 1000) : MulOk z n := by
  refine ⟨?_, fun h _ h4 => ?_, fun h _ => ?_⟩
  · rw [Bool.or_eq_false_iff]
    exact ⟨decide_eq_false (by omega), decide_eq_false (by omega)⟩
  · have h5 : (1000 : Int) ≤ (2 ^ 63 - 1) / n := by
      rw [Int.le_ediv_iff_mul_le (by omega)]
      omega
    omega
  · unfold Builtin.Str.tooLong
    have h7 := sizeLine_eq
    have h5 : n.toNat ≤ 1000 := by omega
    have h6 : z.length * n.toNat ≤ 1000 * 1000 := Nat.mul_le_mul h1 h5
    first
      | (rw [decide_eq_false_iff_not]; omega)
      | (simp; omega)
theorem op_mulS : OpR X (binaryOp .Mult) rMulS := by
  intro pins s σ H x y v u Q I rx ry h
  obtain ⟨z, n, rfl, rfl, h1, h2, h3, q⟩ := h
  obtain ⟨t, rfl⟩ := rx
  obtain ⟨t', rfl⟩ := ry
  exact SB.mul (mulOk_small h1 h2 h3) fun t' k => ⟨.str _, H, I.tok _, ⟨_, rfl⟩, q⟩
end

/-! ### loops and comprehensions over such data -/
/-- for x in t -/
theorem for_tupD {K : PySem.W.Frag} {H0 : Hp} {v : V} {l : List Da} {g : TG} {tb : TS} {D : Ends} {σ : St} (hv : DaAt H0 v (.tup l)) (Pv : Nat → St → Hp → Prop) (h0 : Pv 0 σ H0)
    (tx : ∀ i σ H, Pv i σ H → TX H0 H)
    (hs : ∀ i x d σ H, l[i]? = some d → DaAt H x d → Pv i σ H → g x σ H fun σ2 H2 => tb { D with nx := Pv (i + 1), ct := Pv (i + 1), bk := D.nx } σ2 H2) (hd : ∀ σ H, Pv l.length σ H → D.nx σ H) :
    ∃ a, v = .ref a ∧ (∃ xs, SqT K H0 a xs) ∧ ∃ W : Nat → Nat → St → Hp → Prop, (∃ m, W 0 m σ H0) ∧ ∀ i m σ H, W i m σ H →
      ((Itt K a).stop i H ∧ D.nx σ H) ∨ ((Itt K a).go i H ∧ ∃ N : St → Hp → Prop, (∀ σ' H', N σ' H' → ∃ m', m' < m ∧ W (i + 1) m' σ' H') ∧ ∀ x H', (Itt K a).yld i H x H' → g x σ H' fun σ2 H2 => tb { D with nx := N, ct := N, bk := D.nx } σ2 H2) := by
  obtain ⟨a, vs, rfl, h1, h2⟩ := hv.tup_inv
  refine ⟨a, rfl, ⟨vs, SqT.of h1⟩, for_tup (xs := vs) Pv h0 (fun i σ H _ p => SqT.of ((tx i σ H p).tup h1)) (fun i x σ H hi p => ?_) (fun σ H p => hd σ H (by rw [← h2.length]; exact p))⟩
  obtain ⟨d, h3, h4⟩ := h2.at hi
  exact hs i x d σ H h3 (h4.mono (tx i σ H p)) p
/-- for x in a list of such data, that stays -/
theorem for_listD {K : PySem.W.Frag} {H0 : Hp} {a : Addr} {l : List Da} {g : TG} {tb : TS} {D : Ends} {σ : St} (hv : LD H0 a l) (Pv : Nat → St → Hp → Prop) (h0 : Pv 0 σ H0)
    (tx : ∀ i σ H, Pv i σ H → TX H0 H ∧ H a = H0 a)
    (hs : ∀ i x d σ H, l[i]? = some d → DaAt H x d → Pv i σ H → g x σ H fun σ2 H2 => tb { D with nx := Pv (i + 1), ct := Pv (i + 1), bk := D.nx } σ2 H2) (hd : ∀ σ H, Pv l.length σ H → D.nx σ H) :
    (∃ xs, SqL K H0 a xs) ∧ ∃ W : Nat → Nat → St → Hp → Prop, (∃ m, W 0 m σ H0) ∧ ∀ i m σ H, W i m σ H →
      ((Itl K a).stop i H ∧ D.nx σ H) ∨ ((Itl K a).go i H ∧ ∃ N : St → Hp → Prop, (∀ σ' H', N σ' H' → ∃ m', m' < m ∧ W (i + 1) m' σ' H') ∧ ∀ x H', (Itl K a).yld i H x H' → g x σ H' fun σ2 H2 => tb { D with nx := N, ct := N, bk := D.nx } σ2 H2) := by
  obtain ⟨vs, h1, h2⟩ := hv
  refine ⟨⟨vs, SqL.of h1⟩, for_list (xs := vs) Pv h0 (fun i σ H _ p => SqL.of ((tx i σ H p).2.trans h1)) (fun i x σ H hi p => ?_) (fun σ H p => hd σ H (by rw [← h2.length]; exact p))⟩
  obtain ⟨d, h3, h4⟩ := h2.at hi
  exact hs i x d σ H h3 (h4.mono (tx i σ H p).1) p
/-- [F x for x in t], the element pure -/
theorem lc_tupD {α : Type} {K : PySem.W.Frag} {H0 : Hp} {v : V} {l : List α} {Gm F : α → Da} {g : TG} {tt : TT} {te : TE} {vs : List Nat} {σ : St} {Qd : Addr → Hp → Prop} (hv : DaAt H0 v (.tup (l.map Gm))) (hz : l.length ≤ 1000000)
    (hs : ∀ x d H, d ∈ l → DaAt H x (Gm d) → Same H0 H → ∀ (Q' : V → Hp → Prop) (N : Hp → Prop), (∀ y H', Same H H' → DaAt H' y (F d) → Q' y H') → g x (wipe σ vs) H fun σ2 H2 => wipe σ2 vs = wipe σ vs ∧ tt σ2 H2 fun b H3 =>
      if b = true then te σ2 H3 Q' else N H3)
    (hd : ∀ D H, H0 D = none → Same H0 H → LD H D (l.map F) → Qd D H) :
    ∃ a, v = .ref a ∧ (∃ xs, SqT K H0 a xs) ∧ ∀ D, H0 D = none → ∃ W : Nat → Nat → Hp → Prop, (∃ m, W 0 m (upd H0 D (.lst []))) ∧ ∀ i m H, W i m H →
      ((Itt K a).stop i H ∧ Qd D H) ∨ ((Itt K a).go i H ∧ ∃ Nx : Hp → Prop, (∀ H', Nx H' → ∃ m', m' < m ∧ W (i + 1) m' H') ∧ ∀ x H', (Itt K a).yld i H x H' → g x (wipe σ vs) H' fun σ2 H2 => wipe σ2 vs = wipe σ vs ∧ tt σ2 H2 fun b H3 =>
        if b = true then te σ2 H3 fun y H4 => ∃ acc, H4 D = some (.lst acc) ∧ acc.length < sizeLine ∧ Nx (upd H4 D (.lst (acc ++ [y]))) else Nx H3) := by
  obtain ⟨a, xs, rfl, h1, h2⟩ := hv.tup_inv
  refine ⟨a, rfl, ⟨xs, SqT.of h1⟩, fun D hD => ?_⟩
  have key := lc_tup (K := K) (a := a) (xs := xs) (g := g) (tt := tt) (te := te) (vs := vs) (σ := σ) (H1 := H0) (D := D) (Qd := fun H => Qd D H)
    (fun i H => Same H0 H ∧ LD H D ((l.take i).map F)) ⟨same_put (Same.refl H0) hD _, [], upd_same, by simpa using DasAt.nil⟩ (fun i H _ p => SqT.of (p.1 _ _ h1)) (fun i x H hi p => ?_) (fun H p => hd D H hD p.1 (by
      have := p.2
      rw [h2.length, List.length_map, List.take_length] at this
      exact this))
  · exact key
  · obtain ⟨d0, h3', h4⟩ := h2.at hi
    obtain ⟨d, h3, rfl⟩ : ∃ d, l[i]? = some d ∧ d0 = Gm d := by
      rw [List.getElem?_map] at h3'
      cases e : l[i]? with
      | none => rw [e] at h3'; cases h3'
      | some x => rw [e] at h3'; exact ⟨x, rfl, (Option.some.inj h3').symm⟩
    obtain ⟨s1, acc, h5, h6⟩ := p
    have hl : (l.take (i + 1)).map F = (l.take i).map F ++ [F d] := by
      rw [List.take_add_one, h3]
      simp
    have hil : i < l.length := (List.getElem?_eq_some_iff.mp h3).1
    have hal : acc.length < sizeLine := by
      rw [h6.length, List.length_map, List.length_take, sizeLine_eq]
      omega
    refine hs x d H (List.mem_of_getElem? h3) (h4.mono (TX.of_same s1)) s1 _ _ fun y H' s2 hy => ?_
    refine ⟨acc, s2 _ _ h5, hal, same_put (s1.trans s2) hD _, acc ++ [y], upd_same, ?_⟩
    rw [hl]
    exact ((h6.mono (TX.of_same s2)).append (.one hy)).mono (TX.lst (s2 _ _ h5))
end AB
namespace AB
open PySem PySem.Spec PyProof.Rows L2
section
variable {X : Cx}
theorem ps_st (i : Nat) {x : Str} {e : Expr} {te : TE} {pos pos' : Pos} (hN : X.N.Nodup) (he : PE X e te) (hi : X.N[i]? = some x := by rfl) (hx : Loc X.env.scope x := by first | exact Or.inl rfl | exact Or.inr rfl)
    (hs : swapsWith e (some (.Name x pos')) pos.line X.env = pure false := by rfl) (hf : X.fn x = true ∨ X.env.scope.names.lookup x = some .local := by first | exact .inl rfl | exact .inr rfl | assumption) :
    PS X (.Assign [.Name x pos'] e pos) (tAsg te (gName i)) := ps_set hN hi hx he hs hf
theorem pg_nm (i : Nat) {x : Str} {pos : Pos} (hN : X.N.Nodup) (hi : X.N[i]? = some x := by rfl) (hx : Loc X.env.scope x := by first | exact Or.inl rfl | exact Or.inr rfl) (hf : X.fn x = true ∨ X.env.scope.names.lookup x = some .local := by first | exact .inl rfl | exact .inr rfl | assumption) : PG X (.Name x pos) (gName i) := pg_name hN hi hx hf
theorem pe_app {o e : Expr} {es : List Expr} {to : TE} {t : TA} {apos cpos : Pos} (ho : PE X o to) (ha : PA X (e :: es) t)
    (hbase : attributeBase o "append" X.env (eval o X.env) = eval o X.env := by rfl)
    (hfew : ((backTo cpos (starEach (e :: es) X.env)).all (fun x => !x.1) && (backToKw cpos (keywordEach [] X.env)).all (fun x => x.1.isSome)
      && decide ((e :: es).length + ([] : List Keyword).length + (if ([] : List Keyword).isEmpty then 0 else 1) < 30)) = true := by rfl)
    (hline : (apos.endLine == cpos.line) = true := by rfl) (hs : starEach (e :: es) X.env = (false, eval e X.env) :: starEach es X.env := by rfl) (hplain : (backTo cpos (starEach es X.env)).any (·.1) = false := by rfl) :
    PE X (.Call (.Attribute o "append" apos) (e :: es) [] cpos) (tBM X.K "list" rAppend to t) :=
  pe_bm PySem.F.plainAttrs_list PySem.F.slot_list_append PySem.F.type_list_append mt_append ho ha hbase hfew hline hs hplain
end
end AB
namespace AB
open PySem PySem.Spec PyProof.Rows L2
theorem upd_keep {H : Hp} {a p : Addr} {o u : HO} (h : H a = some u) (hp : H p = none) : upd H p o a = some u := by rw [upd_ne (ne_of_none h hp)]; exact h
theorem same_get {H H' : Hp} {a : Addr} {u : HO} (s : Same H H') (h : H a = some u) : H' a = some u := s _ _ h
theorem upd_none {H : Hp} {p q : Addr} {o : HO} (h : upd H p o q = none) : H q = none := by
  unfold upd at h
  split at h
  · cases h
  · exact h
theorem same_none {H H' : Hp} {q : Addr} (s : Same H H') (h : H' q = none) : H q = none := by
  cases e : H q with
  | none => rfl
  | some o => rw [s _ _ e] at h; cases h
/-- names: one to six small letters -/
def goodName (s : Str) : Prop := 1 ≤ s.length ∧ s.length ≤ 6 ∧ ∀ c ∈ s.cps.toList, 97 ≤ c ∧ c ≤ 122
theorem goodName.okS {s : Str} (h : goodName s) : okS s = true := by
  unfold AB.okS
  rw [← Array.all_toList, List.all_eq_true]
  intro c hc
  have := h.2.2 c hc
  simp only [decide_eq_true_eq]
  omega
theorem app_cps (x y : Str) : (x ++ y).cps.toList = x.cps.toList ++ y.cps.toList := by
  show (x.cps ++ y.cps).toList = _
  simp
theorem len_cps (x : Str) : x.length = x.cps.toList.length := by
  show x.cps.size = _
  simp
theorem foldl_app (l : List (Array Nat)) : ∀ a : Array Nat, (l.foldl (· ++ ·) a).toList = a.toList ++ (l.map Array.toList).flatten := by
  induction l with
  | nil => intro a; simp
  | cons x r ih => intro a; rw [List.foldl_cons, ih]; simp
theorem mul_cps {z : Str} {n : Int} (h : 0 ≤ n) : (Txt.mul z n).cps.toList = (List.replicate n.toNat z.cps.toList).flatten := by
  unfold Txt.mul
  by_cases h1 : n < 1
  · have e : n.toNat = 0 := by omega
    rw [if_pos h1, e]
    rfl
  · rw [if_neg h1]
    by_cases h2 : (n == 1 || z.length == 0) = true
    · rw [if_pos h2]
      rw [Bool.or_eq_true] at h2
      rcases h2 with h2 | h2
      · have e : n = 1 := by simpa using h2
        subst e
        simp
      · have e : z.cps.toList = [] := by
          have : z.length = 0 := by simpa using h2
          rw [len_cps] at this
          exact List.length_eq_zero_iff.mp this
        rw [e]
        simp
    · rw [if_neg h2]
      rw [foldl_app]
      simp
theorem flat_rep {α : Type} (c : α) : ∀ n : Nat, (List.replicate n [c]).flatten = List.replicate n c
  | 0 => rfl
  | n + 1 => by rw [List.replicate_succ, List.flatten_cons, flat_rep c n, List.replicate_succ]; rfl
theorem abc_at {i : Int} (h0 : 0 ≤ i) (h1 : i < 26) : ∃ c, atI ("abcdefghijklmnopqrstuvwxyz" : Str).cps.toList i = some c ∧ 97 ≤ c ∧ c ≤ 122 := by
  have key : ∀ n : Fin 26, ∃ c, atI ("abcdefghijklmnopqrstuvwxyz" : Str).cps.toList ((n.val : Nat) : Int) = some c ∧ 97 ≤ c ∧ c ≤ 122 := by
    intro n
    refine ⟨97 + n.val, ?_, by omega, by omega⟩
    revert n
    decide +kernel
  obtain ⟨c, h2, h3⟩ := key ⟨i.toNat, by omega⟩
  refine ⟨c, ?_, h3⟩
  rw [show i = ((i.toNat : Nat) : Int) by omega]
  exact h2
mutual
def Tm.count : Tm → Nat
  | .mk _ ps => 1 + Tm.counts ps
def Tm.counts : List Tm → Nat
  | [] => 0
  | t :: r => t.count + Tm.counts r
end
mutual
def Tm.good : Tm → Prop
  | .mk n ps => goodName n ∧ ps.length ≤ 3 ∧ Tm.goods ps
def Tm.goods : List Tm → Prop
  | [] => True
  | t :: r => t.good ∧ Tm.goods r
end
theorem Tm.goods_iff : ∀ {l : List Tm}, Tm.goods l ↔ ∀ t ∈ l, t.good
  | [] => by simp [Tm.goods]
  | x :: r => by simp [Tm.goods, Tm.goods_iff (l := r)]
mutual
theorem Tm.good_ok : ∀ {t : Tm}, t.good → t.ok = true
  | .mk n ps, h => by
    simp only [Tm.good] at h
    simp only [Tm.ok, h.1.okS, Tm.goods_ok h.2.2, Bool.and_self]
theorem Tm.goods_ok : ∀ {l : List Tm}, Tm.goods l → Tm.oks l = true
  | [], _ => rfl
  | t :: r, h => by
    simp only [Tm.goods] at h
    simp only [Tm.oks, Tm.good_ok h.1, Tm.goods_ok h.2, Bool.and_self]
end
mutual
theorem Tm.depth_count : ∀ t : Tm, t.depth ≤ t.count
  | .mk n ps => by
    have := Tm.depths_counts ps
    simp only [Tm.depth, Tm.count]
    omega
theorem Tm.depths_counts : ∀ l : List Tm, Tm.depths l ≤ Tm.counts l
  | [] => by simp [Tm.depths]
  | t :: r => by
    have h1 := Tm.depth_count t
    have h2 := Tm.depths_counts r
    simp only [Tm.depths, Tm.counts]
    omega
end
theorem Tm.good_okD {t : Tm} (h : t.good) (hd : t.depth ≤ 60) : okD t.da := ⟨by rw [Tm.da_ok]; exact Tm.good_ok h, by rw [Tm.da_depth]; exact hd⟩
/-- the script -/
def ScAt (K : PySem.W.Frag) (H : Hp) (a : Addr) (ns : List Int) : Prop := (∃ o, H a = some (.frz o (.lst (ns.map V.int)))) ∨ ∀ H', SqL K H' a (ns.map V.int)
theorem ScAt.sq {K : PySem.W.Frag} {H : Hp} {a : Addr} {ns : List Int} (h : ScAt K H a ns) : SqL K H a (ns.map V.int) := by
  rcases h with ⟨o, h⟩ | h
  · exact .inl (.inr ⟨o, h⟩)
  · exact h H
theorem ScAt.mono {K : PySem.W.Frag} {H H' : Hp} {a : Addr} {ns : List Int} (t : TX H H') (h : ScAt K H a ns) : ScAt K H' a ns := by
  rcases h with ⟨o, h⟩ | h
  · exact .inl ⟨o, t.frz h⟩
  · exact .inr h
/-- where several ways meet behind a statement: what holds there is said -/
def tCut (t : TS) : TS := fun D σ H => ∃ P : St → Hp → Prop, t { D with nx := P } σ H ∧ ∀ σ' H', P σ' H' → D.nx σ' H'
theorem ps_cut {X : Cx} {st : Stmt} {t : TS} (h : PS X st t) : PS X st (tCut t) := by
  refine ⟨fun pins s σ H D I hw => ?_⟩
  obtain ⟨P, h1, h2⟩ := hw
  refine thn (h.run pins s σ H { D with nx := P } I h1) fun f s' q => ?_
  cases f with
  | next => obtain ⟨σ', H', I', q⟩ := q; exact ⟨σ', H', I', h2 _ _ q⟩
  | brk => exact q
  | cont => exact q
  | ret u => exact q
section
variable {X : Cx} {es : List Expr} {t : TA} {pos : Pos}
/-- a tuple of data -/
def tTupD (t : TA) : TE := fun σ H Q => t σ H fun xs H1 => ∃ ds, DasAt H1 xs ds ∧ ds.length ≤ 1000000 ∧ ∀ v H', Same H1 H' → DaAt H' v (.tup ds) → Q v H'
theorem pe_tupD {x1} (h : PA X es t) : PE X (.Tuple es x1 pos) (tTupD t) := by
  refine ⟨fun pins s σ H Q I hq => ?_⟩
  refine wpAny_Tuple_spliced (thn (h.run pos pins s σ H _ I hq) fun us s1 ⟨xs, H1, I1, r, ds, hd, z, q⟩ => ?_)
  have hz : xs.length ≤ sizeLine := by rw [hd.length, sizeLine_eq]; omega
  have hf : H1 s1.heap.objs.size = none := I1.hok.fresh (Nat.le_refl _)
  refine ⟨by rw [← r.length]; exact hz, .ref s1.heap.objs.size, upd H1 s1.heap.objs.size (.tup xs), I1.laid (t' := s1.toks) (fun b u e => Heap.get?_push_of_some _ e) (Nat.le_refl _) ?_, rfl, q _ _ (same_new hf _) (.tup upd_same (hd.mono (TX.new hf)))⟩
  exact ⟨hz, us, r, ⟨_, Heap.get?_push_size _ rfl, rfl, _, rfl⟩⟩
/-- a list, told by what stands there -/
def tLstA (t : TA) : TE := fun σ H Q => t σ H fun xs H1 => xs.length ≤ sizeLine ∧ ∀ p H', H1 p = none → Same H1 H' → H' p = some (.lst xs) → Q (.ref p) H'
theorem pe_lstA (h : PA X es t) : PE X (.List es pos) (tLstA t) := by
  refine ⟨fun pins s σ H Q I hq => ?_⟩
  refine wpAny_List_spliced (thn (h.run pos pins s σ H _ I hq) fun us s1 ⟨xs, H1, I1, r, z, q⟩ => ⟨by rw [← r.length]; exact z, ?_⟩)
  have hf : H1 s1.heap.objs.size = none := I1.hok.fresh (Nat.le_refl _)
  refine ⟨.ref s1.heap.objs.size, upd H1 s1.heap.objs.size (.lst xs), I1.laid (t' := s1.toks) (fun b u e => Heap.get?_push_of_some _ e) (Nat.le_refl _) ?_, rfl, q _ _ hf (same_new hf _) upd_same⟩
  exact ⟨z, us, 0, r, Heap.get?_push_size _ rfl⟩
end
theorem at0 {α : Type} {x : α} {l : List α} : atI (x :: l) 0 = some x := atI_nat (xs := x :: l) (j := 0) (v := x) rfl
theorem at1 {α : Type} {x y : α} {l : List α} : atI (x :: y :: l) 1 = some y := atI_nat (xs := x :: y :: l) (j := 1) (v := y) rfl
theorem at2 {α : Type} {x y z : α} {l : List α} : atI (x :: y :: z :: l) 2 = some z := atI_nat (xs := x :: y :: z :: l) (j := 2) (v := z) rfl
/-- a def of the head's facts -/
theorem At.of_fun {e : Ev} {x : Str} {ps : List Str} {st : Stmt} {f : Addr} {fd : FuncData} (F : FunD e.K x x (defArgs st) (defBody st) (defScope st) [] [] f fd) (m : e.mg x = some (.ref f))
    (h : ∀ (kV doc pm : Value) (an : Option Addr) (cdv ct : Value) (us : List Value), us.length = ps.length → bindArgs (PySem.W.fnOf x x (defArgs st) (defBody st) (defScope st) .none kV doc pm an cdv ct) ⟨us, []⟩ = pure (ps.zip us)) : At e x ps st :=
  ⟨f, fd, F, m, F.bindsN h⟩
end AB
namespace AB
open PySem PySem.Spec PyProof.Rows L2
section
variable {X : Cx}
/-- a list beside a new empty one -/
def rEqNil (K : PySem.W.Frag) (neg : Bool) : R2 := fun x y H Q => ∃ a b xs, x = .ref a ∧ y = .ref b ∧ SqL K H a xs ∧ H b = some (.lst []) ∧ Q (.bl (if neg then !xs.isEmpty else xs.isEmpty)) H
theorem op_eqNil (hu : X.A.units + 64 < cLine) : OpR X (compareOp .Eq) (rEqNil X.K false) := by
  intro pins s σ H x y v u Q I rx ry h
  obtain ⟨a, b, xs, rfl, rfl, hx, hy, q⟩ := h
  obtain rfl : v = Value.ref a := rx
  obtain rfl : u = Value.ref b := ry
  obtain ⟨its, r, ⟨o, n, g, hc, hd, hs⟩, z⟩ := I.list hx
  obtain ⟨its2, r2, ⟨o2, n2, g2, hc2, hd2, hs2⟩, z2⟩ := I.list (SqL.of hy)
  have h1 : s.heap.IsList a its.toArray := ⟨o, g, hc, n, hs⟩
  have h2 : s.heap.IsList b its2.toArray := ⟨o2, g2, hc2, n2, hs2⟩
  have e2 : its2 = [] := by cases r2; rfl
  subst e2
  cases r with
  | nil => exact SeqAt.eq_listAt (e := fun _ => true) h1 h2 rfl (by omega) (fun j h => absurd h (by simp)) ⟨.bl _, H, I, rfl, q⟩
  | cons r0 r => exact SeqAt.eq_list_lengthsAt h1 h2 (by simp) (by omega) ⟨.bl _, H, I, rfl, q⟩
theorem op_neNil (hu : X.A.units + 64 < cLine) : OpR X (compareOp .NotEq) (rEqNil X.K true) := by
  intro pins s σ H x y v u Q I rx ry h
  obtain ⟨a, b, xs, rfl, rfl, hx, hy, q⟩ := h
  obtain rfl : v = Value.ref a := rx
  obtain rfl : u = Value.ref b := ry
  obtain ⟨its, r, ⟨o, n, g, hc, hd, hs⟩, z⟩ := I.list hx
  obtain ⟨its2, r2, ⟨o2, n2, g2, hc2, hd2, hs2⟩, z2⟩ := I.list (SqL.of hy)
  have h1 : s.heap.IsList a its.toArray := ⟨o, g, hc, n, hs⟩
  have h2 : s.heap.IsList b its2.toArray := ⟨o2, g2, hc2, n2, hs2⟩
  have e2 : its2 = [] := by cases r2; rfl
  subst e2
  cases r with
  | nil => exact SeqAt.RcNeAt.lists (e := fun _ => true) h1 h2 rfl (by omega) (fun j h => absurd h (by simp)) _ _ _ _ ⟨.bl _, H, I, rfl, q⟩
  | cons r0 r => exact SeqAt.RcNeAt.lists_lengths h1 h2 (by simp) (by omega) _ _ _ _ ⟨.bl _, H, I, rfl, q⟩
end
end AB
namespace AB
open PySem PySem.Spec PyProof.Rows L2
/-- element by element -/
inductive All2 {α : Type} (R : α → V → Prop) : List α → List V → Prop
  | nil : All2 R [] []
  | cons {x v l vs} (h : R x v) (t : All2 R l vs) : All2 R (x :: l) (v :: vs)
theorem All2.imp {α : Type} {R S : α → V → Prop} (h : ∀ x v, R x v → S x v) : ∀ {l : List α} {vs : List V}, All2 R l vs → All2 S l vs
  | _, _, .nil => .nil
  | _, _, .cons a t => .cons (h _ _ a) (t.imp h)
theorem All2.append {α : Type} {R : α → V → Prop} : ∀ {l m : List α} {vs ws : List V}, All2 R l vs → All2 R m ws → All2 R (l ++ m) (vs ++ ws)
  | _, _, _, _, .nil, h => h
  | _, _, _, _, .cons a t, h => .cons a (t.append h)
theorem All2.length {α : Type} {R : α → V → Prop} : ∀ {l : List α} {vs : List V}, All2 R l vs → vs.length = l.length
  | _, _, .nil => rfl
  | _, _, .cons _ t => by simp [t.length]
theorem All2.das {α : Type} {H : Hp} {F : α → Da} : ∀ {l : List α} {vs : List V}, All2 (fun d w => DaAt H w (F d)) l vs → DasAt H vs (l.map F)
  | _, _, .nil => .nil
  | _, _, .cons a t => .cons a t.das
theorem All2.eqs {α : Type} {F : α → V} : ∀ {l : List α} {vs : List V}, All2 (fun d w => w = F d) l vs → vs = l.map F
  | _, _, .nil => rfl
  | _, _, .cons a t => by rw [a, t.eqs]; rfl
section
variable {α : Type} {K : PySem.W.Frag} {H0 : Hp} {l : List α} {Gm : α → Da} {pr : α → Bool} {R : α → V → Hp → Prop} {g : TG} {tt : TT} {te : TE} {vs : List Nat} {σ : St} {Qd : Addr → Hp → Prop}
/-- what a turn of a comprehension over such data has to show -/
def LcTurn (H0 : Hp) (l : List α) (Gm : α → Da) (pr : α → Bool) (R : α → V → Hp → Prop) (g : TG) (tt : TT) (te : TE) (vs : List Nat) (σ : St) : Prop :=
  ∀ x d H, d ∈ l → DaAt H x (Gm d) → Same H0 H → ∀ (Q' : V → Hp → Prop) (N : Hp → Prop), (pr d = true → ∀ y H', Same H H' → R d y H' → Q' y H') → (pr d = false → ∀ H', Same H H' → N H') →
    g x (wipe σ vs) H fun σ2 H2 => wipe σ2 vs = wipe σ vs ∧ tt σ2 H2 fun b H3 => if b = true then te σ2 H3 Q' else N H3
theorem lcg_step (hR : ∀ x v H H', TX H H' → R x v H → R x v H') (hz : l.length ≤ 1000000) (hs : LcTurn H0 l Gm pr R g tt te vs σ) {xs : List V} (h2 : DasAt H0 xs (l.map Gm)) {D : Addr} (hD : H0 D = none) (i : Nat) (x : V) (H : Hp) (hi : xs[i]? = some x)
    (p : Same H0 H ∧ ∃ acc, H D = some (.lst acc) ∧ All2 (fun d w => R d w H) ((l.take i).filter pr) acc) : g x (wipe σ vs) H fun σ2 H2 => wipe σ2 vs = wipe σ vs ∧ tt σ2 H2 fun b H3 =>
      if b = true then te σ2 H3 fun y H4 => ∃ acc, H4 D = some (.lst acc) ∧ acc.length < sizeLine ∧ (Same H0 (upd H4 D (.lst (acc ++ [y]))) ∧ ∃ acc', upd H4 D (.lst (acc ++ [y])) D = some (.lst acc') ∧ All2 (fun d w => R d w (upd H4 D (.lst (acc ++ [y])))) ((l.take (i + 1)).filter pr) acc')
        else (Same H0 H3 ∧ ∃ acc, H3 D = some (.lst acc) ∧ All2 (fun d w => R d w H3) ((l.take (i + 1)).filter pr) acc) := by
  obtain ⟨d0, h3', h4⟩ := h2.at hi
  obtain ⟨d, h3, rfl⟩ : ∃ d, l[i]? = some d ∧ d0 = Gm d := by
    rw [List.getElem?_map] at h3'
    cases e : l[i]? with
    | none => rw [e] at h3'; cases h3'
    | some x => rw [e] at h3'; exact ⟨x, rfl, (Option.some.inj h3').symm⟩
  obtain ⟨s1, acc, h5, h6⟩ := p
  have hl : (l.take (i + 1)).filter pr = (l.take i).filter pr ++ (if pr d = true then [d] else []) := by
    rw [List.take_add_one, h3, List.filter_append]
    simp only [Option.toList_some, List.filter_cons, List.filter_nil]
  have hal : acc.length < sizeLine := by
    have h7 := h6.length
    have h8 := List.length_filter_le pr (l.take i)
    rw [List.length_take] at h8
    rw [sizeLine_eq]
    omega
  refine hs x d H (List.mem_of_getElem? h3) (h4.mono (TX.of_same s1)) s1 _ _ (fun hp y H' s2 hy => ?_) (fun hp H' s2 => ?_)
  · refine ⟨acc, s2 _ _ h5, hal, same_put (s1.trans s2) hD _, acc ++ [y], upd_same, ?_⟩
    rw [hl, if_pos hp]
    have X := TX.lst (o := .lst (acc ++ [y])) (s2 _ _ h5)
    exact ((h6.imp fun x v h => hR _ _ _ _ (TX.of_same s2) h).append (.cons hy .nil)).imp fun x v h => hR _ _ _ _ X h
  · refine ⟨s1.trans s2, acc, s2 _ _ h5, ?_⟩
    rw [hl, if_neg (by rw [hp]; decide), List.append_nil]
    exact h6.imp fun x v h => hR _ _ _ _ (TX.of_same s2) h
/-- [F x for x in t if p] -/
theorem lc_tupG {v : V} (hv : DaAt H0 v (.tup (l.map Gm))) (hR : ∀ x v H H', TX H H' → R x v H → R x v H') (hz : l.length ≤ 1000000) (hs : LcTurn H0 l Gm pr R g tt te vs σ)
    (hd : ∀ D H ws, H0 D = none → Same H0 H → H D = some (.lst ws) → All2 (fun d w => R d w H) (l.filter pr) ws → Qd D H) :
    ∃ a, v = .ref a ∧ (∃ xs, SqT K H0 a xs) ∧ ∀ D, H0 D = none → ∃ W : Nat → Nat → Hp → Prop, (∃ m, W 0 m (upd H0 D (.lst []))) ∧ ∀ i m H, W i m H →
      ((Itt K a).stop i H ∧ Qd D H) ∨ ((Itt K a).go i H ∧ ∃ Nx : Hp → Prop, (∀ H', Nx H' → ∃ m', m' < m ∧ W (i + 1) m' H') ∧ ∀ x H', (Itt K a).yld i H x H' → g x (wipe σ vs) H' fun σ2 H2 => wipe σ2 vs = wipe σ vs ∧ tt σ2 H2 fun b H3 =>
        if b = true then te σ2 H3 fun y H4 => ∃ acc, H4 D = some (.lst acc) ∧ acc.length < sizeLine ∧ Nx (upd H4 D (.lst (acc ++ [y]))) else Nx H3) := by
  obtain ⟨a, xs, rfl, h1, h2⟩ := hv.tup_inv
  refine ⟨a, rfl, ⟨xs, SqT.of h1⟩, fun D hD => ?_⟩
  exact lc_tup (K := K) (a := a) (xs := xs) (Qd := fun H => Qd D H) (fun i H => Same H0 H ∧ ∃ acc, H D = some (.lst acc) ∧ All2 (fun d w => R d w H) ((l.take i).filter pr) acc)
    ⟨same_put (Same.refl H0) hD _, [], upd_same, .nil⟩ (fun i H _ p => SqT.of (p.1 _ _ h1)) (fun i x H hi p => lcg_step hR hz hs h2 hD i x H hi p) (fun H p => by
      obtain ⟨s, acc, h5, h6⟩ := p
      rw [h2.length, List.length_map, List.take_length] at h6
      exact hd D H acc hD s h5 h6)
/-- the same over a list -/
theorem lc_listG {a : Addr} (hv : LD H0 a (l.map Gm)) (hR : ∀ x v H H', TX H H' → R x v H → R x v H') (hz : l.length ≤ 1000000) (hs : LcTurn H0 l Gm pr R g tt te vs σ)
    (hd : ∀ D H ws, H0 D = none → Same H0 H → H D = some (.lst ws) → All2 (fun d w => R d w H) (l.filter pr) ws → Qd D H) :
    (∃ xs, SqL K H0 a xs) ∧ ∀ D, H0 D = none → ∃ W : Nat → Nat → Hp → Prop, (∃ m, W 0 m (upd H0 D (.lst []))) ∧ ∀ i m H, W i m H →
      ((Itl K a).stop i H ∧ Qd D H) ∨ ((Itl K a).go i H ∧ ∃ Nx : Hp → Prop, (∀ H', Nx H' → ∃ m', m' < m ∧ W (i + 1) m' H') ∧ ∀ x H', (Itl K a).yld i H x H' → g x (wipe σ vs) H' fun σ2 H2 => wipe σ2 vs = wipe σ vs ∧ tt σ2 H2 fun b H3 =>
        if b = true then te σ2 H3 fun y H4 => ∃ acc, H4 D = some (.lst acc) ∧ acc.length < sizeLine ∧ Nx (upd H4 D (.lst (acc ++ [y]))) else Nx H3) := by
  obtain ⟨xs, h1, h2⟩ := hv
  refine ⟨⟨xs, SqL.of h1⟩, fun D hD => ?_⟩
  exact lc_list (K := K) (a := a) (xs := xs) (Qd := fun H => Qd D H) (fun i H => Same H0 H ∧ ∃ acc, H D = some (.lst acc) ∧ All2 (fun d w => R d w H) ((l.take i).filter pr) acc)
    ⟨same_put (Same.refl H0) hD _, [], upd_same, .nil⟩ (fun i H _ p => SqL.of (p.1 _ _ h1)) (fun i x H hi p => lcg_step hR hz hs h2 hD i x H hi p) (fun H p => by
      obtain ⟨s, acc, h5, h6⟩ := p
      rw [h2.length, List.length_map, List.take_length] at h6
      exact hd D H acc hD s h5 h6)
end
end AB

set_option Elab.async false
set_option linter.all false
set_option maxRecDepth 100000
namespace AB
open PySem PySem.Spec PyProof.Rows L2
/-! ### parts_of -/
/-- xs put behind acc, each that isn't there yet -/
def dd {α : Type} [DecidableEq α] (acc : List α) : List α → List α
  | [] => acc
  | x :: r => dd (if x ∈ acc then acc else acc ++ [x]) r
theorem dd_snoc {α : Type} [DecidableEq α] : ∀ (xs : List α) (acc : List α) (x : α), dd acc (xs ++ [x]) = if x ∈ dd acc xs then dd acc xs else dd acc xs ++ [x]
  | [], acc, x => rfl
  | y :: r, acc, x => by
    show dd _ (r ++ [x]) = _
    rw [dd_snoc r]
    rfl
theorem dd_mem {α : Type} [DecidableEq α] : ∀ (xs : List α) (acc : List α) (x : α), x ∈ dd acc xs ↔ x ∈ acc ∨ x ∈ xs
  | [], acc, x => by simp [dd]
  | y :: r, acc, x => by
    show x ∈ dd _ r ↔ _
    rw [dd_mem r]
    split
    · rename_i h
      constructor
      · rintro (h1 | h1)
        · exact .inl h1
        · exact .inr (by simp [h1])
      · rintro (h1 | h1)
        · exact .inl h1
        · rcases List.mem_cons.mp h1 with rfl | h1
          · exact .inl h
          · exact .inr h1
    · rw [List.mem_append, List.mem_singleton, List.mem_cons, or_assoc]
theorem dd_len {α : Type} [DecidableEq α] : ∀ (xs : List α) (acc : List α), (dd acc xs).length ≤ acc.length + xs.length
  | [], acc => by simp [dd]
  | y :: r, acc => by
    have h := dd_len r (if y ∈ acc then acc else acc ++ [y])
    have h2 : (if y ∈ acc then acc else acc ++ [y]).length ≤ acc.length + 1 := by
      split
      · omega
      · rw [List.length_append, List.length_singleton]; exact Nat.le_refl _
    show (dd (if y ∈ acc then acc else acc ++ [y]) r).length ≤ _
    rw [List.length_cons]
    omega
theorem dd_map {α β : Type} [DecidableEq α] [DecidableEq β] (f : α → β) (hf : ∀ a b, f a = f b → a = b) : ∀ (xs acc : List α), (dd acc xs).map f = dd (acc.map f) (xs.map f)
  | [], acc => rfl
  | x :: r, acc => by
    show (dd _ r).map f = dd _ (r.map f)
    rw [dd_map f hf r]
    by_cases h : x ∈ acc
    · rw [if_pos h, if_pos (List.mem_map_of_mem h)]
    · have h2 : ¬ f x ∈ acc.map f := fun z => by
        obtain ⟨y, hy, e⟩ := List.mem_map.mp z
        exact h (hf _ _ e ▸ hy)
      rw [if_neg h, if_neg h2, List.map_append]
      rfl
mutual
/-- all terms that stand in a term, itself last, each once -/
def Tm.subs : Tm → List Tm
  | .mk n ps => Tm.subss [] ps ++ [.mk n ps]
def Tm.subss (acc : List Tm) : List Tm → List Tm
  | [] => acc
  | p :: r => Tm.subss (dd acc p.subs) r
end
theorem Tm.subss_snoc : ∀ (l acc : List Tm) (p : Tm), Tm.subss acc (l ++ [p]) = dd (Tm.subss acc l) p.subs
  | [], acc, p => rfl
  | q :: r, acc, p => by
    show Tm.subss _ (r ++ [p]) = _
    rw [Tm.subss_snoc r]
    rfl
mutual
theorem Tm.subs_len : ∀ t : Tm, t.subs.length ≤ t.count
  | .mk n ps => by
    have := Tm.subss_len ps []
    simp only [Tm.subs, Tm.count, List.length_append, List.length_singleton]
    simp only [List.length_nil] at this
    omega
theorem Tm.subss_len : ∀ (l acc : List Tm), (Tm.subss acc l).length ≤ acc.length + Tm.counts l
  | [], acc => by simp [Tm.subss]
  | p :: r, acc => by
    have h1 := Tm.subs_len p
    have h2 := Tm.subss_len r (dd acc p.subs)
    have h3 := dd_len p.subs acc
    simp only [Tm.subss, Tm.counts]
    omega
end
mutual
theorem Tm.subs_depth : ∀ (t x : Tm), x ∈ t.subs → x.depth ≤ t.depth
  | .mk n ps, x, h => by
    simp only [Tm.subs, List.mem_append, List.mem_singleton] at h
    rcases h with h | rfl
    · have h2 := Tm.subss_depth ps [] x h
      simp only [List.not_mem_nil, false_or] at h2
      simp only [Tm.depth]
      omega
    · exact Nat.le_refl _
theorem Tm.subss_depth : ∀ (l acc : List Tm) (x : Tm), x ∈ Tm.subss acc l → x ∈ acc ∨ x.depth ≤ Tm.depths l
  | [], acc, x, h => .inl h
  | p :: r, acc, x, h => by
    rcases Tm.subss_depth r _ x h with h1 | h1
    · rcases (dd_mem _ _ _).mp h1 with h1 | h1
      · exact .inl h1
      · have := Tm.subs_depth p x h1
        exact .inr (by simp only [Tm.depths]; omega)
    · exact .inr (by simp only [Tm.depths]; omega)
end
mutual
theorem Tm.subs_ok : ∀ (t x : Tm), t.ok = true → x ∈ t.subs → x.ok = true
  | .mk n ps, x, hk, h => by
    simp only [Tm.subs, List.mem_append, List.mem_singleton] at h
    rcases h with h | rfl
    · simp only [Tm.ok, Bool.and_eq_true] at hk
      rcases Tm.subss_ok ps [] x hk.2 h with h1 | h1
      · simp at h1
      · exact h1
    · exact hk
theorem Tm.subss_ok : ∀ (l acc : List Tm) (x : Tm), Tm.oks l = true → x ∈ Tm.subss acc l → x ∈ acc ∨ x.ok = true
  | [], acc, x, _, h => .inl h
  | p :: r, acc, x, hk, h => by
    simp only [Tm.oks, Bool.and_eq_true] at hk
    rcases Tm.subss_ok r _ x hk.2 h with h1 | h1
    · rcases (dd_mem _ _ _).mp h1 with h1 | h1
      · exact .inl h1
      · exact .inr (Tm.subs_ok p x hk.1 h1)
    · exact .inr h1
end
/-- a term that may be compared: its texts are texts, not too deep, not too many names -/
structure okT (t : Tm) : Prop where
  ok : t.ok = true
  dp : t.depth ≤ 50
  ct : t.count ≤ 100000
theorem okT.da {t : Tm} (h : okT t) : okD t.da := ⟨by rw [Tm.da_ok]; exact h.ok, by rw [Tm.da_depth]; exact Nat.le_trans h.dp (by decide)⟩
theorem Tm.counts_mem : ∀ {l : List Tm} {t : Tm}, t ∈ l → t.count ≤ Tm.counts l
  | [], _, h => by simp at h
  | x :: r, t, h => by
    simp only [Tm.counts]
    rcases List.mem_cons.mp h with rfl | h
    · omega
    · have := Tm.counts_mem h
      omega
theorem okT.part {t p : Tm} (h : okT t) (hp : p ∈ t.parts) : okT p := by
  refine ⟨Tm.parts_ok h.ok hp, Nat.le_trans (Nat.le_of_lt (Tm.parts_depth hp)) h.dp, ?_⟩
  cases t with
  | mk n ps =>
    have h1 := Tm.counts_mem (show p ∈ ps from hp)
    have h2 := h.ct
    simp only [Tm.count] at h2
    omega
theorem okT.subs {t x : Tm} (h : okT t) (hx : x ∈ t.subs) : okD x.da := ⟨by rw [Tm.da_ok]; exact Tm.subs_ok t x h.ok hx, by rw [Tm.da_depth]; exact Nat.le_trans (Tm.subs_depth t x hx) (Nat.le_trans h.dp (by decide))⟩
theorem okL_map {l : List Tm} (h : ∀ t ∈ l, okD t.da) : okL (l.map Tm.da) := fun d hd => by
  obtain ⟨t, ht, rfl⟩ := List.mem_map.mp hd
  exact h t ht
theorem mem_das {l : List Tm} {t : Tm} : t.da ∈ l.map Tm.da ↔ t ∈ l := ⟨fun h => by
  obtain ⟨x, hx, e⟩ := List.mem_map.mp h
  exact Tm.da_inj _ _ e ▸ hx, fun h => List.mem_map_of_mem h⟩
theorem Tm.da_tail (t : Tm) {l : List Da} (h : t.da = .tup l) : l = .str t.name :: t.parts.map Tm.da := by
  rw [Tm.da_eq] at h
  injection h with h
  exact h.symm
theorem take_snoc {α : Type} {l : List α} {i : Nat} {x : α} (h : l[i]? = some x) : l.take (i + 1) = l.take i ++ [x] := by
  rw [List.take_add_one, h]
  rfl
theorem map_get {α β : Type} {f : α → β} {l : List α} {i : Nat} {y : β} (h : (l.map f)[i]? = some y) : ∃ x, l[i]? = some x ∧ y = f x := by
  rw [List.getElem?_map] at h
  cases e : l[i]? with
  | none => rw [e] at h; cases h
  | some x =>
    rw [e] at h
    exact ⟨x, rfl, (Option.some.inj h).symm⟩
def spParts (n : Nat) : Sp := fun vs H Q _ => ∃ (v : V) (t : Tm), vs = [v] ∧ DaAt H v t.da ∧ okT t ∧ t.depth ≤ n ∧ ∀ r H', H r = none → Same H H' → LD H' r (t.subs.map Tm.da) → Q (.ref r) H'
theorem Tm.counts_take (l : List Tm) : ∀ i : Nat, Tm.counts (l.take i) ≤ Tm.counts l := by
  induction l with
  | nil => intro i; simp
  | cons z r ih =>
    intro i
    cases i with
    | zero => simp [Tm.counts]
    | succ i =>
      have := ih i
      simp only [List.take_succ_cons, Tm.counts]
      omega
theorem Tm.counts_parts (t : Tm) : Tm.counts t.parts + 1 = t.count := by
  cases t with
  | mk n ps => simp only [Tm.parts, Tm.count]; omega
/-! ### terms: is_name, names_in, is_term, need_term -/
def letter (c : Nat) : Bool := decide (97 ≤ c) && decide (c ≤ 122)
theorem letter_iff {c : Nat} : letter c = true ↔ 97 ≤ c ∧ c ≤ 122 := by simp [letter]
theorem abc_cps : ("abcdefghijklmnopqrstuvwxyz" : Str).cps.toList = List.range' 97 26 := by decide +kernel
theorem abc_mem {c : Nat} : c ∈ ("abcdefghijklmnopqrstuvwxyz" : Str).cps.toList ↔ letter c = true := by
  rw [abc_cps, List.mem_range'_1, letter_iff]
  omega
theorem abc_dec (c : Nat) : decide (c ∈ ("abcdefghijklmnopqrstuvwxyz" : Str).cps.toList) = letter c := by
  cases h : letter c with
  | true => exact decide_eq_true (abc_mem.mpr h)
  | false => exact decide_eq_false fun z => by rw [abc_mem.mp z] at h; cases h
/-- a name's test -/
def nameB (z : Str) : Bool := z.cps.toList.all letter && (decide (1 ≤ z.length) && decide (z.length ≤ 6))
theorem nameB_iff {z : Str} : nameB z = true ↔ goodName z := by
  unfold nameB goodName
  simp only [Bool.and_eq_true, List.all_eq_true, decide_eq_true_eq, letter_iff]
  constructor
  · rintro ⟨h, h1, h2⟩; exact ⟨h1, h2, h⟩
  · rintro ⟨h1, h2, h⟩; exact ⟨h, h1, h2⟩
mutual
/-- a term's test, however many names -/
def Tm.goodB : Tm → Bool
  | .mk n ps => (nameB n && decide (ps.length ≤ 3)) && Tm.goodsB ps
def Tm.goodsB : List Tm → Bool
  | [] => true
  | t :: r => t.goodB && Tm.goodsB r
end
mutual
theorem Tm.goodB_iff : ∀ {t : Tm}, t.goodB = true ↔ t.good
  | .mk n ps => by
    have h := Tm.goodsB_iff (l := ps)
    simp only [Tm.goodB, Tm.good, Bool.and_eq_true, decide_eq_true_eq, nameB_iff, h, and_assoc]
theorem Tm.goodsB_iff : ∀ {l : List Tm}, Tm.goodsB l = true ↔ Tm.goods l
  | [] => by simp [Tm.goodsB, Tm.goods]
  | t :: r => by simp only [Tm.goodsB, Tm.goods, Bool.and_eq_true, Tm.goodB_iff (t := t), Tm.goodsB_iff (l := r)]
end
mutual
/-- names of a length that a text may have -/
def Tm.short : Tm → Prop
  | .mk n ps => n.length ≤ 1000 ∧ ps.length ≤ 1000 ∧ Tm.shorts ps
def Tm.shorts : List Tm → Prop
  | [] => True
  | t :: r => t.short ∧ Tm.shorts r
end
theorem Tm.shorts_iff : ∀ {l : List Tm}, Tm.shorts l ↔ ∀ t ∈ l, t.short
  | [] => by simp [Tm.shorts]
  | x :: r => by simp [Tm.shorts, Tm.shorts_iff (l := r)]
mutual
theorem Tm.good_short : ∀ {t : Tm}, t.good → t.short
  | .mk n ps, h => by
    simp only [Tm.good] at h
    have := h.1.2.1
    exact ⟨by omega, by omega, Tm.goods_shorts h.2.2⟩
theorem Tm.goods_shorts : ∀ {l : List Tm}, Tm.goods l → Tm.shorts l
  | [], _ => trivial
  | t :: r, h => ⟨Tm.good_short h.1, Tm.goods_shorts h.2⟩
end
theorem Tm.short_name {t : Tm} (h : t.short) : t.name.length ≤ 1000 := by cases t with | mk n ps => exact h.1
theorem Tm.short_len {t : Tm} (h : t.short) : t.parts.length ≤ 1000 := by cases t with | mk n ps => exact h.2.1
theorem Tm.short_part {t p : Tm} (h : t.short) (hp : p ∈ t.parts) : p.short := by cases t with | mk n ps => exact Tm.shorts_iff.mp h.2.2 p hp
theorem Tm.count_part {t p : Tm} (hp : p ∈ t.parts) : p.count < t.count := by
  cases t with
  | mk n ps =>
    have h1 := Tm.counts_mem (show p ∈ ps from hp)
    simp only [Tm.count]
    omega
theorem Tm.depth_pos (t : Tm) : 0 < t.depth := by cases t with | mk n ps => simp only [Tm.depth]; omega
def spIsName : Sp := fun vs H Q _ => ∃ z : Str, vs = [.str z] ∧ z.length ≤ 1000000 ∧ Q (.bl (nameB z)) H
def spNames (n : Nat) : Sp := fun vs H Q _ => ∃ (v : V) (t : Tm), vs = [v] ∧ DaAt H v t.da ∧ t.short ∧ t.depth ≤ n ∧ ∀ H', Same H H' → Q (.int t.count) H'
def spIsTerm (n : Nat) : Sp := fun vs H Q _ => ∃ (v : V) (t : Tm), vs = [v] ∧ DaAt H v t.da ∧ t.short ∧ t.depth ≤ n ∧ ∀ H', Same H H' → Q (.bl t.goodB) H'
/-- a term that there must be: good, at most forty names -/
def Tm.fine (t : Tm) : Prop := t.good ∧ t.count ≤ 40
def spNeed (n : Nat) (C : Addr) : Sp := fun vs H Q E => ∃ (v : V) (t : Tm), vs = [v] ∧ DaAt H v t.da ∧ t.short ∧ t.depth ≤ n ∧
  (t.fine → ∀ H', Same H H' → Q .non H') ∧ (¬ t.fine → ∀ H', Same H H' → E (.ref C) none H')
theorem das_ints {H : Hp} : ∀ {ns : List Int} {vs : List V}, DasAt H vs (ns.map Da.int) → vs = ns.map V.int
  | [], _, h => h.nil_inv
  | n :: ns, _, h => by
    obtain ⟨v, r, rfl, h1, h2⟩ := h.cons_inv
    rw [h1.int_inv, das_ints h2]
    rfl
theorem counts_sum : ∀ l : List Tm, (l.map fun t => (t.count : Int)).sum = (Tm.counts l : Int)
  | [] => rfl
  | t :: r => by
    rw [List.map_cons, List.sum_cons, counts_sum r, Tm.counts]
    omega
theorem goodsB_take : ∀ {l : List Tm} {i : Nat} {p : Tm}, l[i]? = some p → Tm.goodsB (l.take (i + 1)) = (Tm.goodsB (l.take i) && p.goodB)
  | [], i, p, h => by simp at h
  | x :: r, 0, p, h => by
    simp at h; subst h
    simp [Tm.goodsB]
  | x :: r, i + 1, p, h => by
    have := goodsB_take (l := r) (i := i) (p := p) (by simpa using h)
    simp only [List.take_succ_cons, Tm.goodsB, this, Bool.and_assoc]
theorem goodsB_mem : ∀ {l : List Tm} {p : Tm}, p ∈ l → p.goodB = false → Tm.goodsB l = false
  | x :: r, p, h, e => by
    rcases List.mem_cons.mp h with rfl | h
    · simp only [Tm.goodsB, e, Bool.false_and]
    · simp only [Tm.goodsB, goodsB_mem h e, Bool.and_false]
end AB
namespace AB
open PySem PySem.Spec PyProof.Rows L2
/-! ### texts of terms -/
mutual
/-- the signs by which a term is written -/
def Tm.codes : Tm → List Nat
  | .mk n ps => n.cps.toList ++ Tm.codesB ps
def Tm.codesB : List Tm → List Nat
  | [] => []
  | p :: ps => 40 :: (p.codes ++ (Tm.codesT ps ++ [41]))
def Tm.codesT : List Tm → List Nat
  | [] => []
  | q :: r => 44 :: (q.codes ++ Tm.codesT r)
end
def Tm.codess (p : Tm) (ps : List Tm) : List Nat := p.codes ++ Tm.codesT ps
theorem Tm.codess_nil (p : Tm) : Tm.codess p [] = p.codes := by simp [Tm.codess, Tm.codesT]
theorem Tm.codess_cons (p q : Tm) (r : List Tm) : Tm.codess p (q :: r) = p.codes ++ 44 :: Tm.codess q r := by simp [Tm.codess, Tm.codesT]
theorem Tm.codes_nil (n : Str) : (Tm.mk n []).codes = n.cps.toList := by simp [Tm.codes, Tm.codesB]
theorem Tm.codes_cons (n : Str) (p : Tm) (ps : List Tm) : (Tm.mk n (p :: ps)).codes = n.cps.toList ++ 40 :: (Tm.codess p ps ++ [41]) := by simp [Tm.codes, Tm.codesB, Tm.codess]
def Tm.text (t : Tm) : Str := ⟨t.codes.toArray⟩
theorem text_cps (t : Tm) : t.text.cps.toList = t.codes := by simp [Tm.text]
theorem str_ext {x y : Str} (h : x.cps.toList = y.cps.toList) : x = y := by
  cases x with
  | mk a =>
    cases y with
    | mk b =>
      have : a = b := by
        apply Array.ext'
        exact h
      rw [this]
theorem text_len (t : Tm) : t.text.length = t.codes.length := by rw [len_cps, text_cps]
theorem join_one (s x : Str) : Txt.join s [x] = x := by
  show PySem.Builtin.Str.glued s [x] = x
  rw [StrLaws.glued_eq_join]
  rfl
theorem join_two (s x y : Str) (r : List Str) : Txt.join s (x :: y :: r) = x ++ s ++ Txt.join s (y :: r) := by
  show PySem.Builtin.Str.glued s (x :: y :: r) = x ++ s ++ PySem.Builtin.Str.glued s (y :: r)
  rw [StrLaws.glued_eq_join, StrLaws.glued_eq_join]
  rfl
theorem join_texts (p : Tm) : ∀ ps : List Tm, (Txt.join ("," : Str) ((p :: ps).map Tm.text)).cps.toList = Tm.codess p ps
  | [] => by
    simp only [List.map_cons, List.map_nil, Tm.codess_nil]
    rw [join_one, text_cps]
  | q :: r => by
    have h := join_texts q r
    simp only [List.map_cons, Tm.codess_cons] at h ⊢
    rw [join_two, app_cps, app_cps, text_cps, h]
    have e : ("," : Str).cps.toList = [44] := by decide +kernel
    rw [e]
    simp
theorem Tm.codes_pos : ∀ {t : Tm}, t.good → 0 < t.codes.length
  | .mk n ps, h => by
    have := h.1.1
    rw [len_cps] at this
    simp only [Tm.codes, List.length_append]
    omega
theorem codess_len (p : Tm) : ∀ ps : List Tm, (Tm.codess p ps).length = ((p :: ps).map fun t => t.codes.length).sum + ps.length
  | [] => by simp [Tm.codess_nil]
  | q :: r => by
    have h := codess_len q r
    simp only [Tm.codess_cons, List.length_append, List.length_cons, List.map_cons, List.sum_cons] at h ⊢
    omega
theorem sum_mem : ∀ {l : List Nat} {n : Nat}, n ∈ l → n ≤ l.sum
  | x :: r, n, h => by
    rw [List.sum_cons]
    rcases List.mem_cons.mp h with rfl | h
    · omega
    · have := sum_mem h
      omega
theorem codes_part {t p : Tm} (h : p ∈ t.parts) : p.codes.length + 2 ≤ t.codes.length := by
  cases t with
  | mk n ps =>
    cases ps with
    | nil => simp [Tm.parts] at h
    | cons q r =>
      have h1 : p.codes.length ∈ ((q :: r).map fun t => t.codes.length) := List.mem_map.mpr ⟨p, h, rfl⟩
      have h2 := sum_mem h1
      have h3 := codess_len q r
      simp only [Tm.codes_cons, List.length_append, List.length_cons, List.length_nil]
      omega
theorem das_texts {H : Hp} : ∀ {l : List Tm} {vs : List V}, DasAt H vs (l.map fun t => Da.str t.text) → vs = (l.map Tm.text).map V.str
  | [], _, h => h.nil_inv
  | t :: r, _, h => by
    obtain ⟨v, s, rfl, h1, h2⟩ := h.cons_inv
    rw [h1.str_inv, das_texts h2]
    rfl
/-- its text -/
def spShown (n : Nat) : Sp := fun vs H Q _ => ∃ (v : V) (t : Tm), vs = [v] ∧ DaAt H v t.da ∧ t.short ∧ t.depth ≤ n ∧ t.codes.length ≤ 1000000 ∧ ∀ H', Same H H' → Q (.str t.text) H'
end AB

set_option Elab.async false
set_option linter.all false
set_option maxRecDepth 100000
namespace AB
open PySem PySem.Spec PyProof.Rows L2
/-! ### reading a text -/
/-- terms with a comma between, the first ones acc -/
def pLa (f : List Nat → Option (Tm × List Nat)) : Nat → List Tm → List Nat → Option (List Tm × List Nat)
  | 0, _, _ => none
  | k + 1, acc, cs =>
    match f cs with
    | none => none
    | some (t, r) =>
      match r with
      | [] => some (acc ++ [t], [])
      | c :: r2 => if c = 44 then pLa f k (acc ++ [t]) r2 else some (acc ++ [t], c :: r2)
/-- a term, at most n deep, and what is left -/
def pT : Nat → List Nat → Option (Tm × List Nat)
  | 0, _ => none
  | n + 1, cs =>
    if 1 ≤ (cs.takeWhile letter).length ∧ (cs.takeWhile letter).length ≤ 6 then
      match cs.dropWhile letter with
      | [] => some (.mk ⟨(cs.takeWhile letter).toArray⟩ [], [])
      | c :: r =>
        if c = 40 then
          match pLa (pT n) (r.length + 1) [] r with
          | none => none
          | some (ps, q) =>
            match q with
            | [] => none
            | d :: q2 => if d = 41 ∧ ps.length ≤ 3 then some (.mk ⟨(cs.takeWhile letter).toArray⟩ ps, q2) else none
        else some (.mk ⟨(cs.takeWhile letter).toArray⟩ [], c :: r)
    else none
/-- what a reader of terms keeps: what is left is a tail, shorter -/
def Tail (f : List Nat → Option (Tm × List Nat)) (P : Tm → Prop) : Prop := ∀ cs t r, f cs = some (t, r) → P t ∧ ∃ p, cs = p ++ r ∧ p ≠ []
theorem pLa_tail {f : List Nat → Option (Tm × List Nat)} {P : Tm → Prop} (h : Tail f P) : ∀ (k : Nat) (acc : List Tm) (cs : List Nat) (ps : List Tm) (q : List Nat), (∀ t ∈ acc, P t) → pLa f k acc cs = some (ps, q) → (∀ t ∈ ps, P t) ∧ (∃ p, cs = p ++ q ∧ p ≠ []) ∧ ∀ c r, q = c :: r → c ≠ 44
  | 0, _, _, _, _, _, e => by simp [pLa] at e
  | k + 1, acc, cs, ps, q, ha, e => by
    simp only [pLa] at e
    cases hf : f cs with
    | none => rw [hf] at e; cases e
    | some tr =>
      obtain ⟨t, r⟩ := tr
      rw [hf] at e
      obtain ⟨h1, p, h2, h3⟩ := h cs t r hf
      have ha' : ∀ u ∈ acc ++ [t], P u := fun u hu => by
        rcases List.mem_append.mp hu with hu | hu
        · exact ha u hu
        · rw [List.mem_singleton.mp hu]; exact h1
      cases r with
      | nil =>
        simp only [Option.some.injEq, Prod.mk.injEq] at e
        obtain ⟨rfl, rfl⟩ := e
        exact ⟨ha', ⟨p, h2, h3⟩, fun c r z => by cases z⟩
      | cons c r2 =>
        simp only at e
        by_cases hc : c = 44
        · rw [if_pos hc] at e
          obtain ⟨k1, ⟨p2, k2, k3⟩, k4⟩ := pLa_tail h k _ _ _ _ ha' e
          exact ⟨k1, ⟨p ++ c :: p2, by rw [h2, k2]; simp, by simp⟩, k4⟩
        · rw [if_neg hc] at e
          simp only [Option.some.injEq, Prod.mk.injEq] at e
          obtain ⟨rfl, rfl⟩ := e
          exact ⟨ha', ⟨p, h2, h3⟩, fun c' r z => by cases z; exact hc⟩
theorem takeWhile_all {p : Nat → Bool} : ∀ (l : List Nat), ∀ x ∈ l.takeWhile p, p x = true
  | [], x, h => by simp at h
  | y :: r, x, h => by
    rw [List.takeWhile_cons] at h
    split at h
    · rename_i hy
      rcases List.mem_cons.mp h with rfl | h
      · exact hy
      · exact takeWhile_all r x h
    · simp at h
theorem name_of {cs : List Nat} (h : 1 ≤ (cs.takeWhile letter).length ∧ (cs.takeWhile letter).length ≤ 6) : goodName ⟨(cs.takeWhile letter).toArray⟩ := by
  have e : (⟨(cs.takeWhile letter).toArray⟩ : Str).length = (cs.takeWhile letter).length := by rw [len_cps]
  exact ⟨by rw [e]; exact h.1, by rw [e]; exact h.2, fun c hc => letter_iff.mp (takeWhile_all cs c (by simpa using hc))⟩
theorem pT_tail : ∀ n : Nat, Tail (pT n) (fun t => t.good ∧ t.depth ≤ n)
  | 0, cs, t, r, e => by simp [pT] at e
  | n + 1, cs, t, r, e => by
    have ih := pT_tail n
    simp only [pT] at e
    have esp : cs = cs.takeWhile letter ++ cs.dropWhile letter := List.takeWhile_append_dropWhile.symm
    by_cases h : 1 ≤ (cs.takeWhile letter).length ∧ (cs.takeWhile letter).length ≤ 6
    · rw [if_pos h] at e
      have hne : cs.takeWhile letter ≠ [] := fun z => by rw [z] at h; simp at h
      have hn := name_of h
      have one : (Tm.mk ⟨(cs.takeWhile letter).toArray⟩ []).good ∧ (Tm.mk ⟨(cs.takeWhile letter).toArray⟩ []).depth ≤ n + 1 := ⟨⟨hn, by simp, trivial⟩, by simp [Tm.depth, Tm.depths]⟩
      cases hr : cs.dropWhile letter with
      | nil =>
        rw [hr] at e
        simp only [Option.some.injEq, Prod.mk.injEq] at e
        obtain ⟨rfl, rfl⟩ := e
        exact ⟨one, _, by rw [hr] at esp; exact esp, hne⟩
      | cons c q =>
        rw [hr] at e esp
        simp only at e
        by_cases hc : c = 40
        · rw [if_pos hc] at e
          cases hL : pLa (pT n) (q.length + 1) [] q with
          | none => rw [hL] at e; cases e
          | some pq =>
            obtain ⟨ps, q1⟩ := pq
            rw [hL] at e
            simp only at e
            obtain ⟨k1, ⟨p2, k2, k3⟩, _⟩ := pLa_tail ih _ _ _ _ _ (by simp) hL
            cases q1 with
            | nil => cases e
            | cons d q2 =>
              simp only at e
              by_cases hd : d = 41 ∧ ps.length ≤ 3
              · rw [if_pos hd] at e
                simp only [Option.some.injEq, Prod.mk.injEq] at e
                obtain ⟨rfl, rfl⟩ := e
                refine ⟨⟨⟨hn, hd.2, Tm.goods_iff.mpr fun t ht => (k1 t ht).1⟩, ?_⟩, cs.takeWhile letter ++ c :: (p2 ++ [d]), ?_, by simp⟩
                · have := (Tm.depths_le (l := ps) (n := n)).mpr fun t ht => (k1 t ht).2
                  simp only [Tm.depth]
                  omega
                · calc cs = cs.takeWhile letter ++ c :: q := esp
                    _ = _ := by rw [k2]; simp
              · rw [if_neg hd] at e; cases e
        · rw [if_neg hc] at e
          simp only [Option.some.injEq, Prod.mk.injEq] at e
          obtain ⟨rfl, rfl⟩ := e
          exact ⟨one, _, esp, hne⟩
    · rw [if_neg h] at e; cases e
/-! what is written is read -/
theorem takeWhile_app {l r : List Nat} (h : ∀ x ∈ l, letter x = true) (h2 : ∀ c q, r = c :: q → letter c = false) : (l ++ r).takeWhile letter = l ∧ (l ++ r).dropWhile letter = r := by
  induction l with
  | nil =>
    cases r with
    | nil => simp
    | cons c q => simp [h2 c q rfl]
  | cons x l ih =>
    have hx := h x (by simp)
    obtain ⟨i1, i2⟩ := ih fun y hy => h y (by simp [hy])
    constructor
    · rw [List.cons_append, List.takeWhile_cons, if_pos hx, i1]
    · rw [List.cons_append, List.dropWhile_cons, if_pos hx, i2]
theorem goodName_all {z : Str} (h : goodName z) : ∀ x ∈ z.cps.toList, letter x = true := fun x hx => letter_iff.mpr (h.2.2 x hx)
theorem str_eta (z : Str) : (⟨z.cps.toList.toArray⟩ : Str) = z := by cases z; rfl
/-- what may stand behind a term -/
def Ends1 (r : List Nat) : Prop := ∀ c q, r = c :: q → letter c = false ∧ c ≠ 40
mutual
theorem pT_codes : ∀ (t : Tm) (n : Nat) (r : List Nat), t.good → t.depth ≤ n → Ends1 r → pT n (t.codes ++ r) = some (t, r)
  | .mk m ps, 0, r, hg, hd, hr => by simp [Tm.depth] at hd
  | .mk m ps, n + 1, r, hg, hd, hr => by
    obtain ⟨hm, hl, hp⟩ := hg
    have hl1 := hm.1
    have hl2 := hm.2.1
    rw [len_cps] at hl1 hl2
    cases ps with
    | nil =>
      rw [Tm.codes_nil]
      obtain ⟨e1, e2⟩ := takeWhile_app (goodName_all hm) fun c q z => (hr c q z).1
      simp only [pT, e1, e2]
      rw [if_pos ⟨hl1, hl2⟩, str_eta]
      cases r with
      | nil => rfl
      | cons c q => simp only [if_neg (hr c q rfl).2]
    | cons p ps =>
      rw [Tm.codes_cons]
      have e0 : m.cps.toList ++ 40 :: (Tm.codess p ps ++ [41]) ++ r = m.cps.toList ++ 40 :: (Tm.codess p ps ++ 41 :: r) := by simp
      rw [e0]
      obtain ⟨e1, e2⟩ := takeWhile_app (r := 40 :: (Tm.codess p ps ++ 41 :: r)) (goodName_all hm) fun c q z => by
        injection z with z _
        subst z
        decide
      simp only [pT, e1, e2]
      rw [if_pos ⟨hl1, hl2⟩, str_eta]
      simp only [if_true]
      have hd' : Tm.depths (p :: ps) ≤ n := by simp only [Tm.depth] at hd; omega
      have := pL_codes p ps n ((Tm.codess p ps ++ 41 :: r).length + 1) [] r hp hd' (by
        have := codess_len p ps
        simp only [List.length_append, List.length_cons]
        omega)
      rw [this]
      simp only [List.nil_append]
      rw [if_pos ⟨trivial, hl⟩]
theorem pL_codes : ∀ (p : Tm) (ps : List Tm) (n k : Nat) (acc : List Tm) (r : List Nat), Tm.goods (p :: ps) → Tm.depths (p :: ps) ≤ n → ps.length < k → pLa (pT n) k acc (Tm.codess p ps ++ 41 :: r) = some (acc ++ p :: ps, 41 :: r)
  | p, ps, n, 0, acc, r, hg, hd, hk => by omega
  | p, [], n, k + 1, acc, r, hg, hd, hk => by
    have h := pT_codes p n (41 :: r) hg.1 (by simp only [Tm.depths] at hd; omega) fun c q z => by
      injection z with z _
      subst z
      decide
    simp only [pLa, Tm.codess_nil, h]
    rw [if_neg (by decide)]
  | p, q :: ps, n, k + 1, acc, r, hg, hd, hk => by
    have e0 : Tm.codess p (q :: ps) ++ 41 :: r = p.codes ++ 44 :: (Tm.codess q ps ++ 41 :: r) := by rw [Tm.codess_cons]; simp
    have h := pT_codes p n (44 :: (Tm.codess q ps ++ 41 :: r)) hg.1 (by simp only [Tm.depths] at hd; omega) fun c q z => by
      injection z with z _
      subst z
      decide
    have h2 := pL_codes q ps n k (acc ++ [p]) r hg.2 (by simp only [Tm.depths] at hd ⊢; omega) (by simp only [List.length_cons] at hk; omega)
    simp only [pLa, e0, h]
    rw [if_pos trivial, h2]
    simp
end
theorem Tm.codesT_flat : ∀ ps : List Tm, Tm.codesT ps = (ps.map fun t => 44 :: t.codes).flatten
  | [] => rfl
  | q :: r => by simp [Tm.codesT, Tm.codesT_flat r]
mutual
theorem Tm.codes_le : ∀ {t : Tm}, t.good → t.codes.length + 2 ≤ 8 * t.count
  | .mk n [], h => by
    have := h.1.2.1
    rw [len_cps] at this
    simp only [Tm.codes, Tm.codesB, Tm.count, Tm.counts, List.append_nil]
    omega
  | .mk n (p :: ps), h => by
    have h0 := h.1.2.1
    rw [len_cps] at h0
    have h1 := Tm.codes_le h.2.2.1
    have h2 := Tm.codesT_le h.2.2.2
    simp only [Tm.codes, Tm.codesB, Tm.count, Tm.counts, List.length_append, List.length_cons, List.length_nil]
    omega
theorem Tm.codesT_le : ∀ {l : List Tm}, Tm.goods l → (Tm.codesT l).length ≤ 8 * Tm.counts l
  | [], _ => by simp [Tm.codesT]
  | t :: r, h => by
    have h1 := Tm.codes_le h.1
    have h2 := Tm.codesT_le h.2
    simp only [Tm.codesT, Tm.counts, List.length_append, List.length_cons]
    omega
end
theorem name_count {z : Str} (h : goodName z) : z.cps.toList.count 40 = 0 := by
  rw [List.count_eq_zero]
  intro hx
  have := h.2.2 40 hx
  omega
mutual
theorem Tm.codes_opens : ∀ {t : Tm}, t.good → t.codes.count 40 + 1 ≤ t.count
  | .mk n [], h => by
    simp only [Tm.codes, Tm.codesB, Tm.count, Tm.counts, List.append_nil, name_count h.1]
    omega
  | .mk n (p :: ps), h => by
    have h1 := Tm.codes_opens h.2.2.1
    have h2 := Tm.codesT_opens h.2.2.2
    have h3 : List.count 40 ([41] : List Nat) = 0 := by decide
    simp only [Tm.codes, Tm.codesB, Tm.count, Tm.counts, List.count_append, List.count_cons_self, name_count h.1, h3]
    omega
theorem Tm.codesT_opens : ∀ {l : List Tm}, Tm.goods l → (Tm.codesT l).count 40 ≤ Tm.counts l
  | [], _ => by simp [Tm.codesT]
  | t :: r, h => by
    have h1 := Tm.codes_opens h.1
    have h2 := Tm.codesT_opens h.2
    have h3 : List.count 40 (44 :: (t.codes ++ Tm.codesT r)) = List.count 40 (t.codes ++ Tm.codesT r) := by rw [List.count_cons]; rfl
    simp only [Tm.codesT, Tm.counts, h3, List.count_append]
    omega
end
/-- reading a whole text -/
def readR (n : Nat) (z : Str) : Option Tm :=
  if z.length ≤ 320 then
    match pT n z.cps.toList with
    | some (t, []) => if t.count ≤ 40 then some t else none
    | _ => none
  else none
theorem readR_text {t : Tm} {n : Nat} (h : t.fine) (hd : t.depth ≤ n) : readR n t.text = some t := by
  have h1 := Tm.codes_le h.1
  have h2 := h.2
  unfold readR
  rw [if_pos (by rw [text_len]; omega), text_cps]
  have := pT_codes t n [] h.1 hd fun c q z => by cases z
  rw [List.append_nil] at this
  rw [this]
  simp only [if_pos h2]
/-- what is read is what is written -/
theorem pLa_inv {f : List Nat → Option (Tm × List Nat)} (h : ∀ cs t r, f cs = some (t, r) → cs = t.codes ++ r) : ∀ (k : Nat) (acc : List Tm) (cs : List Nat) (ps : List Tm) (q : List Nat), pLa f k acc cs = some (ps, q) → ∃ t ts, ps = acc ++ t :: ts ∧ cs = Tm.codess t ts ++ q
  | 0, _, _, _, _, e => by simp [pLa] at e
  | k + 1, acc, cs, ps, q, e => by
    simp only [pLa] at e
    cases hf : f cs with
    | none => rw [hf] at e; cases e
    | some tr =>
      obtain ⟨t, r⟩ := tr
      rw [hf] at e
      have h1 := h cs t r hf
      cases r with
      | nil =>
        simp only [Option.some.injEq, Prod.mk.injEq] at e
        obtain ⟨rfl, rfl⟩ := e
        exact ⟨t, [], rfl, by rw [Tm.codess_nil]; exact h1⟩
      | cons c r2 =>
        simp only at e
        by_cases hc : c = 44
        · rw [if_pos hc] at e
          obtain ⟨t2, ts, h2, h3⟩ := pLa_inv h k _ _ _ _ e
          refine ⟨t, t2 :: ts, by rw [h2]; simp, ?_⟩
          rw [h1, hc, h3, Tm.codess_cons]
          simp
        · rw [if_neg hc] at e
          simp only [Option.some.injEq, Prod.mk.injEq] at e
          obtain ⟨rfl, rfl⟩ := e
          exact ⟨t, [], rfl, by rw [Tm.codess_nil]; exact h1⟩
theorem pT_inv : ∀ (n : Nat) (cs : List Nat) (t : Tm) (r : List Nat), pT n cs = some (t, r) → cs = t.codes ++ r
  | 0, cs, t, r, e => by simp [pT] at e
  | n + 1, cs, t, r, e => by
    have ih := pT_inv n
    simp only [pT] at e
    have esp : cs = cs.takeWhile letter ++ cs.dropWhile letter := List.takeWhile_append_dropWhile.symm
    by_cases h : 1 ≤ (cs.takeWhile letter).length ∧ (cs.takeWhile letter).length ≤ 6
    · rw [if_pos h] at e
      cases hr : cs.dropWhile letter with
      | nil =>
        rw [hr] at e esp
        simp only [Option.some.injEq, Prod.mk.injEq] at e
        obtain ⟨rfl, rfl⟩ := e
        rw [Tm.codes_nil]
        exact esp
      | cons c q =>
        rw [hr] at e esp
        simp only at e
        by_cases hc : c = 40
        · rw [if_pos hc] at e
          cases hL : pLa (pT n) (q.length + 1) [] q with
          | none => rw [hL] at e; cases e
          | some pq =>
            obtain ⟨ps, q1⟩ := pq
            rw [hL] at e
            simp only at e
            obtain ⟨t1, ts, h1, h2⟩ := pLa_inv ih _ _ _ _ _ hL
            cases q1 with
            | nil => cases e
            | cons d q2 =>
              simp only at e
              by_cases hd : d = 41 ∧ ps.length ≤ 3
              · rw [if_pos hd] at e
                simp only [Option.some.injEq, Prod.mk.injEq] at e
                obtain ⟨rfl, rfl⟩ := e
                rw [List.nil_append] at h1
                subst h1
                rw [Tm.codes_cons]
                calc cs = cs.takeWhile letter ++ c :: q := esp
                  _ = _ := by rw [hc, h2, hd.1]; simp
              · rw [if_neg hd] at e; cases e
        · rw [if_neg hc] at e
          simp only [Option.some.injEq, Prod.mk.injEq] at e
          obtain ⟨rfl, rfl⟩ := e
          rw [Tm.codes_nil]
          exact esp
    · rw [if_neg h] at e; cases e
/-- reading, by the reader of a part -/
theorem readR_iff {n : Nat} {z : Str} : readR n z = match pT n z.cps.toList with
    | some (t, []) => if t.count ≤ 40 then some t else none
    | _ => none := by
  unfold readR
  by_cases h : z.length ≤ 320
  · rw [if_pos h]
  · rw [if_neg h]
    cases e : pT n z.cps.toList with
    | none => rfl
    | some tr =>
      obtain ⟨t, r⟩ := tr
      cases r with
      | cons _ _ => rfl
      | nil =>
        have h1 := pT_inv n _ _ _ e
        have h2 := Tm.codes_le (pT_tail n _ _ _ e).1.1
        have h3 : z.length = t.codes.length := by rw [len_cps, h1, List.append_nil]
        show none = (if t.count ≤ 40 then some t else none)
        rw [if_neg (by omega)]
theorem pT_len {n : Nat} {acc : List Tm} {cs : List Nat} {k : Nat} {ps : List Tm} {q : List Nat} (h : pLa (pT n) k acc cs = some (ps, q)) : acc.length < ps.length := by
  obtain ⟨t, ts, h1, _⟩ := pLa_inv (pT_inv n) _ _ _ _ _ h
  rw [h1, List.length_append, List.length_cons]
  omega
end AB

set_option Elab.async false
set_option linter.all false
set_option maxRecDepth 100000
namespace AB
open PySem PySem.Spec PyProof.Rows L2
/-! ### the keys of a dict that stays -/
def ItR (ks : List V) (G : Hp → Prop) : It := ⟨fun i H => G H ∧ i < ks.length, fun i H x H' => H' = H ∧ ks[i]? = some x, fun i H => G H ∧ ks.length ≤ i⟩
theorem vals_size {ks : List V} {es : Array DictEntry} (h : Vals ks (es.toList.map (·.key))) : es.size = ks.length := by
  have := h.length
  rw [List.length_map, Array.length_toList] at this
  exact this.symm
theorem turn_keysR {P : Program} {w : World} {K : PySem.W.Frag} {tg : Expr} {d : Addr} {es : Array DictEntry} {ep : Nat} {ks : List V} {G : Hp → Prop} (it : Addr)
    (hG : ∀ (X : Cx) (pins : List (Addr × Obj)) (σ : St) (s : Shared) (H : Hp), X.prog = P → X.w = w → X.K = K → Inv X pins σ H s → G H → s.heap.DictRaw d es ep) (hk : Vals ks (es.toList.map (·.key))) :
    Turn P w K tg (ItR ks G) [it] it (fun i h => h.IsKeyIter it d i es.size ep) where
  mem := by simp
  obj := fun i h st b hb => by
    have e : b = it := by simpa using hb
    subst e
    obtain ⟨oi, e, c, dd⟩ := st
    exact ⟨oi, e, fun v z => by rw [dd] at z; cases z⟩
  keep := fun i h h' st k => st.at fun oi e => k it (by simp) oi e
  item := by
    intro X hP hw hK hc i pins s σ H E I hf st hg
    obtain ⟨hd, hi⟩ := hg
    have hm := hG X pins σ s H hP hw hK I hd
    subst hP hw hK
    obtain ⟨f0, f1, f2, f3, f4, f5⟩ := hf it (by simp)
    have hsz := vals_size hk
    have hi' : i < es.size := by omega
    refine PySem.wpAny_pyNext_keys_item_raw st hm hi' fun h' st' sb => ?_
    have I1 : Inv X pins σ H { s with heap := h' } := I.turned (t' := s.toks) (fun b ob hb e => (sb.2 b hb).trans e) f0 f1 f3 f4 f5
    obtain ⟨oi, e, c, dd⟩ := id st'
    obtain ⟨x, hx⟩ : ∃ x, ks[i]? = some x := ⟨ks[i], List.getElem?_eq_getElem hi⟩
    obtain ⟨u, hu, ru⟩ := Vals.get hk hx
    have eu : u = es[i].key := by
      rw [List.getElem?_map] at hu
      simp only [Array.getElem?_toList, Array.getElem?_eq_getElem hi', Option.map_some, Option.some.injEq] at hu
      exact hu.symm
    subst eu
    exact ⟨_, rfl, go_of (s := { s with heap := h' }) e c dd (by decide) ⟨x, H, I1, ru, ⟨rfl, hx⟩, st', fun b hb => (hf b hb).1⟩⟩
  done := by
    intro X hP hw hK hc i pins s σ H E I hf st hg
    obtain ⟨hd, hi⟩ := hg
    have hm := hG X pins σ s H hP hw hK I hd
    subst hP hw hK
    obtain ⟨f0, f1, f2, f3, f4, f5⟩ := hf it (by simp)
    have hsz := vals_size hk
    exact PySem.wpAny_pyNext_keys_end_raw (I.ok.hd hc) st hm (by omega) fun h' eb => ⟨rfl, I.turned (t' := s.toks) (fun b ob hb e => eb b ob hb e) f0 f1 f3 f4 f5⟩
  self := fun A i s Q E st h => wpAny_pyIter_keyiter st h
theorem walk_keysR {ks : List V} {G : Hp → Prop} : Walk (ItR ks G) ks.length G (fun i H x H' => H' = H ∧ ks[i]? = some x) where
  goes := fun i H hi g => ⟨g, hi⟩
  yields := fun i H x H' hi g y => y
  stops := fun H g => ⟨g, Nat.le_refl _⟩
/-! ### a dict of the module with text keys -/
structure TabAt (e : Ev) (x : Str) (d : Addr) (kvs : List (Str × V)) : Prop where
  mg : e.mg x = some (.ref d)
  ex : ∃ es n, KDict e.K e.w d es n ∧ Vals (kvs.map fun q => V.str q.1) (es.toList.map (·.key)) ∧ ∀ q ∈ kvs, ∃ u, PySem.W.nsIn e.K d q.1 = some (some u) ∧ RelV q.2 u
theorem find_none_of {ks : List Str} {z : Str} (hz : ¬ z ∈ ks) : ∀ {es : List DictEntry}, Vals (ks.map V.str) (es.map (·.key)) → es.find? (·.key.isStr z) = none ∧ es.any (·.refKey) = false := by
  induction ks with
  | nil =>
    intro es h
    cases es with
    | nil => exact ⟨rfl, rfl⟩
    | cons e r => cases h
  | cons k ks ih =>
    intro es h
    cases es with
    | nil => cases h
    | cons e r =>
      cases h with
      | cons h1 h2 =>
        obtain ⟨i1, i2⟩ := ih (fun hm => hz (List.mem_cons_of_mem _ hm)) h2
        obtain ⟨t, ht⟩ := h1
        have ht : e.key = Value.str k t := ht
        have hne : (e.key.isStr z) = false := by
          rw [ht]
          exact beq_eq_false_iff_ne.mpr fun q => hz (by rw [q]; exact List.mem_cons_self)
        have hrk : e.refKey = false := by
          unfold DictEntry.refKey
          rw [ht]
        constructor
        · rw [List.find?_cons, hne]
          exact i1
        · rw [List.any_cons, i2, hrk]
          rfl
theorem map_strs (kvs : List (Str × V)) : (kvs.map fun q => V.str q.1) = (kvs.map (·.1)).map V.str := by rw [List.map_map]; rfl
theorem TabAt.get {e : Ev} {x : Str} {d : Addr} {kvs : List (Str × V)} (h : TabAt e x d kvs) (z : Str) : ∃ es n, KDict e.K e.w d es n ∧ ∃ r, PySem.W.nsIn e.K d z = some r ∧ r.isSome = decide (z ∈ kvs.map (·.1)) := by
  obtain ⟨es, n, hk, hv, hg⟩ := h.ex
  refine ⟨es, n, hk, ?_⟩
  by_cases hz : z ∈ kvs.map (·.1)
  · obtain ⟨q, hq, rfl⟩ := List.mem_map.mp hz
    obtain ⟨u, h1, h2⟩ := hg q hq
    exact ⟨_, h1, by rw [decide_eq_true hz]; rfl⟩
  · rw [map_strs] at hv
    obtain ⟨h1, h2⟩ := find_none_of hz hv
    refine ⟨none, ?_, by rw [decide_eq_false hz]; rfl⟩
    unfold PySem.W.nsIn
    rw [hk.at_]
    simp only [h1, h2, Bool.false_eq_true, if_false]
section
variable {e : Ev} {X : Cx} {x : Str} {d : Addr} {kvs : List (Str × V)} {pos : Pos}
theorem pe_tab (h : TabAt e x d kvs) (hX : Of e X := by exact ⟨rfl, rfl, rfl, rfl, rfl⟩) (hg : Gl X x := by rfl) (hd : (x == ("__debug__" : Str)) = false := by decide) : PE X (.Name x pos) (tC (.ref d)) :=
  pe_glob hg (by rw [hX.mg]; exact h.mg) rfl hd
def rInTab (d : Addr) (kvs : List (Str × V)) (neg : Bool) : R2 := fun x y H Q => ∃ z, x = .str z ∧ y = .ref d ∧ Q (.bl (if neg then !decide (z ∈ kvs.map (·.1)) else decide (z ∈ kvs.map (·.1)))) H
theorem op_inTab (h : TabAt e x d kvs) (hX : Of e X := by exact ⟨rfl, rfl, rfl, rfl, rfl⟩) : OpR X (compareOp .In) (rInTab d kvs false) := by
  intro pins s σ H a b v u Q I rx ry q
  obtain ⟨z, rfl, rfl, q⟩ := q
  obtain ⟨es, n, hk, r, h1, h2⟩ := h.get z
  rw [← hX.K, ← hX.w] at hk
  rw [← hX.K] at h1
  exact op_in_kd hk pins s σ H _ _ v u Q I rx ry ⟨z, r, rfl, rfl, h1, by rw [h2]; exact q⟩
theorem op_notInTab (h : TabAt e x d kvs) (hX : Of e X := by exact ⟨rfl, rfl, rfl, rfl, rfl⟩) : OpR X (compareOp .NotIn) (rInTab d kvs true) := by
  intro pins s σ H a b v u Q I rx ry q
  obtain ⟨z, rfl, rfl, q⟩ := q
  obtain ⟨es, n, hk, r, h1, h2⟩ := h.get z
  rw [← hX.K, ← hX.w] at hk
  rw [← hX.K] at h1
  exact op_notIn_kd hk pins s σ H _ _ v u Q I rx ry ⟨z, r, rfl, rfl, h1, by rw [h2]; exact q⟩
def rIxTab (d : Addr) (kvs : List (Str × V)) : R2 := fun x y H Q => ∃ z v, x = .ref d ∧ y = .str z ∧ (z, v) ∈ kvs ∧ Q v H
theorem ix_tab (h : TabAt e x d kvs) (hX : Of e X := by exact ⟨rfl, rfl, rfl, rfl, rfl⟩) : IxR X (rIxTab d kvs) := by
  intro value slice pins s σ H a b v u Q I rx ry q hs
  obtain ⟨z, w, rfl, rfl, hm, q⟩ := q
  obtain ⟨es, n, hk, hv, hg⟩ := h.ex
  obtain ⟨u0, h1, h2⟩ := hg _ hm
  rw [← hX.K, ← hX.w] at hk
  rw [← hX.K] at h1
  exact ix_kdict value slice pins s σ H _ _ v u Q I rx ry ⟨d, z, w, rfl, rfl, ⟨es, n, u0, hk.at_, hk.lit, h1, h2⟩, q⟩ hs
/-- for x in the dict -/
def iTab (d : Addr) (ks : List V) (te : TE) : TI := fun σ H R => te σ H fun x H1 => x = .ref d ∧ R (ItR ks fun _ => True) H1
theorem pi_tab {tg : Expr} {n : Expr} {te : TE} (h : TabAt e x d kvs) (he : PE X n te) (hX : Of e X := by exact ⟨rfl, rfl, rfl, rfl, rfl⟩) : PI X tg n (iTab d (kvs.map fun q => V.str q.1) te) := by
  refine ⟨fun pins s σ H R I q => ?_⟩
  refine thn (he.run pins s σ H _ I q) fun u s1 ⟨y, H1, I1, ry, ey, q1⟩ => ?_
  subst ey
  obtain rfl : u = Value.ref d := ry
  obtain ⟨es, n, hk, hv, hg⟩ := h.ex
  have hraw : ∀ (X' : Cx) (pins : List (Addr × Obj)) (σ : St) (s : Shared) (H : Hp), X'.prog = X.prog → X'.w = X.w → X'.K = X.K → Inv X' pins σ H s → True → s.heap.DictRaw d es n := fun X' pins σ s H _ _ hK I _ =>
    ⟨_, I.kIn _ _ (by rw [hK, hX.K]; exact hk.at_), ⟨rfl, rfl, rfl⟩, rfl⟩
  exact PySem.wpAny_pyIter_dict_raw hk.low (hraw X pins σ s1 H1 rfl rfl rfl I1 trivial) (pi_one (tk := s1.toks) I1 _ (turn_keysR _ hraw hv) ⟨_, Heap.get?_push_size _ rfl, rfl, rfl⟩ q1)
end
/-- from the head's facts -/
theorem keyOf_keys {P : Params} : ∀ {l : List DictEntry} {ks : List Str}, l.map He.keyOf = He.keysIn P ks → Vals (ks.map V.str) (l.map (·.key))
  | [], [], _ => .nil
  | [], _ :: _, h => by cases h
  | _ :: _, [], h => by cases h
  | e :: r, k :: ks, h => by
    have h1 : He.keyOf e :: r.map He.keyOf = some (k, PyData.keyHash P k) :: He.keysIn P ks := h
    injection h1 with h2 h3
    refine .cons ?_ (keyOf_keys h3)
    unfold He.keyOf at h2
    split at h2
    · rename_i x t q
      have h4 := Option.some.inj h2
      obtain ⟨h5, h6⟩ := Prod.mk.inj h4
      show L2.RelV (V.str k) e.key
      rw [q, h5]
      exact ⟨t, rfl⟩
    · cases h2
theorem dicW_keys {K : PySem.W.Frag} {w : World} {a : Addr} {ks : List Str} (h : He.dicW K a = some (He.keysIn w.params ks)) : ∃ es n, KDict K w a es n ∧ Vals (ks.map V.str) (es.toList.map (·.key)) := by
  obtain ⟨es, n, hk⟩ := He.dicW_ok h
  refine ⟨es, n, hk, ?_⟩
  unfold He.dicW at h
  rw [hk.at_] at h
  have h1 : (match decide (("dict" : String) = "dict") && ((#[] : Array (Option Value)).isEmpty && !(a == sysModules)) with
    | true => some (es.toList.map He.keyOf)
    | false => none) = some (He.keysIn w.params ks) := h
  rw [show (a == sysModules) = false from hk.low] at h1
  exact keyOf_keys (Option.some.inj h1)
theorem tab_of {fa : List He.Fa} {fn : List He.DefD} {ts : List He.Tab} {P : Program} {w : World} {K : PySem.W.Frag} {h base : Heap} {mg : Str → Option Value} (X : K.In h) (G : h.Ns mainGlobals mg) (c : He.SaysT fa fn ts w K) {x : Str} {kvs : List (Str × He.Dv)} (i : Nat)
    (ht : ts[i]? = some (fun K => He.ga K x, kvs.map (·.1))) (hx : (He.Fa.glo x).ok K = true) (hv : He.valsB K (He.ga K x) kvs = true) : TabAt ⟨P, w, K, mg, base⟩ x (He.ga K x) (kvs.map fun q => (q.1, q.2.v K)) := by
  have e : ts.map (fun t => He.dicW K (t.1 K)) = ts.map fun t => some (He.keysIn w.params t.2) := congrArg (fun z : He.AlT => z.2) c
  have e2 : (ts.map fun t => He.dicW K (t.1 K))[i]? = (ts.map fun t => some (He.keysIn w.params t.2))[i]? := by rw [e]
  rw [List.getElem?_map, List.getElem?_map, ht] at e2
  obtain ⟨es, n, hk, hv2⟩ := dicW_keys (Option.some.inj e2)
  refine ⟨He.glo_ok X G hx, es, n, hk, ?_, fun q hq => ?_⟩
  · rw [List.map_map]
    rw [List.map_map] at hv2
    exact hv2
  · obtain ⟨q0, h0, rfl⟩ := List.mem_map.mp hq
    exact He.valsB_ok hv h0
end AB
namespace AB
open PySem L2
theorem hu1 {A : Around} {k : Nat} (hr : Room k A) : A.units + 1 < cLine := by have := hr.un; omega
end AB
namespace AB
open PySem PySem.Spec PyProof.Rows L2
/-! ### the head's facts: hookT and one more Bool -/
structure SaysY (fa : List He.Fa) (fn : List He.DefD) (ts : List He.Tab) (ex : PySem.W.Frag → Bool) (w : World) (K : PySem.W.Frag) : Prop where
  t : He.SaysT fa fn ts w K
  more : ex K = true
abbrev AlY : Type := He.AlT × Bool
def obsY (n : Nat) (fa : List He.Fa) (fn : List He.DefD) (ts : List He.Tab) (ex : PySem.W.Frag → Bool) (g : Addr → Option Obj) : AlY := (He.obsT fa fn ts (He.frG g (PySem.cStatics :: He.asD g n)), ex (He.frG g (PySem.cStatics :: He.asD g n)))
def valY (fn : List He.DefD) (ts : List He.Tab) (w : World) : AlY := (He.valT fn ts w, true)
def hookY (n : Nat) (fa : List He.Fa) (fn : List He.DefD) (ts : List He.Tab) (ex : PySem.W.Frag → Bool) : PySem.W.Hook where
  α := AlY
  obs := fun s => obsY n fa fn ts ex s.heap.get?
  val := fun w => valY fn ts w
  says := fun w h => ∃ K : PySem.W.Frag, K.In h ∧ SaysY fa fn ts ex w K
  of := fun _ _ e => ⟨_, He.frG_in, ⟨congrArg (fun z : AlY => z.1) e, congrArg (fun z : AlY => z.2) e⟩⟩
  keeps := fun _ _ _ ⟨K, hK, c⟩ k => ⟨K, PySem.W.Frag.In.keeps hK k, c⟩
theorem obsY_eq {n : Nat} {fa : List He.Fa} {fn : List He.DefD} {ts : List He.Tab} {ex : PySem.W.Frag → Bool} {g : Addr → Option Obj} {s : Shared} (h : ∀ a, g a = s.heap.get? a) : obsY n fa fn ts ex g = (hookY n fa fn ts ex).obs s := by
  have e : g = s.heap.get? := funext h
  rw [e] <;> rfl
end AB
namespace AB
open PySem PySem.Spec PyProof.Rows L2
section
variable {X : Cx}
/-- k in d: a dict of texts, ints -/
def rInK (neg : Bool) : R2 := fun x y H Q => ∃ a o, y = .ref a ∧ DGet H a x o ∧ Q (.bl (if neg then !o.isSome else o.isSome)) H
theorem op_inK (hu : X.A.units + 65 < cLine) : OpR X (compareOp .In) (rInK false) := by
  intro pins s σ H x y v u Q I rx ry h
  obtain ⟨a, o, rfl, g, q⟩ := h
  cases ry
  exact d_in (by omega) I g rx fun s' I' => ⟨.bl _, H, I', rfl, q⟩
theorem op_notInK (hu : X.A.units + 65 < cLine) : OpR X (compareOp .NotIn) (rInK true) := by
  intro pins s σ H x y v u Q I rx ry h
  obtain ⟨a, o, rfl, g, q⟩ := h
  cases ry
  exact d_notIn (by omega) I g rx fun s' I' => ⟨.bl _, H, I', rfl, q⟩
end
end AB

set_option Elab.async false
set_option linter.all false
set_option maxRecDepth 100000
namespace AB
open PySem PySem.Spec PyProof.Rows L2
/-! ### facts -/
inductive Wd where
  | alike | unlike | most | over
deriving DecidableEq
def Wd.name : Wd → Str
  | .alike => "alike" | .unlike => "unlike" | .most => "most" | .over => "over"
def Wd.sign : Wd → Str
  | .alike => "=" | .unlike => "!=" | .most => "<=" | .over => ">"
def Wd.opp : Wd → Wd
  | .alike => .unlike | .unlike => .alike | .most => .over | .over => .most
theorem Wd.opp_opp (w : Wd) : w.opp.opp = w := by cases w <;> rfl
def signsK : List (Str × V) := [("alike", .str "="), ("unlike", .str "!="), ("most", .str "<="), ("over", .str ">")]
def oppsK : List (Str × V) := [("alike", .str "unlike"), ("unlike", .str "alike"), ("most", .str "over"), ("over", .str "most")]
theorem Wd.in_signs (w : Wd) : (w.name, V.str w.sign) ∈ signsK := by cases w <;> decide +kernel
theorem Wd.in_opps (w : Wd) : (w.name, V.str w.opp.name) ∈ oppsK := by cases w <;> decide +kernel
theorem Wd.name_in (w : Wd) : w.name ∈ signsK.map (·.1) := by cases w <;> decide +kernel
theorem Wd.of_name {z : Str} (h : z ∈ signsK.map (·.1)) : ∃ w : Wd, z = w.name := by
  simp only [signsK, List.map_cons, List.map_nil, List.mem_cons, List.not_mem_nil, or_false] at h
  rcases h with rfl | rfl | rfl | rfl
  · exact ⟨.alike, rfl⟩
  · exact ⟨.unlike, rfl⟩
  · exact ⟨.most, rfl⟩
  · exact ⟨.over, rfl⟩
theorem Wd.name_inj {a b : Wd} (h : a.name = b.name) : a = b := by revert h; cases a <;> cases b <;> decide +kernel
theorem Wd.sign_inj {a b : Wd} (h : a.sign = b.sign) : a = b := by revert h; cases a <;> cases b <;> decide +kernel
theorem Wd.ok (w : Wd) : okS w.name = true := by cases w <;> decide +kernel
theorem Wd.name_len (w : Wd) : w.name.length ≤ 6 := by cases w <;> decide +kernel
theorem Wd.sign_len (w : Wd) : 1 ≤ w.sign.length ∧ w.sign.length ≤ 2 := by cases w <;> decide +kernel
theorem Wd.sign_no32 (w : Wd) : 32 ∉ w.sign.cps.toList := by cases w <;> decide +kernel
structure Fc where
  w : Wd
  l : Tm
  r : Tm
deriving DecidableEq
def Fc.da (f : Fc) : Da := .tup [.str f.w.name, f.l.da, f.r.da]
def Fc.opp (f : Fc) : Fc := ⟨f.w.opp, f.l, f.r⟩
theorem Fc.opp_opp (f : Fc) : f.opp.opp = f := by cases f with | mk w l r => simp only [Fc.opp, Wd.opp_opp]
def Fc.text (f : Fc) : Str := f.l.text ++ (" " : Str) ++ f.w.sign ++ (" " : Str) ++ f.r.text
def Fc.good (f : Fc) : Prop := f.l.good ∧ f.r.good
def Fc.fine (f : Fc) : Prop := f.l.fine ∧ f.r.fine
def Fc.deep (n : Nat) (f : Fc) : Prop := f.l.depth ≤ n ∧ f.r.depth ≤ n
theorem Fc.fine.good {f : Fc} (h : f.fine) : f.good := ⟨h.1.1, h.2.1⟩
theorem Fc.da_inj {a b : Fc} (h : a.da = b.da) : a = b := by
  cases a with
  | mk w l r =>
    cases b with
    | mk w2 l2 r2 =>
      simp only [Fc.da, Da.tup.injEq, List.cons.injEq, Da.str.injEq, and_true] at h
      obtain ⟨h1, h2, h3⟩ := h
      rw [Wd.name_inj h1, Tm.da_inj _ _ h2, Tm.da_inj _ _ h3]
theorem Fc.okD {f : Fc} (h : f.good) (hd : f.deep 58) : okD f.da := by
  have h1 := Tm.good_okD h.1 (by have := hd.1; omega)
  have h2 := Tm.good_okD h.2 (by have := hd.2; omega)
  refine okD.tup fun d hd2 => ?_
  simp only [List.mem_cons, List.not_mem_nil, or_false] at hd2
  rcases hd2 with rfl | rfl | rfl
  · exact ⟨by simp only [Da.ok]; exact f.w.ok, by simp only [Da.depth]; omega⟩
  · exact ⟨h1.1, by rw [Tm.da_depth]; have := hd.1; omega⟩
  · exact ⟨h2.1, by rw [Tm.da_depth]; have := hd.2; omega⟩
/-- a fact that is read -/
def Wd.of (s : Str) : Option Wd := if s = "=" then some .alike else if s = "!=" then some .unlike else if s = "<=" then some .most else if s = ">" then some .over else none
theorem Wd.of_sign (w : Wd) : Wd.of w.sign = some w := by cases w <;> decide +kernel
theorem Wd.of_some {s : Str} {w : Wd} (h : Wd.of s = some w) : s = w.sign := by
  unfold Wd.of at h
  split at h
  · rename_i e; cases h; exact e
  · split at h
    · rename_i e; cases h; exact e
    · split at h
      · rename_i e; cases h; exact e
      · split at h
        · rename_i e; cases h; exact e
        · cases h
def readW (n : Nat) : List Str → Option Fc
  | [a, s, b] => (match Wd.of s with
    | some w => (match readR n a with
      | some t => (match readR n b with
        | some u => some ⟨w, t, u⟩
        | none => none)
      | none => none)
    | none => none)
  | _ => none
def readF (n : Nat) (z : Str) : Option Fc := readW n (Txt.split z " ")
mutual
/-- the signs of a written term: letters, brackets, commas -/
theorem Tm.codes_signs : ∀ {t : Tm}, t.good → ∀ c ∈ t.codes, letter c = true ∨ c = 40 ∨ c = 41 ∨ c = 44
  | .mk n [], h, c, hc => by
    simp only [Tm.codes, Tm.codesB, List.append_nil] at hc
    exact .inl (goodName_all h.1 c hc)
  | .mk n (p :: ps), h, c, hc => by
    simp only [Tm.codes, Tm.codesB, List.mem_append, List.mem_cons, List.not_mem_nil, or_false] at hc
    rcases hc with hc | hc | hc | hc | hc
    · exact .inl (goodName_all h.1 c hc)
    · exact .inr (.inl hc)
    · exact Tm.codes_signs h.2.2.1 c hc
    · exact Tm.codesT_signs h.2.2.2 c hc
    · exact .inr (.inr (.inl hc))
theorem Tm.codesT_signs : ∀ {l : List Tm}, Tm.goods l → ∀ c ∈ Tm.codesT l, letter c = true ∨ c = 40 ∨ c = 41 ∨ c = 44
  | [], _, c, hc => by simp [Tm.codesT] at hc
  | t :: r, h, c, hc => by
    simp only [Tm.codesT, List.mem_append, List.mem_cons] at hc
    rcases hc with hc | hc | hc
    · exact .inr (.inr (.inr hc))
    · exact Tm.codes_signs h.1 c hc
    · exact Tm.codesT_signs h.2 c hc
end
theorem Tm.no32 {t : Tm} (h : t.good) : 32 ∉ t.codes := fun hc => by
  rcases Tm.codes_signs h 32 hc with h | h | h | h
  · revert h; decide
  · cases h
  · cases h
  · cases h
theorem Fc.split {f : Fc} (h : f.good) : Txt.split f.text " " = [f.l.text, f.w.sign, f.r.text] := by
  have e1 : f.text = Txt.join (" " : Str) [f.l.text, f.w.sign, f.r.text] := by
    rw [join_two, join_two, join_one]
    refine str_ext ?_
    simp only [Fc.text, app_cps, List.append_assoc]
  rw [e1]
  refine TL.split_join (y := (" " : Str)) (s := 32) (S := []) (by decide +kernel) (by decide +kernel) (by simp) fun p hp => ?_
  simp only [List.mem_cons, List.not_mem_nil, or_false] at hp
  rcases hp with rfl | rfl | rfl
  · show 32 ∉ f.l.text.cps.toList
    rw [text_cps]
    exact Tm.no32 h.1
  · exact f.w.sign_no32
  · show 32 ∉ f.r.text.cps.toList
    rw [text_cps]
    exact Tm.no32 h.2
theorem readF_text {f : Fc} {n : Nat} (h : f.fine) (hd : f.deep n) : readF n f.text = some f := by
  unfold readF
  rw [Fc.split h.good]
  simp only [readW, Wd.of_sign, readR_text h.1 hd.1, readR_text h.2 hd.2]
/-! parts of a text -/
theorem spl_sub (q : Nat → Bool) : ∀ (l acc p : List Nat), p ∈ TL.spl [32] 0 acc l → p.countP q ≤ (acc ++ l).countP q
  | [], acc, p, h => by
    rw [TL.spl_nil] at h
    rw [List.mem_singleton.mp h, List.append_nil]
    exact Nat.le_refl _
  | c :: r, acc, p, h => by
    cases hp : TL.pre [32] (c :: r) with
    | true =>
      rw [TL.spl_hit hp] at h
      rw [List.countP_append]
      rcases List.mem_cons.mp h with rfl | h
      · omega
      · have := spl_sub q r [] p h
        rw [List.nil_append] at this
        rw [List.countP_cons]
        omega
    | false =>
      rw [TL.spl_miss hp] at h
      have := spl_sub q r (acc ++ [c]) p h
      rw [List.append_assoc] at this
      exact this
theorem split_sub (q : Nat → Bool) {z p : Str} (h : p ∈ Txt.split z " ") : p.cps.toList.countP q ≤ z.cps.toList.countP q := by
  have h1 : (" " : Str).cps.toList = [32] := by decide +kernel
  have h2 := TL.split_spl z (" " : Str) (by show (" " : Str).cps.toList ≠ []; rw [h1]; simp) (TL.kind_ok (by decide +kernel))
  have h3 : p.cps.toList ∈ (Txt.split z " ").map TL.tl := List.mem_map_of_mem (f := TL.tl) h
  rw [h2] at h3
  have h4 : p.cps.toList ∈ TL.spl [32] 0 [] z.cps.toList := by
    have : TL.tl (" " : Str) = [32] := h1
    rw [this] at h3
    exact h3
  have := spl_sub q _ _ _ h4
  rw [List.nil_append] at this
  exact this
theorem split_len {z p : Str} (h : p ∈ Txt.split z " ") : p.length ≤ z.length := by
  have := split_sub (fun _ => true) h
  simp only [List.countP_true] at this
  rw [len_cps, len_cps]
  exact this
theorem split_count {a : Nat} {z p : Str} (h : p ∈ Txt.split z " ") : p.cps.toList.count a ≤ z.cps.toList.count a := split_sub _ h
mutual
/-- as many names as brackets and commas, and one -/
theorem Tm.codes_marks : ∀ {t : Tm}, t.good → t.codes.count 40 + t.codes.count 44 + 1 = t.count
  | .mk n [], h => by
    have h4 : n.cps.toList.count 44 = 0 := List.count_eq_zero.mpr fun hx => by have := h.1.2.2 44 hx; omega
    simp only [Tm.codes, Tm.codesB, Tm.count, Tm.counts, List.append_nil, name_count h.1, h4]
  | .mk n (p :: ps), h => by
    have h4 : n.cps.toList.count 44 = 0 := List.count_eq_zero.mpr fun hx => by have := h.1.2.2 44 hx; omega
    have h1 := Tm.codes_marks h.2.2.1
    have h2 := Tm.codesT_marks h.2.2.2
    have h3 : List.count 40 ([41] : List Nat) = 0 := by decide
    have h5 : List.count 44 ([41] : List Nat) = 0 := by decide
    have h6 : List.count 44 (40 :: (p.codes ++ (Tm.codesT ps ++ [41]))) = List.count 44 (p.codes ++ (Tm.codesT ps ++ [41])) := by rw [List.count_cons]; rfl
    simp only [Tm.codes, Tm.codesB, Tm.count, Tm.counts, List.count_append, List.count_cons_self, name_count h.1, h3, h4, h6, h5]
    omega
theorem Tm.codesT_marks : ∀ {l : List Tm}, Tm.goods l → (Tm.codesT l).count 40 + (Tm.codesT l).count 44 = Tm.counts l
  | [], _ => by simp [Tm.codesT, Tm.counts]
  | t :: r, h => by
    have h1 := Tm.codes_marks h.1
    have h2 := Tm.codesT_marks h.2
    have h3 : List.count 40 (44 :: (t.codes ++ Tm.codesT r)) = List.count 40 (t.codes ++ Tm.codesT r) := by rw [List.count_cons]; rfl
    simp only [Tm.codesT, Tm.counts, h3, List.count_append, List.count_cons_self]
    omega
end
/-- what a law reads: no bound of names -/
def dueR (n : Nat) (z : Str) : Option Tm := match pT n z.cps.toList with
  | some (t, []) => some t
  | _ => none
theorem dueR_read {n : Nat} {z : Str} (h : z.cps.toList.count 40 + z.cps.toList.count 44 ≤ 39) : dueR n z = readR n z := by
  rw [readR_iff]
  unfold dueR
  cases e : pT n z.cps.toList with
  | none => rfl
  | some tr =>
    obtain ⟨t, r⟩ := tr
    cases r with
    | cons _ _ => rfl
    | nil =>
      have h1 := pT_inv n _ _ _ e
      have h2 := Tm.codes_marks (pT_tail n _ _ _ e).1.1
      rw [List.append_nil] at h1
      rw [h1] at h
      simp only
      rw [if_pos (by omega)]
def dueW (n : Nat) : List Str → Option Fc
  | [a, s, b] => (match Wd.of s with
    | some w => (match dueR n a with
      | some t => (match dueR n b with
        | some u => some ⟨w, t, u⟩
        | none => none)
      | none => none)
    | none => none)
  | _ => none
theorem dueW_read {n : Nat} {z : Str} (h : z.cps.toList.count 40 + z.cps.toList.count 44 ≤ 39) : dueW n (Txt.split z " ") = readF n z := by
  have key : ∀ p ∈ Txt.split z " ", dueR n p = readR n p := fun p hp => dueR_read (by
    have h1 := split_count (a := 40) hp
    have h2 := split_count (a := 44) hp
    omega)
  unfold readF
  match e : Txt.split z " ", key with
  | [], _ => rfl
  | [_], _ => rfl
  | [_, _], _ => rfl
  | [a, s, b], key =>
    have ha := key a (by simp)
    have hb := key b (by simp)
    simp only [dueW, readW, ha, hb]
  | _ :: _ :: _ :: _ :: _, _ => rfl
theorem readR_good {n : Nat} {z : Str} {t : Tm} (h : readR n z = some t) : t.fine ∧ t.depth ≤ n := by
  rw [readR_iff] at h
  cases e : pT n z.cps.toList with
  | none => rw [e] at h; cases h
  | some tr =>
    obtain ⟨t2, r⟩ := tr
    rw [e] at h
    cases r with
    | cons _ _ => cases h
    | nil =>
      simp only at h
      split at h
      · injection h with h
        subst h
        have := (pT_tail n _ _ _ e).1
        exact ⟨⟨this.1, by assumption⟩, this.2⟩
      · cases h
theorem readF_good {n : Nat} {z : Str} {f : Fc} (h : readF n z = some f) : f.fine ∧ f.deep n := by
  unfold readF at h
  match e : Txt.split z " " with
  | [] => rw [e] at h; cases h
  | [_] => rw [e] at h; cases h
  | [_, _] => rw [e] at h; cases h
  | _ :: _ :: _ :: _ :: _ => rw [e] at h; cases h
  | [a, s, b] =>
    rw [e] at h
    simp only [readW] at h
    cases hw : Wd.of s with
    | none => rw [hw] at h; cases h
    | some w =>
      rw [hw] at h
      cases ha : readR n a with
      | none => rw [ha] at h; cases h
      | some t =>
        rw [ha] at h
        cases hb : readR n b with
        | none => rw [hb] at h; cases h
        | some u =>
          rw [hb] at h
          simp only [Option.some.injEq] at h
          subst h
          have h1 := readR_good ha
          have h2 := readR_good hb
          exact ⟨⟨h1.1, h2.1⟩, h1.2, h2.2⟩
end AB

set_option Elab.async false
set_option linter.all false
set_option maxRecDepth 100000
namespace AB
open PySem PySem.Spec PyProof.Rows L2
/-! ### errors caught -/
theorem takes0 {X : Cx} : Takes X (fun _ _ _ _ => False) := takes_none5
/-- a class by its name -/
structure Glo (e : Ev) (x : Str) (C : Addr) : Prop where
  mg : e.mg x = some (.ref C)
theorem ExK.glo {e : Ev} {x : Str} {C : Addr} (h : ExK e x C) : Glo e x C := ⟨h.mg⟩
theorem pe_glo {e : Ev} {X : Cx} {x : Str} {C : Addr} {pos : Pos} (h : Glo e x C) (hX : Of e X := by exact ⟨rfl, rfl, rfl, rfl, rfl⟩) (hg : Gl X x := by rfl) (hd : (x == ("__debug__" : Str)) = false := by decide) : PE X (.Name x pos) (tC (.ref C)) :=
  pe_glob hg (by rw [hX.mg]; exact h.mg) rfl hd
theorem names_own {e : Ev} {X : Cx} {x : Str} {C : Addr} (h : Glo e x C) (hX : Of e X := by exact ⟨rfl, rfl, rfl, rfl, rfl⟩) (hg : Gl X x := by rfl) (hd : (x == ("__debug__" : Str)) = false := by decide) : Names X x (.ref C) :=
  ⟨hg, hd, .inl (by rw [hX.mg]; exact h.mg)⟩
/-- what is known of an error's class D: whether it is the classes kt -/
structure ExcK (e : Ev) (D : Addr) (kt : List (V × Value × Bool)) : Prop where
  c : ExcC e.K D
  kit : ∀ q ∈ kt, (∀ u, RelV q.1 u → u = q.2.1) ∧ PySem.W.kitOne e.K (.ref D) q.2.1 = some q.2.2
/-- isinstance(n, c): n the error that the suite holds -/
def rIsEG (e : Ev) (cls : Value) (d : Option Addr) (a : Addr) : List V → Hp → VK → Prop := fun xs H Q => ∃ (D : Addr) (kt : List (V × Value × Bool)) (c : V) (cv : Value) (b : Bool), cls = .ref D ∧ d = none ∧ ExcK e D kt ∧ xs = [.ref a, c] ∧ (c, cv, b) ∈ kt ∧ Q (.bl b) H
theorem call_isEG {e : Ev} {X : Cx} {a : Addr} {cls : Value} {d : Option Addr} {oe : Obj} {pn : List (Addr × Obj)} (hz : Zc cls d oe) (hf : ∃ vs, oe.data = .fields vs) (hX : Of e X := by exact ⟨rfl, rfl, rfl, rfl, rfl⟩) : CallR (X.suite a ((a, oe) :: pn)) (.builtin "isinstance") (rIsEG e cls d a) := by
  intro pins s σ H xs us Q I r h
  obtain ⟨D, kt, c, cv, b, rfl, rfl, K, rfl, hm, q⟩ := h
  obtain ⟨h1, h2⟩ := K.kit _ hm
  have C := K.c
  rw [← hX.K] at C h2
  exact call_isE C hz hf pins s σ H _ us Q I r ⟨c, cv, b, rfl, h1, h2, q⟩
theorem kitAny_of {K : PySem.W.Frag} {t : Value} : ∀ {cs : List (V × Value × Bool)}, (∀ q ∈ cs, PySem.W.kitOne K t q.2.1 = some q.2.2) → PySem.W.kitAny K t (cs.map (·.2.1)) = some (cs.any (·.2.2))
  | [], _ => rfl
  | q :: r, h => by
    have h1 := h q (by simp)
    have h2 := kitAny_of (cs := r) fun z hz => h z (by simp [hz])
    simp only [List.map_cons, List.any_cons, PySem.W.kitAny, h1]
    cases q.2.2 with
    | true => rfl
    | false => simpa using h2
theorem vals_det : ∀ {cs : List (V × Value × Bool)} {us : List Value}, (∀ q ∈ cs, ∀ u, RelV q.1 u → u = q.2.1) → Vals (cs.map (·.1)) us → us = cs.map (·.2.1)
  | [], _, _, .nil => rfl
  | q :: r, _, h, .cons h1 h2 => by
    rw [h q (by simp) _ h1, vals_det (cs := r) (fun z hz => h z (by simp [hz])) h2]
    rfl
/-- isinstance(n, (c, ..)) -/
def rIsET (e : Ev) (cls : Value) (d : Option Addr) (a : Addr) : List V → Hp → VK → Prop := fun xs H Q => ∃ (D : Addr) (kt : List (V × Value × Bool)) (cs : List (V × Value × Bool)) (p : Addr), cls = .ref D ∧ d = none ∧ ExcK e D kt ∧ xs = [.ref a, .ref p] ∧ H p = some (.tup (cs.map (·.1))) ∧ (∀ q ∈ cs, q ∈ kt) ∧
  Q (.bl (cs.any (·.2.2))) H
theorem call_isET {e : Ev} {X : Cx} {a : Addr} {cls : Value} {d : Option Addr} {oe : Obj} {pn : List (Addr × Obj)} (hz : Zc cls d oe) (hf : ∃ vs, oe.data = .fields vs) (hX : Of e X := by exact ⟨rfl, rfl, rfl, rfl, rfl⟩) : CallR (X.suite a ((a, oe) :: pn)) (.builtin "isinstance") (rIsET e cls d a) := by
  intro pins s σ H xs us Q I r h
  obtain ⟨D, kt, cs, p, rfl, rfl, K, rfl, hp, hm, q⟩ := h
  have C := K.c
  rw [← hX.K] at C
  cases r with
  | cons rx rr =>
    cases rr with
    | cons rt rr =>
      cases rr
      cases rx
      cases rt
      obtain ⟨its, hv, ⟨ot, ho, hc, n, hd⟩, _⟩ := I.tuple (SqT.of hp)
      have e1 : its = cs.map (·.2.1) := vals_det (fun q hq => (K.kit q (hm q hq)).1) hv
      have e2 : PySem.W.kitAny X.K (.ref D) its = some (cs.any (·.2.2)) := by
        rw [e1]
        exact kitAny_of fun q hq => by have := (K.kit q (hm q hq)).2; rw [← hX.K] at this; exact this
      obtain ⟨hget, _⟩ := I.pin (a, oe) (List.mem_append.mpr (.inl List.mem_cons_self))
      obtain ⟨vs, hv⟩ := hf
      have J : PySem.W.InstAt s.heap a oe D none := by
        obtain ⟨oc, od, oda, osl⟩ := oe
        obtain ⟨h1, h2⟩ := hz
        dsimp only at h1 h2 hv
        subst h1 h2 hv
        exact ⟨hget, rfl, rfl, trivial⟩
      obtain ⟨tc, td, tdt, tsl⟩ := ot
      dsimp only at hc hd
      subst hc hd
      exact PySem.W.kia_tup (PySem.W.handS_kitx_exc C.hg C.hk C.hs C.hd C.ha C.hn C.ht C.hm) I.kIn J ho e2 (fun z => nomatch z) fun tk => ⟨.bl _, H, I.kept (t' := tk) fun _ _ z => z, rfl, q⟩
/-! what the head shows of these -/
def excCB (K : PySem.W.Frag) (D : Addr) : Bool :=
  decide (PySem.W.findIn K (.ref D) "__getattribute__" = some (some (.builtin "BaseException.__getattribute__"))) && (decide (PySem.W.findIn K (.ref D) "__getattr__" = some none) && (decide (PySem.W.subIn K (.ref D) (.type "BaseException") = some true) &&
  (PySem.W.hasDictIn K D && (decide (PySem.W.findIn K (.ref D) "__class__" = some (some (.builtin "object.__class__"))) && (decide (PySem.W.specialIn K (.builtin "object.__class__") "__get__" = some (some (.builtin "getset_descriptor.__get__"))) &&
  (decide (PySem.W.takesIn K (.builtin "object.__class__") = some true) && decide (PySem.W.mroIn K D (.type "object") = some true)))))))
theorem excCB_ok {K : PySem.W.Frag} {D : Addr} (h : excCB K D = true) : ExcC K D := by
  unfold excCB at h
  simp only [Bool.and_eq_true, decide_eq_true_eq] at h
  obtain ⟨h1, h2, h3, h4, h5, h6, h7, h8⟩ := h
  exact ⟨h1, h2, h3, h4, h5, h6, h7, h8⟩
def kitB (K : PySem.W.Frag) (D : Addr) (c : Value) (b : Bool) : Bool := decide (PySem.W.kitOne K (.ref D) c = some b)
theorem kitB_ok {K : PySem.W.Frag} {D : Addr} {c : Value} {b : Bool} (h : kitB K D c b = true) : PySem.W.kitOne K (.ref D) c = some b := of_decide_eq_true h
theorem rel_ref {C : Addr} : ∀ u, RelV (.ref C) u → u = .ref C := fun _ h => h
theorem rel_ty {n : String} : ∀ u, RelV (.ty n) u → u = .type n := fun _ h => h
/-- where the error is caught: the clause takes it -/
def Takes1 (e : Ev) (D C : Addr) : Prop := PySem.W.exmOne e.K (.ref D) (.ref C) = some true
end AB
namespace AB
open PySem PySem.Spec PyProof.Rows L2
def kts (l : List (Addr × Bool)) : List (V × Value × Bool) := (V.ty "ValueError", Value.type "ValueError", true) :: l.map fun q => (V.ref q.1, Value.ref q.1, q.2)
theorem kts_ve {l : List (Addr × Bool)} : (V.ty "ValueError", Value.type "ValueError", true) ∈ kts l := List.mem_cons_self
theorem kts_of {l : List (Addr × Bool)} {q : Addr × Bool} (h : q ∈ l) : (V.ref q.1, Value.ref q.1, q.2) ∈ kts l := List.mem_cons_of_mem _ (List.mem_map_of_mem (f := fun q => (V.ref q.1, Value.ref q.1, q.2)) h)
/-- the classes of a tuple of them -/
def ktt (l : List (Addr × Bool)) : List (V × Value × Bool) := l.map fun q => (V.ref q.1, Value.ref q.1, q.2)
theorem ktt_sub {l m : List (Addr × Bool)} (h : ∀ q ∈ l, q ∈ m) : ∀ q ∈ ktt l, q ∈ kts m := fun q hq => by
  obtain ⟨z, hz, rfl⟩ := List.mem_map.mp hq
  exact kts_of (h z hz)
theorem excK_of {K : PySem.W.Frag} {P : Program} {w : World} {mg : Str → Option Value} {base : Heap} {D : Addr} {l : List (Addr × Bool)} (h : excCB K D = true) (hv : kitB K D (.type "ValueError") true = true) (hl : ∀ q ∈ l, kitB K D (.ref q.1) q.2 = true) : ExcK ⟨P, w, K, mg, base⟩ D (kts l) := by
  refine ⟨excCB_ok h, fun q hq => ?_⟩
  rcases List.mem_cons.mp hq with rfl | hq
  · exact ⟨rel_ty, kitB_ok hv⟩
  · obtain ⟨z, hz, rfl⟩ := List.mem_map.mp hq
    exact ⟨rel_ref, kitB_ok (hl z hz)⟩
end AB

set_option Elab.async false
set_option linter.all false
set_option maxRecDepth 100000
namespace AB
open PySem PySem.Spec PyProof.Rows L2
/-! ### dicts whose keys are tuples of such data -/
mutual
def Da.nk : Da → NestedKey
  | .int i => .num i
  | .str s => .text s
  | .tup l => .tup (Da.nks l)
def Da.nks : List Da → List NestedKey
  | [] => []
  | d :: r => Da.nk d :: Da.nks r
end
mutual
theorem Da.nk_inj : ∀ a b : Da, a.nk = b.nk → a = b
  | .int a, .int b, h => by simp only [Da.nk, NestedKey.num.injEq] at h; rw [h]
  | .str a, .str b, h => by simp only [Da.nk, NestedKey.text.injEq] at h; rw [h]
  | .tup a, .tup b, h => by simp only [Da.nk, NestedKey.tup.injEq] at h; rw [Da.nks_inj a b h]
  | .int _, .str _, h => by simp [Da.nk] at h
  | .int _, .tup _, h => by simp [Da.nk] at h
  | .str _, .int _, h => by simp [Da.nk] at h
  | .str _, .tup _, h => by simp [Da.nk] at h
  | .tup _, .int _, h => by simp [Da.nk] at h
  | .tup _, .str _, h => by simp [Da.nk] at h
theorem Da.nks_inj : ∀ a b : List Da, Da.nks a = Da.nks b → a = b
  | [], [], _ => rfl
  | a :: as, b :: bs, h => by
    simp only [Da.nks, List.cons.injEq] at h
    rw [Da.nk_inj a b h.1, Da.nks_inj as bs h.2]
  | [], _ :: _, h => by simp [Da.nks] at h
  | _ :: _, [], h => by simp [Da.nks] at h
end
mutual
theorem Da.nk_depth : ∀ a : Da, a.nk.depth = a.depth
  | .int _ => rfl
  | .str _ => rfl
  | .tup l => by simp only [Da.nk, NestedKey.depth, Da.depth, Da.nks_depth l]
theorem Da.nks_depth : ∀ l : List Da, NestedKey.depthAll (Da.nks l) = Da.depths l
  | [] => rfl
  | d :: r => by simp only [Da.nks, NestedKey.depthAll, Da.depths, Da.nk_depth d, Da.nks_depth r]
end
mutual
theorem DaAt.nested {P : Program} {w : World} {H : Hp} {h : Heap} (ok : HOk P w H h) : ∀ (d : Da) (v : V) (u : Value), DaAt H v d → RelV v u → NestedIs h d.nk u
  | .int i, v, u, hv, r => by
    obtain rfl := hv.int_inv
    obtain ⟨t, rfl⟩ := r
    exact .int _ _
  | .str s, v, u, hv, r => by
    obtain rfl := hv.str_inv
    obtain ⟨t, rfl⟩ := r
    exact .text _ _
  | .tup l, v, u, hv, r => by
    obtain ⟨a, vs, rfl, h1, h2⟩ := hv.tup_inv
    obtain rfl : u = Value.ref a := r
    obtain ⟨_, its, rs, o, ho, hc, n, hd⟩ := (show ObjOk P w H h a (.tup vs) from ok a _ h1)
    exact .tup ho hc hd (by simpa using DasAt.nested ok l vs its h2 rs)
theorem DasAt.nested {P : Program} {w : World} {H : Hp} {h : Heap} (ok : HOk P w H h) : ∀ (l : List Da) (vs : List V) (us : List Value), DasAt H vs l → Vals vs us → NestedAll h (Da.nks l) us
  | [], vs, us, hv, r => by
    obtain rfl := hv.nil_inv
    cases r
    exact .nil
  | d :: l, vs, us, hv, r => by
    obtain ⟨v, vr, rfl, h1, h2⟩ := hv.cons_inv
    cases r with
    | cons r1 r2 => exact .cons (DaAt.nested ok d v _ h1 r1) (DasAt.nested ok l vr _ h2 r2)
end
/-- one entry: its key, where the key's tuple stands, its value -/
abbrev KyE : Type := Da × Addr × V
abbrev KyR : KyE → NestedKey × Addr × Value → Prop := fun p q => q.1 = p.1.nk ∧ q.2.1 = p.2.1 ∧ RelV p.2.2 q.2.2
def kyφ (P : Program) (w : World) (d : Addr) (kvs : List KyE) (h : Heap) : Prop :=
  ∃ xs : List (NestedKey × Addr × Value), Paired KyR kvs xs ∧ ∃ o es ep, h.get? d = some o ∧ o.ExactDict ∧ o.data = .dict es ep ∧ es.toList = xs.map (entryOfKey (nestedKind P w)) ∧ (xs.map (·.1)).Nodup
def kyO (P : Program) (w : World) (d : Addr) (kvs : List KyE) : HO := .ext (kyφ P w d kvs)
/-- at d stands a dict with these entries, in order -/
structure KyAt (P : Program) (w : World) (H : Hp) (d : Addr) (kvs : List KyE) : Prop where
  at_ : H d = some (kyO P w d kvs)
  low : (d == sysModules) = false
  small : kvs.length ≤ 1000000
  keys : ∀ q ∈ kvs, (∃ l, q.1 = .tup l) ∧ DaAt H (.ref q.2.1) q.1 ∧ q.1.depth ≤ 8
def kyLook (kvs : List KyE) (k : Da) : Option V := (kvs.find? fun q => decide (q.1 = k)).map fun q => q.2.2
def kyPut (kvs : List KyE) (k : Da) (a : Addr) (v : V) : List KyE := if (kvs.any fun q => decide (q.1 = k)) = true then kvs.map (fun q => if q.1 = k then (q.1, q.2.1, v) else q) else kvs ++ [(k, a, v)]
theorem KyAt.mono {P : Program} {w : World} {H H' : Hp} {d : Addr} {kvs : List KyE} (h : KyAt P w H d kvs) (e : H' d = H d) (t : TX H H') : KyAt P w H' d kvs :=
  ⟨e.trans h.at_, h.low, h.small, fun q hq => let ⟨a, b, c⟩ := h.keys q hq; ⟨a, b.mono t, c⟩⟩
theorem paired_mem {α β : Type} {R : α → β → Prop} : ∀ {l : List α} {m : List β}, Paired R l m → ∀ y ∈ m, ∃ x ∈ l, R x y
  | _, _, .nil, y, h => by cases h
  | _, _, .cons r t, y, h => by
    rcases List.mem_cons.mp h with rfl | h
    · exact ⟨_, List.mem_cons_self, r⟩
    · obtain ⟨x, h1, h2⟩ := paired_mem t y h
      exact ⟨x, List.mem_cons_of_mem _ h1, h2⟩
section
variable {X : Cx} {pins : List (Addr × Obj)} {σ : St} {H : Hp} {s : Shared} {d a : Addr} {kvs : List KyE} {k : Da} {A : Around} {E : Value → Shared → Prop}
theorem ky_of (I : Inv X pins σ H s) (h : KyAt X.prog X.w H d kvs) : ∃ xs, Paired KyR kvs xs ∧ s.heap.DictOfH (nestedKind X.prog X.w) d xs := by
  have h1 : ObjOk X.prog X.w H s.heap d (kyO X.prog X.w d kvs) := I.hok d _ h.at_
  obtain ⟨⟨xs, r, o, es, ep, e1, e2, e3, e4, e5⟩, _, _⟩ := h1
  refine ⟨xs, r, o, es, ep, e1, e2, e3, e4, fun y hy => ?_, e5⟩
  obtain ⟨q, hq, r1, r2, r3⟩ := paired_mem r y hy
  obtain ⟨h2, h3, h4⟩ := h.keys q hq
  rw [r1, r2]
  exact ⟨DaAt.nested I.hok _ _ _ h3 rfl, by rw [Da.nk_depth]; exact h4⟩
theorem ky_is (I : Inv X pins σ H s) (hk : DaAt H (.ref a) k) (hd : k.depth ≤ 8) : (nestedKind X.prog X.w).is s.heap k.nk a := ⟨DaAt.nested I.hok _ _ _ hk rfl, by rw [Da.nk_depth]; exact hd⟩
theorem ky_room (hu : A.units + 65 < cLine) : (nestedKind X.prog X.w).room A.in1 := by
  show A.in1.units + 8 < cLine
  rw [Around.in1_units]
  omega
theorem ky_look {xs : List (NestedKey × Addr × Value)} : ∀ {kvs : List KyE}, Paired KyR kvs xs → RelO (kyLook kvs k) ((atKey xs k.nk).map (·.2)) := by
  intro kvs r
  induction r with
  | nil => exact True.intro
  | @cons p q ps qs h t ih =>
    obtain ⟨h1, h2, h3⟩ := h
    by_cases e : p.1 = k
    · have e' : q.1 = k.nk := by rw [h1, e]
      have b : atKey (q :: qs) k.nk = some q.2 := by simp [atKey, List.find?_cons, e']
      have c : kyLook (p :: ps) k = some p.2.2 := by simp [kyLook, List.find?_cons, e]
      rw [b, c]
      exact h3
    · have e' : ¬ q.1 = k.nk := fun z => e (Da.nk_inj _ _ (h1.symm.trans z))
      have b : atKey (q :: qs) k.nk = atKey qs k.nk := by simp [atKey, List.find?_cons, e']
      have c : kyLook (p :: ps) k = kyLook ps k := by simp [kyLook, List.find?_cons, e]
      rw [b, c]
      exact ih
theorem ky_any : ∀ kvs : List KyE, (kvs.any fun q => decide (q.1 = k)) = (kyLook kvs k).isSome
  | [] => rfl
  | p :: ps => by
    have ih := ky_any ps
    by_cases e : p.1 = k
    · simp [kyLook, List.find?_cons, e]
    · have c : kyLook (p :: ps) k = kyLook ps k := by simp [kyLook, List.find?_cons, e]
      rw [c, ← ih]
      simp [e]
theorem ky_in : ∀ kvs : List KyE, (kyLook kvs k).isSome = decide (k ∈ kvs.map (·.1))
  | [] => rfl
  | p :: ps => by
    have ih := ky_in ps
    by_cases e : p.1 = k
    · simp [kyLook, List.find?_cons, e]
    · have c : kyLook (p :: ps) k = kyLook ps k := by simp [kyLook, List.find?_cons, e]
      rw [c, ih]
      have e' : ¬ k = p.1 := fun z => e z.symm
      simp [e']
theorem ky_put {xs : List (NestedKey × Addr × Value)} {v : V} {u : Value} (ru : RelV v u) (r : Paired KyR kvs xs) : Paired KyR (kyPut kvs k a v) (storedH xs k.nk a u) := by
  have e : (kvs.any fun q => decide (q.1 = k)) = (atKey xs k.nk).isSome := by
    rw [ky_any, (ky_look r).isSome_eq, Option.isSome_map]
  unfold kyPut storedH
  rw [e]
  by_cases q : (atKey xs k.nk).isSome = true
  · rw [if_pos q, if_pos q]
    clear q e
    induction r with
    | nil => exact .nil
    | @cons p q ps qs h t ih =>
      rw [List.map_cons, List.map_cons]
      refine .cons ?_ ih
      obtain ⟨h1, h2, h3⟩ := h
      unfold putAt
      by_cases e : p.1 = k
      · have e' : q.1 = k.nk := by rw [h1, e]
        rw [if_pos e, if_pos e']
        exact ⟨h1, h2, ru⟩
      · have e' : ¬ q.1 = k.nk := fun z => e (Da.nk_inj _ _ (h1.symm.trans z))
        rw [if_neg e, if_neg e']
        exact ⟨h1, h2, h3⟩
  · rw [if_neg q, if_neg q]
    exact Paired.snoc r ⟨rfl, rfl, ru⟩
theorem ky_put_len (kvs : List KyE) (k : Da) (a : Addr) (v : V) : (kyPut kvs k a v).length ≤ kvs.length + 1 := by
  unfold kyPut
  split
  · rw [List.length_map]; omega
  · rw [List.length_append, List.length_singleton]; omega
/-- d[k] = v -/
theorem ky_set {v : V} {r : Value} {Q : Unit → Shared → Prop} (hu : A.units + 65 < cLine) (I : Inv X pins σ H s) (h : KyAt X.prog X.w H d kvs) (hk : DaAt H (.ref a) k) (hd : k.depth ≤ 8) (rv : RelV v r)
    (q : ∀ s', Inv X pins σ (upd H d (kyO X.prog X.w d (kyPut kvs k a v))) s' → Q () s') : wpAny (model X.prog X.w) A (setItem (.ref d) (.ref a) r) Q E s := by
  obtain ⟨xs, rel, dd⟩ := ky_of I h
  have hz : xs.length ≤ sizeLine := by rw [← Paired.length rel, sizeLine_eq]; have := h.small; omega
  refine wpAny_setItem_heap (hsz := hz) (ky_room (X := X) hu) (ky_is I hk hd) dd fun h' dd' hs => q _ ?_
  obtain ⟨o, es, ep, hq, h2, h3, h4, _, h5⟩ := dd'
  refine d_write I (by rw [h.at_]; exact True.intro) hs ⟨o, hq⟩ ⟨⟨_, ky_put rv rel, o, es, ep, hq, h2, h3, h4, h5⟩, ⟨o, hq⟩, ?_⟩
  rintro h1 h2 ⟨xs, r, o, es, ep, e1, e2⟩ st
  exact ⟨xs, r, o, es, ep, st _ e1, e2⟩
end
theorem TX.ky {P : Program} {w : World} {H : Hp} {d : Addr} {kvs : List KyE} {o : HO} (h : KyAt P w H d kvs) : TX H (upd H d o) := TX.put h.at_ (fun z => z)
theorem kyPut_keys {kvs : List KyE} {k : Da} {a : Addr} {v : V} : ∀ q ∈ kyPut kvs k a v, (∃ q0 ∈ kvs, q0.1 = q.1 ∧ q0.2.1 = q.2.1) ∨ (q.1 = k ∧ q.2.1 = a) := by
  intro q hq
  unfold kyPut at hq
  split at hq
  · obtain ⟨q0, h0, rfl⟩ := List.mem_map.mp hq
    refine .inl ⟨q0, h0, ?_⟩
    by_cases e : q0.1 = k
    · rw [if_pos e]; exact ⟨rfl, rfl⟩
    · rw [if_neg e]; exact ⟨rfl, rfl⟩
  · rcases List.mem_append.mp hq with h | h
    · exact .inl ⟨q, h, rfl, rfl⟩
    · rw [List.mem_singleton.mp h]
      exact .inr ⟨rfl, rfl⟩
/-- behind d[k] = v -/
theorem KyAt.put {P : Program} {w : World} {H : Hp} {d a : Addr} {kvs : List KyE} {k : Da} {l : List Da} {v : V} (h : KyAt P w H d kvs) (hk : DaAt H (.ref a) k) (hl : k = .tup l) (hd : k.depth ≤ 8) (hz : kvs.length + 1 ≤ 1000000) :
    KyAt P w (upd H d (kyO P w d (kyPut kvs k a v))) d (kyPut kvs k a v) := by
  have T := TX.ky (o := kyO P w d (kyPut kvs k a v)) h
  refine ⟨upd_same, h.low, Nat.le_trans (ky_put_len _ _ _ _) hz, fun q hq => ?_⟩
  rcases kyPut_keys q hq with ⟨q0, h0, e1, e2⟩ | ⟨e1, e2⟩
  · obtain ⟨h1, h2, h3⟩ := h.keys q0 h0
    rw [← e1, ← e2]
    exact ⟨h1, h2.mono T, h3⟩
  · rw [e1, e2]
    exact ⟨⟨l, hl⟩, hk.mono T, hd⟩
section
variable {X : Cx}
/-- k in d, k not in d -/
def rInKy (P : Program) (w : World) (neg : Bool) : R2 := fun x y H Q => ∃ l d kvs, DaAt H x (.tup l) ∧ (Da.tup l).depth ≤ 8 ∧ y = .ref d ∧ KyAt P w H d kvs ∧ Q (.bl (if neg then !decide (.tup l ∈ kvs.map (·.1)) else decide (.tup l ∈ kvs.map (·.1)))) H
theorem op_inKy {e : Ev} (hu : X.A.units + 65 < cLine) (hX : Of e X := by exact ⟨rfl, rfl, rfl, rfl, rfl⟩) : OpR X (compareOp .In) (rInKy e.P e.w false) := by
  rw [← hX.P, ← hX.w]
  intro pins s σ H x y v u Q I rx ry h
  obtain ⟨l, d, kvs, hx, hd, rfl, hk, q⟩ := h
  obtain ⟨a, vs, rfl, h1, h2⟩ := id hx.tup_inv
  cases rx
  cases ry
  obtain ⟨xs, rel, dd⟩ := ky_of I hk
  refine wpAny_in_heap (ky_room (X := X) hu) (ky_is I hx hd) hk.low dd ?_
  have e : (atKey xs (Da.tup l).nk).isSome = decide (.tup l ∈ kvs.map (·.1)) := by
    rw [← ky_in kvs, (ky_look (k := .tup l) rel).isSome_eq, Option.isSome_map]
  rw [e]
  exact ⟨.bl _, H, I.tok _, rfl, q⟩
theorem op_notInKy {e : Ev} (hu : X.A.units + 65 < cLine) (hX : Of e X := by exact ⟨rfl, rfl, rfl, rfl, rfl⟩) : OpR X (compareOp .NotIn) (rInKy e.P e.w true) := by
  rw [← hX.P, ← hX.w]
  intro pins s σ H x y v u Q I rx ry h
  obtain ⟨l, d, kvs, hx, hd, rfl, hk, q⟩ := h
  obtain ⟨a, vs, rfl, h1, h2⟩ := id hx.tup_inv
  cases rx
  cases ry
  obtain ⟨xs, rel, dd⟩ := ky_of I hk
  refine wpAny_notIn_heap (ky_room (X := X) hu) (ky_is I hx hd) hk.low dd ?_
  have e : (atKey xs (Da.tup l).nk).isSome = decide (.tup l ∈ kvs.map (·.1)) := by
    rw [← ky_in kvs, (ky_look (k := .tup l) rel).isSome_eq, Option.isSome_map]
  rw [e]
  exact ⟨.bl _, H, I.tok _, rfl, q⟩
/-- d[k], there -/
def rIxKy (P : Program) (w : World) : R2 := fun x y H Q => ∃ d kvs l v, x = .ref d ∧ KyAt P w H d kvs ∧ DaAt H y (.tup l) ∧ (Da.tup l).depth ≤ 8 ∧ kyLook kvs (.tup l) = some v ∧ Q v H
theorem ky_type {pins : List (Addr × Obj)} {σ : St} {H : Hp} {s : Shared} {d : Addr} {kvs : List KyE} (I : Inv X pins σ H s) (h : KyAt X.prog X.w H d kvs) : s.TypeIs (.ref d) "dict" :=
  let ⟨_, _, dd⟩ := ky_of I h; dd.typeIs
theorem ix_ky {e : Ev} (hu : X.A.units + 65 < cLine) (hX : Of e X := by exact ⟨rfl, rfl, rfl, rfl, rfl⟩) : IxR X (rIxKy e.P e.w) := by
  rw [← hX.P, ← hX.w]
  intro value slice pins s σ H x y v u Q I rx ry h hs
  obtain ⟨d, kvs, l, z, rfl, hk, hy, hd, hz, q⟩ := h
  obtain ⟨a, vs, rfl, h1, h2⟩ := id hy.tup_inv
  cases rx
  cases ry
  obtain ⟨xs, rel, dd⟩ := ky_of I hk
  have hr := ky_look (k := .tup l) rel
  rw [hz] at hr
  obtain ⟨w', hw, rw'⟩ := RelO.some_of (v := z) (o := (atKey xs (Da.tup l).nk).map (·.2)) hr
  obtain ⟨p, hp, hp2⟩ := Option.map_eq_some_iff.mp hw
  refine tail_any dd.typeIs PySem.F.slot_dict_getitem.lookup (wpAny_getItem_heap (ky_room (X := X) hu) (ky_is I hy hd) dd hp ?_) hs
  rw [hp2]
  exact ⟨z, H, I.tok _, rw', q⟩
/-- {}, to be such a dict -/
def tKyNew (P : Program) (w : World) : TE := fun _ H Q => ∀ p, H p = none → KyAt P w (upd H p (kyO P w p [])) p [] → Q (.ref p) (upd H p (kyO P w p []))
theorem pe_kynew {e : Ev} {pos : Pos} (hX : Of e X := by exact ⟨rfl, rfl, rfl, rfl, rfl⟩) : PE X (.Dict [] [] pos) (tKyNew e.P e.w) := by
  rw [← hX.P, ← hX.w]
  refine ⟨fun pins s σ H Q I h => ?_⟩
  have hb : (s.heap.objs.size == sysModules) = false := beq_eq_false_iff_ne.mpr (Ne.symm (Nat.ne_of_lt I.big))
  have hf : H s.heap.objs.size = none := I.hok.fresh (Nat.le_refl _)
  refine wpAny_Dict_empty ⟨.ref s.heap.objs.size, _, I.laid (a := s.heap.objs.size) (o := kyO X.prog X.w s.heap.objs.size []) (t' := s.toks) (fun _ _ q => Heap.get?_push_of_some _ q) (Nat.le_refl _) ?_, rfl, h _ hf ⟨upd_same, hb, by simp, fun q hq => by cases hq⟩⟩
  refine ⟨⟨[], .nil, _, #[], 0, Heap.get?_push_size _ rfl, ⟨rfl, rfl, rfl⟩, rfl, rfl, List.nodup_nil⟩, ⟨_, Heap.get?_push_size _ rfl⟩, ?_⟩
  rintro h1 h2 ⟨xs, r, o, es, ep, e1, e2⟩ st
  exact ⟨xs, r, o, es, ep, st _ e1, e2⟩
/-- d[k] = v -/
def sKyPut (P : Program) (w : World) (td ty tv : TE) : TS := fun D σ H => tv σ H fun v H1 => td σ H1 fun x H2 => ty σ H2 fun y H3 => ∃ d kvs l, x = .ref d ∧ KyAt P w H3 d kvs ∧ DaAt H3 y (.tup l) ∧ (Da.tup l).depth ≤ 8 ∧ kvs.length + 1 ≤ 1000000 ∧
  ∀ a, y = .ref a → KyAt P w (upd H3 d (kyO P w d (kyPut kvs (.tup l) a v))) d (kyPut kvs (.tup l) a v) → D.nx σ (upd H3 d (kyO P w d (kyPut kvs (.tup l) a v)))
theorem ps_kyput {e : Ev} {o i value : Expr} {pos pos' : Pos} {td ty tv : TE} (hu : X.A.units + 65 < cLine) (ho : PE X o td) (hi : PE X i ty) (hv : PE X value tv) (hs : swapsWith value (some (.Subscript o i pos')) pos.line X.env = pure false := by rfl) (hX : Of e X := by exact ⟨rfl, rfl, rfl, rfl, rfl⟩) :
    PS X (.Assign [.Subscript o i pos'] value pos) (sKyPut e.P e.w td ty tv) := by
  rw [← hX.P, ← hX.w]
  refine ⟨fun pins s σ H D I h => ?_⟩
  refine wpAny_Assign_Subscript (thn (hv.run pins s σ H _ I h) fun r s1 ⟨v, H1, I1, rv, q1⟩ => thn (ho.run pins s1 σ H1 _ I1 q1) fun u s2 ⟨x, H2, I2, rx, q2⟩ => thn (hi.run pins s2 σ H2 _ I2 q2) fun iv s3 ⟨y, H3, I3, ry, d, kvs, l, ex, hk, hy, hd, hz, q3⟩ => ?_) hs
  subst ex
  obtain rfl : u = Value.ref d := rx
  obtain ⟨a, vs, rfl, h1, h2⟩ := id hy.tup_inv
  cases ry
  exact ky_set hu I3 hk hy hd rv fun s4 I4 => ⟨σ, _, I4, q3 a rfl (hk.put hy rfl hd hz)⟩
/-- len(d) -/
def rLenKy (P : Program) (w : World) : List V → Hp → VK → Prop := fun xs H Q => ∃ d kvs, xs = [.ref d] ∧ KyAt P w H d kvs ∧ Q (.int kvs.length) H
theorem call_lenKy {e : Ev} (hX : Of e X := by exact ⟨rfl, rfl, rfl, rfl, rfl⟩) : CallR X (.builtin "len") (rLenKy e.P e.w) := by
  rw [← hX.P, ← hX.w]
  intro pins s σ H xs us Q I r h
  obtain ⟨d, kvs, rfl, hk, q⟩ := h
  obtain ⟨u, rfl, rx⟩ := vals1 r
  obtain rfl : u = .ref d := rx
  obtain ⟨ys, rel, dd⟩ := ky_of I hk
  have hl : kvs.length = ys.length := Paired.length rel
  refine call_len_dictH hk.low dd (by have := hk.small; omega) ?_
  rw [← hl]
  exact ⟨.int kvs.length, H, I.tok _, ⟨_, rfl⟩, q⟩
/-- a field, told by the world around -/
theorem pe_fldE {e : Ev} {o : Expr} {f : Str} {pos : Pos} {ta : TE} (he : PE X o ta) (hb : attributeBase o f X.env (eval o X.env) = eval o X.env) (hX : Of e X := by exact ⟨rfl, rfl, rfl, rfl, rfl⟩) : PE X (.Attribute o f pos) (tFld e.K ta f) := by
  have h := pe_fld (f := f) (pos := pos) he hb
  rw [hX.K] at h
  exact h
/-- d.get(k, x): a dict of ints, texts -/
theorem pe_getK {o e f : Expr} {td ty tx : TE} {apos cpos : Pos} (hu : X.A.units + 1 < cLine) (ho : PE X o td) (he : PE X e ty) (hf : PE X f tx) (h1 : attributeBase o "get" X.env (eval o X.env) = eval o X.env := by rfl)
    (h2 : ((backTo cpos (starEach [e, f] X.env)).all (fun x => !x.1) && (backToKw cpos (keywordEach [] X.env)).all (fun x => x.1.isSome)
      && decide (([e, f] : List Expr).length + ([] : List Keyword).length + (if ([] : List Keyword).isEmpty then 0 else 1) < 30)) = true := by rfl)
    (h3 : (apos.endLine == cpos.line) = true := by rfl) (h4 : backTo cpos (starEach [e, f] X.env) = [(false, eval e X.env), (false, eval f X.env)] := by rfl) : PE X (.Call (.Attribute o "get" apos) [e, f] [] cpos) (tDGet2 td ty tx) :=
  pe_dget2 hu ho he hf ⟨h1, h2, h3, h4⟩
theorem ps_dputK {o i value : Expr} {pos pos' : Pos} {td ty tv : TE} (hu : X.A.units + 1 < cLine) (ho : PE X o td) (hi : PE X i ty) (hv : PE X value tv) (hs : swapsWith value (some (.Subscript o i pos')) pos.line X.env = pure false := by rfl) :
    PS X (.Assign [.Subscript o i pos'] value pos) (sDPut td ty tv) := ps_dput hu ho hi hv hs
end
end AB

set_option Elab.async false
set_option linter.all false
set_option maxRecDepth 100000
namespace AB
open PySem PySem.Spec PyProof.Rows L2
/-! ### groups of terms, told by numbers -/
def hiG (g : Tm → Int) (s t : Tm) : Int := if g s < g t then g t else g s
def loG (g : Tm → Int) (s t : Tm) : Int := if g t < g s then g t else g s
theorem hiG_is (g : Tm → Int) (s t : Tm) : (hiG g s t = g t ∧ g s ≤ g t) ∨ (hiG g s t = g s ∧ g t ≤ g s) := by
  unfold hiG
  by_cases h : g s < g t
  · rw [if_pos h]; exact .inl ⟨rfl, by omega⟩
  · rw [if_neg h]; exact .inr ⟨rfl, by omega⟩
theorem loG_is (g : Tm → Int) (s t : Tm) : (loG g s t = g t ∧ g t ≤ g s) ∨ (loG g s t = g s ∧ g s ≤ g t) := by
  unfold loG
  by_cases h : g t < g s
  · rw [if_pos h]; exact .inl ⟨rfl, by omega⟩
  · rw [if_neg h]; exact .inr ⟨rfl, by omega⟩
def joinG (g : Tm → Int) (s t : Tm) : Tm → Int := fun u => if g u = hiG g s t then loG g s t else g u
theorem joinG_hi {g : Tm → Int} {s t u : Tm} (h : g u = hiG g s t) : joinG g s t u = loG g s t := if_pos h
theorem joinG_no {g : Tm → Int} {s t u : Tm} (h : ¬ g u = hiG g s t) : joinG g s t u = g u := if_neg h
theorem joinG_eq {g : Tm → Int} {s t : Tm} (h : g s = g t) (u : Tm) : joinG g s t u = g u := by
  have h1 := hiG_is g s t
  have h2 := loG_is g s t
  by_cases e : g u = hiG g s t
  · rw [joinG_hi e]; omega
  · exact joinG_no e
/-- what is put together in g holds of A -/
def SoundG (A : Tm → Tm → Prop) (ts : List Tm) (g : Tm → Int) : Prop := ∀ u ∈ ts, ∀ v ∈ ts, g u = g v → A u v
structure EqvOn (A : Tm → Tm → Prop) (ts : List Tm) : Prop where
  refl : ∀ u ∈ ts, A u u
  symm : ∀ u ∈ ts, ∀ v ∈ ts, A u v → A v u
  trans : ∀ u ∈ ts, ∀ v ∈ ts, ∀ w ∈ ts, A u v → A v w → A u w
theorem joinG_sound {A : Tm → Tm → Prop} {ts : List Tm} {g : Tm → Int} {s t : Tm} (E : EqvOn A ts) (hs : s ∈ ts) (ht : t ∈ ts) (h : SoundG A ts g) (a : A s t) : SoundG A ts (joinG g s t) := by
  have near : ∀ v ∈ ts, (g v = g t ∨ g v = g s) → A v s := by
    intro v hv e
    rcases e with e | e
    · exact E.trans _ hv _ ht _ hs (h _ hv _ ht e) (E.symm _ hs _ ht a)
    · exact h _ hv _ hs e
  have hi := hiG_is g s t
  have lo := loG_is g s t
  intro u hu v hv e
  by_cases eu : g u = hiG g s t <;> by_cases ev : g v = hiG g s t
  · exact E.trans _ hu _ hs _ hv (near u hu (by omega)) (E.symm _ hv _ hs (near v hv (by omega)))
  · rw [joinG_hi eu, joinG_no ev] at e
    exact E.trans _ hu _ hs _ hv (near u hu (by omega)) (E.symm _ hv _ hs (near v hv (by omega)))
  · rw [joinG_no eu, joinG_hi ev] at e
    exact E.trans _ hu _ hs _ hv (near u hu (by omega)) (E.symm _ hv _ hs (near v hv (by omega)))
  · rw [joinG_no eu, joinG_no ev] at e
    exact h _ hu _ hv e
/-- all numbers together -/
def sumG (ts : List Tm) (g : Tm → Int) : Nat := (ts.map fun t => (g t).toNat).sum
theorem joinG_le {g : Tm → Int} {s t : Tm} (u : Tm) : joinG g s t u ≤ g u := by
  have hi := hiG_is g s t
  have lo := loG_is g s t
  by_cases eu : g u = hiG g s t
  · rw [joinG_hi eu]; omega
  · rw [joinG_no eu]; exact Int.le_refl _
theorem joinG_pos {ts : List Tm} {g : Tm → Int} {s t : Tm} (hs : s ∈ ts) (ht : t ∈ ts) (h : ∀ u ∈ ts, 0 ≤ g u) : ∀ u ∈ ts, 0 ≤ joinG g s t u := by
  intro u hu
  have h1 := h s hs
  have h2 := h t ht
  have h3 := h u hu
  have lo := loG_is g s t
  by_cases eu : g u = hiG g s t
  · rw [joinG_hi eu]; omega
  · rw [joinG_no eu]; exact h3
theorem sumG_le {ts : List Tm} {g g' : Tm → Int} (h : ∀ u ∈ ts, g' u ≤ g u) : sumG ts g' ≤ sumG ts g := by
  induction ts with
  | nil => exact Nat.le_refl _
  | cons t r ih =>
    have h1 := h t (by simp)
    have h2 := ih fun u hu => h u (by simp [hu])
    simp only [sumG, List.map_cons, List.sum_cons] at h2 ⊢
    omega
theorem sumG_lt {ts : List Tm} {g g' : Tm → Int} (h : ∀ u ∈ ts, g' u ≤ g u) {t : Tm} (ht : t ∈ ts) (h0 : 0 ≤ g' t) (hlt : g' t < g t) : sumG ts g' < sumG ts g := by
  induction ts with
  | nil => cases ht
  | cons x r ih =>
    have h1 := h x (by simp)
    have h3 := sumG_le (ts := r) (g := g) (g' := g') fun u hu => h u (by simp [hu])
    simp only [sumG, List.map_cons, List.sum_cons] at h3 ⊢
    rcases List.mem_cons.mp ht with rfl | ht
    · omega
    · have h2 := ih (fun u hu => h u (by simp [hu])) ht
      simp only [sumG] at h2
      omega
theorem joinG_sum {ts : List Tm} {g : Tm → Int} {s t : Tm} (hs : s ∈ ts) (ht : t ∈ ts) (h : ∀ u ∈ ts, 0 ≤ g u) (hne : g s ≠ g t) : sumG ts (joinG g s t) < sumG ts g := by
  have hp := joinG_pos hs ht h
  have hi := hiG_is g s t
  have lo := loG_is g s t
  rcases Int.lt_or_gt_of_ne hne with hlt | hlt
  · refine sumG_lt (fun u _ => joinG_le u) ht (hp t ht) ?_
    rw [joinG_hi (by omega)]
    omega
  · refine sumG_lt (fun u _ => joinG_le u) hs (hp s hs) ?_
    rw [joinG_hi (by omega)]
    omega
/-! ### the dict of groups -/
theorem kyLook_put {kvs : List KyE} {k k' : Da} {a : Addr} {v : V} : kyLook (kyPut kvs k a v) k' = if k' = k then some v else kyLook kvs k' := by
  unfold kyPut
  by_cases h : (kvs.any fun q => decide (q.1 = k)) = true
  · rw [if_pos h]
    induction kvs with
    | nil => cases h
    | cons p ps ih =>
      rw [List.map_cons]
      by_cases e : p.1 = k
      · by_cases e2 : k' = k
        · subst e2
          simp [kyLook, List.find?_cons, e]
        · rw [if_neg e2]
          have n1 : ¬ p.1 = k' := fun z => e2 (z.symm.trans e)
          have c1 : kyLook (p :: ps) k' = kyLook ps k' := by simp [kyLook, List.find?_cons, n1]
          rw [c1, if_pos e]
          have c2 : ∀ l : List KyE, kyLook ((p.1, p.2.1, v) :: l) k' = kyLook l k' := fun l => by simp [kyLook, List.find?_cons, n1]
          rw [c2]
          clear ih h c1 c2
          induction ps with
          | nil => rfl
          | cons q qs ih =>
            rw [List.map_cons]
            by_cases f : q.1 = k'
            · have f2 : ¬ q.1 = k := fun z => e2 (f.symm.trans z)
              rw [if_neg f2]
              simp [kyLook, List.find?_cons, f]
            · have d1 : kyLook (q :: qs) k' = kyLook qs k' := by simp [kyLook, List.find?_cons, f]
              have d2 : kyLook ((if q.1 = k then (q.1, q.2.1, v) else q) :: qs.map fun q => if q.1 = k then (q.1, q.2.1, v) else q) k' = kyLook (qs.map fun q => if q.1 = k then (q.1, q.2.1, v) else q) k' := by
                split <;> simp [kyLook, List.find?_cons, f]
              rw [d1, d2]
              exact ih
      · have h' : (ps.any fun q => decide (q.1 = k)) = true := by
          rw [List.any_cons] at h
          simpa [e] using h
        rw [if_neg e]
        by_cases f : p.1 = k'
        · have f2 : ¬ k' = k := fun z => e (f.trans z)
          rw [if_neg f2]
          simp [kyLook, List.find?_cons, f]
        · have d1 : ∀ l : List KyE, kyLook (p :: l) k' = kyLook l k' := fun l => by simp [kyLook, List.find?_cons, f]
          rw [d1, d1]
          exact ih h'
  · rw [if_neg h]
    have hn : kyLook kvs k = none := by
      have := ky_any (k := k) kvs
      rw [Bool.eq_false_iff.mpr h] at this
      cases e : kyLook kvs k with
      | none => rfl
      | some z => rw [e] at this; cases this
    by_cases e2 : k' = k
    · subst e2
      rw [if_pos rfl]
      unfold kyLook at hn ⊢
      rw [List.find?_append]
      cases e : kvs.find? fun q => decide (q.1 = k') with
      | some z => rw [e] at hn; cases hn
      | none => simp
    · rw [if_neg e2]
      unfold kyLook
      rw [List.find?_append]
      have : ¬ k = k' := fun z => e2 z.symm
      simp [this]
theorem kyPut_in {kvs : List KyE} {k : Da} {a : Addr} {v : V} (h : k ∈ kvs.map (·.1)) : (kyPut kvs k a v).map (·.1) = kvs.map (·.1) := by
  unfold kyPut
  rw [if_pos (by
    rw [ky_any, ky_in]
    exact decide_eq_true h), List.map_map]
  refine List.map_congr_left fun q _ => ?_
  show (if q.1 = k then (q.1, q.2.1, v) else q).1 = q.1
  split <;> rfl
theorem kyPut_out {kvs : List KyE} {k : Da} {a : Addr} {v : V} (h : ¬ k ∈ kvs.map (·.1)) : (kyPut kvs k a v).map (·.1) = kvs.map (·.1) ++ [k] := by
  unfold kyPut
  rw [if_neg (by
    rw [ky_any, ky_in]
    simp only [decide_eq_true_eq]
    exact h), List.map_append]
  rfl
/-- the dict at D: the terms ts, each with its group -/
def GrpAt (P : Program) (w : World) (H : Hp) (D : Addr) (ts : List Tm) (g : Tm → Int) : Prop := ∃ kvs, KyAt P w H D kvs ∧ kvs.map (·.1) = ts.map Tm.da ∧ ∀ t ∈ ts, kyLook kvs t.da = some (.int (g t))
theorem GrpAt.mono {P : Program} {w : World} {H H' : Hp} {D : Addr} {ts : List Tm} {g : Tm → Int} (h : GrpAt P w H D ts g) (e : H' D = H D) (t : TX H H') : GrpAt P w H' D ts g :=
  let ⟨kvs, a, b, c⟩ := h; ⟨kvs, a.mono e t, b, c⟩
theorem GrpAt.same {P : Program} {w : World} {H H' : Hp} {D : Addr} {ts : List Tm} {g : Tm → Int} (h : GrpAt P w H D ts g) (s : Same H H') : GrpAt P w H' D ts g :=
  h.mono (by obtain ⟨kvs, a, _⟩ := h; rw [s _ _ a.at_, a.at_]) (TX.of_same s)
theorem GrpAt.congr {P : Program} {w : World} {H : Hp} {D : Addr} {ts : List Tm} {g g' : Tm → Int} (h : GrpAt P w H D ts g) (e : ∀ t ∈ ts, g' t = g t) : GrpAt P w H D ts g' :=
  let ⟨kvs, a, b, c⟩ := h; ⟨kvs, a, b, fun t ht => by rw [e t ht]; exact c t ht⟩
/-- one term's group told anew -/
theorem GrpAt.put {P : Program} {w : World} {H : Hp} {D a : Addr} {ts : List Tm} {g : Tm → Int} {t : Tm} {z : Int} (kvs : List KyE) (hk : kvs.map (·.1) = ts.map Tm.da) (hl : ∀ t ∈ ts, kyLook kvs t.da = some (.int (g t))) (ht : t ∈ ts)
    (h : KyAt P w H D (kyPut kvs t.da a (.int z))) : GrpAt P w H D ts (fun u => if u = t then z else g u) := by
  refine ⟨_, h, ?_, fun u hu => ?_⟩
  · rw [kyPut_in (by rw [hk]; exact List.mem_map_of_mem ht), hk]
  · show kyLook _ _ = some (V.int (if u = t then z else g u))
    rw [kyLook_put]
    by_cases e : u = t
    · subst e
      rw [if_pos rfl, if_pos rfl]
    · rw [if_neg (fun q => e (Tm.da_inj _ _ q)), if_neg e]
      exact hl u hu
/-- all but x and D stands -/
def But2 (x D : Addr) (H H' : Hp) : Prop := ∀ b o, b ≠ x → b ≠ D → H b = some o → H' b = some o
theorem But2.refl {x D : Addr} (H : Hp) : But2 x D H H := fun _ _ _ _ h => h
theorem But2.trans {x D : Addr} {H H1 H2 : Hp} (a : But2 x D H H1) (b : But2 x D H1 H2) : But2 x D H H2 := fun c o n m h => b c o n m (a c o n m h)
theorem But2.of {x D : Addr} {H H' : Hp} (s : Same H H') : But2 x D H H' := fun b o _ _ h => s b o h
theorem But2.putx {x D : Addr} (H : Hp) (o : HO) : But2 x D H (upd H x o) := fun b u n _ h => by rw [upd_ne n]; exact h
theorem But2.putD {x D : Addr} (H : Hp) (o : HO) : But2 x D H (upd H D o) := fun b u _ n h => by rw [upd_ne n]; exact h
theorem But2.same {x D : Addr} {H0 H H' : Hp} (b : But2 x D H H') (s : Same H0 H) (hx : H0 x = none) (hD : H0 D = none) : Same H0 H' := fun c o e => b c o (ne_of_none e hx) (ne_of_none e hD) (s c o e)
end AB
namespace AB
open PySem PySem.Spec PyProof.Rows L2
mutual
theorem DaAt.det {H : Hp} : ∀ (d d' : Da) (v : V), DaAt H v d → DaAt H v d' → d = d'
  | .int i, .int j, v, h, h' => by have := h.int_inv.symm.trans h'.int_inv; injection this with this; rw [this]
  | .str i, .str j, v, h, h' => by have := h.str_inv.symm.trans h'.str_inv; injection this with this; rw [this]
  | .tup l, .tup m, v, h, h' => by
    obtain ⟨a, vs, rfl, h1, h2⟩ := h.tup_inv
    obtain ⟨b, ws, e, h3, h4⟩ := h'.tup_inv
    injection e with e
    subst e
    rw [h1] at h3
    injection h3 with h3
    injection h3 with h3
    subst h3
    rw [DasAt.det l m vs h2 h4]
  | .int i, .str j, v, h, h' => by have := h.int_inv.symm.trans h'.str_inv; cases this
  | .str i, .int j, v, h, h' => by have := h.str_inv.symm.trans h'.int_inv; cases this
  | .int i, .tup m, v, h, h' => by obtain ⟨a, _, e, _⟩ := h'.tup_inv; have := h.int_inv.symm.trans e; cases this
  | .str i, .tup m, v, h, h' => by obtain ⟨a, _, e, _⟩ := h'.tup_inv; have := h.str_inv.symm.trans e; cases this
  | .tup l, .int i, v, h, h' => by obtain ⟨a, _, e, _⟩ := h.tup_inv; have := h'.int_inv.symm.trans e; cases this
  | .tup l, .str i, v, h, h' => by obtain ⟨a, _, e, _⟩ := h.tup_inv; have := h'.str_inv.symm.trans e; cases this
theorem DasAt.det {H : Hp} : ∀ (l m : List Da) (vs : List V), DasAt H vs l → DasAt H vs m → l = m
  | [], [], _, _, _ => rfl
  | d :: l, d' :: m, vs, h, h' => by
    obtain ⟨v, r, rfl, h1, h2⟩ := h.cons_inv
    obtain ⟨v', r', e, h3, h4⟩ := h'.cons_inv
    injection e with e1 e2
    subst e1 e2
    rw [DaAt.det d d' v h1 h3, DasAt.det l m r h2 h4]
  | [], d :: m, vs, h, h' => by
    obtain rfl := h.nil_inv
    obtain ⟨v, r, e, _⟩ := h'.cons_inv
    cases e
  | d :: l, [], vs, h, h' => by
    obtain rfl := h'.nil_inv
    obtain ⟨v, r, e, _⟩ := h.cons_inv
    cases e
end
/-- behind some joins: a term's group stays, or the number is out of use; no number is new -/
structure Later (ts : List Tm) (g0 g1 : Tm → Int) : Prop where
  stay : ∀ p ∈ ts, g1 p = g0 p ∨ ∀ u ∈ ts, g1 u ≠ g0 p
  old : ∀ u ∈ ts, ∃ v ∈ ts, g1 u = g0 v
theorem Later.refl (ts : List Tm) (g : Tm → Int) : Later ts g g := ⟨fun _ _ => .inl rfl, fun u hu => ⟨u, hu, rfl⟩⟩
theorem Later.trans {ts : List Tm} {a b c : Tm → Int} (h1 : Later ts a b) (h2 : Later ts b c) : Later ts a c := by
  refine ⟨fun p hp => ?_, fun u hu => ?_⟩
  · rcases h1.stay p hp with e | e
    · rcases h2.stay p hp with e2 | e2
      · exact .inl (e2.trans e)
      · exact .inr fun u hu => by rw [← e]; exact e2 u hu
    · refine .inr fun u hu z => ?_
      obtain ⟨v, hv, e2⟩ := h2.old u hu
      exact e v hv (e2.symm.trans z)
  · obtain ⟨v, hv, e⟩ := h2.old u hu
    obtain ⟨w, hw, e2⟩ := h1.old v hv
    exact ⟨w, hw, e.trans e2⟩
theorem joinG_later {ts : List Tm} {g : Tm → Int} {s t : Tm} (hs : s ∈ ts) (ht : t ∈ ts) : Later ts g (joinG g s t) := by
  have hi := hiG_is g s t
  have lo := loG_is g s t
  refine ⟨fun p hp => ?_, fun u hu => ?_⟩
  · by_cases e : g p = hiG g s t
    · by_cases e2 : loG g s t = hiG g s t
      · exact .inl (by rw [joinG_hi e, e2, e])
      · refine .inr fun u hu z => ?_
        by_cases e3 : g u = hiG g s t
        · rw [joinG_hi e3, e] at z
          exact e2 z
        · rw [joinG_no e3, e] at z
          exact e3 z
    · exact .inl (joinG_no e)
  · by_cases e : g u = hiG g s t
    · rcases lo with ⟨e2, _⟩ | ⟨e2, _⟩
      · exact ⟨t, ht, by rw [joinG_hi e, e2]⟩
      · exact ⟨s, hs, by rw [joinG_hi e, e2]⟩
    · exact ⟨u, hu, joinG_no e⟩
/-- what a term is told by: its name, its parts' groups -/
def keyD (g : Tm → Int) (t : Tm) : Da := .tup (.str t.name :: t.parts.map fun p => .int (g p))
theorem keyD_inj {g g' : Tm → Int} {s t : Tm} (h : keyD g s = keyD g' t) : s.name = t.name ∧ s.parts.map g = t.parts.map g' := by
  simp only [keyD, Da.tup.injEq, List.cons.injEq, Da.str.injEq] at h
  refine ⟨h.1, ?_⟩
  have h2 : (s.parts.map g).map Da.int = (t.parts.map g').map Da.int := by rw [List.map_map, List.map_map]; exact h.2
  exact (List.map_inj_right fun a b h => by injection h).mp h2
theorem keyD_congr {g g' : Tm → Int} {t : Tm} (h : ∀ p ∈ t.parts, g p = g' p) : keyD g t = keyD g' t := by
  unfold keyD
  rw [List.map_congr_left fun p hp => by rw [h p hp]]
theorem keyD_depth (g : Tm → Int) (t : Tm) : (keyD g t).depth ≤ 1 := by
  have : ∀ l : List Tm, Da.depths (l.map fun p => Da.int (g p)) = 0 := fun l => by
    induction l with
    | nil => rfl
    | cons x r ih => simp only [List.map_cons, Da.depths, Da.depth, ih]; rfl
  simp only [keyD, Da.depth, Da.depths, this]
  omega
/-- A goes up from the parts -/
def PartsA (A : Tm → Tm → Prop) (ts : List Tm) : Prop := ∀ s ∈ ts, ∀ t ∈ ts, s.name = t.name → s.parts.length = t.parts.length → (∀ (i : Nat) (p q : Tm), s.parts[i]? = some p → t.parts[i]? = some q → A p q) → A s t
/-- like parts, like group -/
def LikeCl (ts : List Tm) (g : Tm → Int) : Prop := ∀ s ∈ ts, ∀ t ∈ ts, s.name = t.name → s.parts.map g = t.parts.map g → g s = g t
theorem like_sound {A : Tm → Tm → Prop} {ts : List Tm} {g0 g : Tm → Int} {s t : Tm} (P : PartsA A ts) (S : SoundG A ts g) (L : Later ts g0 g) (hp : ∀ t ∈ ts, ∀ p ∈ t.parts, p ∈ ts) (hs : s ∈ ts) (ht : t ∈ ts) (h : keyD g0 s = keyD g t) : A s t := by
  obtain ⟨h1, h2⟩ := keyD_inj h
  refine P s hs t ht h1 (by have := congrArg List.length h2; simpa using this) fun i p q e1 e2 => ?_
  have hpm := hp s hs p (List.mem_of_getElem? e1)
  have hqm := hp t ht q (List.mem_of_getElem? e2)
  have e3 : g0 p = g q := by
    have h3 := congrArg (fun l => l[i]?) h2
    simp only [List.getElem?_map, e1, e2, Option.map_some] at h3
    exact Option.some.inj h3
  rcases L.stay p hpm with e4 | e4
  · exact S p hpm q hqm (e4.trans e3)
  · exact absurd e3.symm (e4 q hqm)
end AB
namespace AB
open PySem PySem.Spec PyProof.Rows L2
mutual
theorem DaAt.monoT {H H' : Hp} (t : ∀ a xs, H a = some (.tup xs) → H' a = some (.tup xs)) : ∀ (d : Da) (v : V), DaAt H v d → DaAt H' v d
  | .int i, v, h => by rw [h.int_inv]; exact .int
  | .str i, v, h => by rw [h.str_inv]; exact .str
  | .tup l, v, h => by
    obtain ⟨a, vs, rfl, h1, h2⟩ := h.tup_inv
    exact .tup (t _ _ h1) (DasAt.monoT t l vs h2)
theorem DasAt.monoT {H H' : Hp} (t : ∀ a xs, H a = some (.tup xs) → H' a = some (.tup xs)) : ∀ (l : List Da) (vs : List V), DasAt H vs l → DasAt H' vs l
  | [], vs, h => by rw [h.nil_inv]; exact .nil
  | d :: l, vs, h => by
    obtain ⟨v, r, rfl, h1, h2⟩ := h.cons_inv
    exact .cons (DaAt.monoT t d v h1) (DasAt.monoT t l r h2)
end
theorem GrpAt.monoT {P : Program} {w : World} {H H' : Hp} {D : Addr} {ts : List Tm} {g : Tm → Int} (h : GrpAt P w H D ts g) (e : H' D = H D) (t : ∀ a xs, H a = some (.tup xs) → H' a = some (.tup xs)) : GrpAt P w H' D ts g :=
  let ⟨kvs, a, b, c⟩ := h; ⟨kvs, ⟨e.trans a.at_, a.low, a.small, fun q hq => let ⟨x, y, z⟩ := a.keys q hq; ⟨x, DaAt.monoT t _ _ y, z⟩⟩, b, c⟩
end AB

set_option Elab.async false
set_option linter.all false
set_option maxRecDepth 100000
namespace AB
open PySem PySem.Spec PyProof.Rows L2
/-! ### xs put behind what was put ahead -/
theorem dd_app {α : Type} [DecidableEq α] : ∀ (xs ys acc : List α), dd acc (xs ++ ys) = dd (dd acc xs) ys
  | [], _, _ => rfl
  | x :: r, ys, acc => dd_app r ys _
theorem dd_dd {α : Type} [DecidableEq α] : ∀ (xs b acc : List α), dd acc (dd b xs) = dd (dd acc b) xs
  | [], _, _ => rfl
  | x :: r, b, acc => by
    show dd acc (dd (if x ∈ b then b else b ++ [x]) r) = dd (if x ∈ dd acc b then dd acc b else dd acc b ++ [x]) r
    rw [dd_dd r]
    by_cases h : x ∈ b
    · rw [if_pos h, if_pos ((dd_mem _ _ _).mpr (.inr h))]
    · rw [if_neg h, dd_snoc]
theorem Tm.subss_dd : ∀ (ps b acc : List Tm), dd acc (Tm.subss b ps) = Tm.subss (dd acc b) ps
  | [], _, _ => rfl
  | p :: r, b, acc => by
    show dd acc (Tm.subss (dd b p.subs) r) = Tm.subss (dd (dd acc b) p.subs) r
    rw [Tm.subss_dd r, dd_dd]
theorem Tm.put_eq (t : Tm) (acc : List Tm) : dd acc t.subs = if t ∈ Tm.subss acc t.parts then Tm.subss acc t.parts else Tm.subss acc t.parts ++ [t] := by
  cases t with
  | mk n ps =>
    show dd acc (Tm.subss [] ps ++ [.mk n ps]) = _
    rw [dd_snoc, Tm.subss_dd]
    rfl
theorem Tm.counts_app : ∀ (l m : List Tm), Tm.counts (l ++ m) = Tm.counts l + Tm.counts m
  | [], m => by simp [Tm.counts]
  | x :: r, m => by simp only [List.cons_append, Tm.counts, Tm.counts_app r m]; omega
/-! ### lists of lists of truths -/
def rowV (n : Nat) (f : Nat → Bool) : List V := (List.range n).map fun j => .bl (f j)
theorem rowV_len (n : Nat) (f : Nat → Bool) : (rowV n f).length = n := by simp [rowV]
theorem rowV_get {n j : Nat} (f : Nat → Bool) (h : j < n) : (rowV n f)[j]? = some (.bl (f j)) := by simp [rowV, h]
theorem rowV_set {n j : Nat} (f : Nat → Bool) (b : Bool) : (rowV n f).set j (.bl b) = rowV n fun k => if k = j then b else f k := by
  refine List.ext_getElem? fun k => ?_
  rw [List.getElem?_set, rowV_len]
  by_cases e : j = k
  · subst e
    rw [if_pos rfl]
    by_cases h : j < n
    · rw [if_pos h, rowV_get _ h, if_pos rfl]
    · rw [if_neg h]
      have : (rowV n fun k => if k = j then b else f k).length ≤ j := by rw [rowV_len]; omega
      rw [List.getElem?_eq_none this]
  · rw [if_neg e]
    by_cases h : k < n
    · rw [rowV_get _ h, rowV_get _ h, if_neg (fun z => e z.symm)]
    · rw [List.getElem?_eq_none (by rw [rowV_len]; omega), List.getElem?_eq_none (by rw [rowV_len]; omega)]
theorem rowV_congr {n : Nat} {f g : Nat → Bool} (h : ∀ j, j < n → f j = g j) : rowV n f = rowV n g := by
  unfold rowV
  exact List.map_congr_left fun j hj => by rw [h j (List.mem_range.mp hj)]
theorem ixn_nat {n j : Nat} (h : j < n) : ixN n (j : Int) = some j := by
  unfold ixN
  rw [if_pos (by omega), if_pos (by omega)]
  simp
/-- all but the addresses of R stands -/
def ButL (R : List Addr) (H H' : Hp) : Prop := ∀ a o, ¬ a ∈ R → H a = some o → H' a = some o
theorem ButL.refl {R : List Addr} (H : Hp) : ButL R H H := fun _ _ _ h => h
theorem ButL.trans {R : List Addr} {H H1 H2 : Hp} (a : ButL R H H1) (b : ButL R H1 H2) : ButL R H H2 := fun c o n h => b c o n (a c o n h)
theorem ButL.of {R : List Addr} {H H' : Hp} (s : Same H H') : ButL R H H' := fun b o _ h => s b o h
theorem ButL.put {R : List Addr} {p : Addr} (hp : p ∈ R) (H : Hp) (o : HO) : ButL R H (upd H p o) := fun b u n h => by rw [upd_ne (show b ≠ p from fun z => n (by rw [z]; exact hp))]; exact h
theorem ButL.mono {R S : List Addr} {H H' : Hp} (b : ButL R H H') (h : ∀ a ∈ R, a ∈ S) : ButL S H H' := fun c o n e => b c o (fun z => n (h c z)) e
theorem ButL.same {R : List Addr} {H0 H H' : Hp} (b : ButL R H H') (s : Same H0 H) (h : ∀ a ∈ R, H0 a = none) : Same H0 H' := fun c o e => b c o (fun z => by rw [h c z] at e; cases e) (s c o e)
/-- the table at L with the rows at R -/
structure Mat (H : Hp) (L : Addr) (R : List Addr) (n : Nat) (m : Nat → Nat → Bool) : Prop where
  at_ : H L = some (.lst (R.map V.ref))
  len : R.length = n
  nd : R.Nodup
  out : ¬ L ∈ R
  row : ∀ (i : Nat) (a : Addr), R[i]? = some a → H a = some (.lst (rowV n (m i)))
theorem Mat.tx {H H' : Hp} {L : Addr} {R : List Addr} {n : Nat} {m : Nat → Nat → Bool} (h : Mat H L R n m) (b : ButL R H H') : TX H H' := fun a o i e => b a o (fun z => by
  obtain ⟨k, hk⟩ := List.mem_iff_getElem?.mp z
  rw [h.row k a hk] at e
  cases e
  exact i) e
theorem Mat.move {H H' : Hp} {L : Addr} {R : List Addr} {n : Nat} {m : Nat → Nat → Bool} (h : Mat H L R n m) (e : H' L = H L) (b : ∀ a ∈ R, H' a = H a) : Mat H' L R n m :=
  ⟨e.trans h.at_, h.len, h.nd, h.out, fun i a ha => (b a (List.mem_of_getElem? ha)).trans (h.row i a ha)⟩
theorem Mat.same {H H' : Hp} {L : Addr} {R : List Addr} {n : Nat} {m : Nat → Nat → Bool} (h : Mat H L R n m) (s : Same H H') : Mat H' L R n m :=
  ⟨s _ _ h.at_, h.len, h.nd, h.out, fun i a ha => s _ _ (h.row i a ha)⟩
/-- what is written elsewhere -/
theorem Mat.keep {H H' : Hp} {L : Addr} {R S : List Addr} {n : Nat} {m : Nat → Nat → Bool} (h : Mat H L R n m) (b : ButL S H H') (hL : ¬ L ∈ S) (hR : ∀ a ∈ R, ¬ a ∈ S) : Mat H' L R n m :=
  ⟨b _ _ hL h.at_, h.len, h.nd, h.out, fun i a ha => b _ _ (hR a (List.mem_of_getElem? ha)) (h.row i a ha)⟩
theorem Mat.congr {H : Hp} {L : Addr} {R : List Addr} {n : Nat} {m m' : Nat → Nat → Bool} (h : Mat H L R n m) (e : ∀ i j, i < n → j < n → m' i j = m i j) : Mat H L R n m' :=
  ⟨h.at_, h.len, h.nd, h.out, fun i a ha => by
    have hi : i < n := by have := (List.getElem?_eq_some_iff.mp ha).1; have := h.len; omega
    rw [h.row i a ha, rowV_congr fun j hj => e i j hi hj]⟩
theorem Mat.at {H : Hp} {L : Addr} {R : List Addr} {n : Nat} {m : Nat → Nat → Bool} (h : Mat H L R n m) {i : Nat} (hi : i < n) : ∃ a, R[i]? = some a ∧ (R.map V.ref)[i]? = some (.ref a) ∧ H a = some (.lst (rowV n (m i))) ∧ a ∈ R := by
  have := h.len
  have e : R[i]? = some R[i] := List.getElem?_eq_getElem (by omega)
  exact ⟨_, e, by rw [List.getElem?_map, e]; rfl, h.row i _ e, List.mem_of_getElem? e⟩
def setM (m : Nat → Nat → Bool) (i j : Nat) : Nat → Nat → Bool := fun a b => if a = i ∧ b = j then true else m a b
theorem setM_at (m : Nat → Nat → Bool) (i j : Nat) : setM m i j i j = true := if_pos ⟨rfl, rfl⟩
theorem setM_le {m : Nat → Nat → Bool} {i j a b : Nat} (h : m a b = true) : setM m i j a b = true := by
  unfold setM
  split
  · rfl
  · exact h
theorem setM_of {m : Nat → Nat → Bool} {i j a b : Nat} (h : setM m i j a b = true) : (a = i ∧ b = j) ∨ m a b = true := by
  unfold setM at h
  split at h
  · exact .inl ‹_›
  · exact .inr h
theorem Mat.put {H : Hp} {L : Addr} {R : List Addr} {n : Nat} {m : Nat → Nat → Bool} (h : Mat H L R n m) {i j : Nat} {a : Addr} (ha : R[i]? = some a) : Mat (upd H a (.lst ((rowV n (m i)).set j (.bl true)))) L R n (setM m i j) := by
  have hm := List.mem_of_getElem? ha
  refine ⟨by rw [upd_ne (show L ≠ a from fun z => h.out (by rw [z]; exact hm))]; exact h.at_, h.len, h.nd, h.out, fun k b hb => ?_⟩
  by_cases e : k = i
  · subst e
    rw [ha] at hb
    injection hb with hb
    subst hb
    rw [upd_same, rowV_set]
    have : (fun q => if q = j then true else m k q) = setM m k j k := by
      funext q
      unfold setM
      by_cases e : q = j
      · rw [if_pos e, if_pos ⟨rfl, e⟩]
      · rw [if_neg e, if_neg (fun z => e z.2)]
    rw [this]
  · have nab : b ≠ a := fun z => by
      subst z
      exact e ((List.getElem?_inj (by have := (List.getElem?_eq_some_iff.mp hb).1; exact this) h.nd).mp (hb.trans ha.symm))
    rw [upd_ne nab, h.row k b hb]
    have : setM m i j k = m k := by
      funext q
      exact if_neg (fun z => e z.1)
    rw [this]
/-- how many are not told yet -/
def prs (n : Nat) : List (Nat × Nat) := (List.range n).flatMap fun i => (List.range n).map fun j => (i, j)
theorem prs_mem {n i j : Nat} : (i, j) ∈ prs n ↔ i < n ∧ j < n := by simp [prs]
def fM (n : Nat) (m : Nat → Nat → Bool) : Nat := (prs n).countP fun p => !m p.1 p.2
theorem countP_le {α : Type} {p q : α → Bool} : ∀ {l : List α}, (∀ x ∈ l, q x = true → p x = true) → l.countP q ≤ l.countP p
  | [], _ => Nat.le_refl _
  | x :: r, h => by
    have ih := countP_le (l := r) fun y hy => h y (by simp [hy])
    rw [List.countP_cons, List.countP_cons]
    have := h x (by simp)
    by_cases e : q x = true
    · rw [if_pos e, if_pos (this e)]; omega
    · rw [if_neg e]; omega
theorem countP_lt {α : Type} {p q : α → Bool} : ∀ {l : List α}, (∀ x ∈ l, q x = true → p x = true) → ∀ {x : α}, x ∈ l → p x = true → q x = false → l.countP q < l.countP p
  | [], _, _, h, _, _ => by cases h
  | y :: r, h, x, hx, h1, h2 => by
    have h' : ∀ z ∈ r, q z = true → p z = true := fun z hz => h z (by simp [hz])
    have hle := countP_le h'
    rw [List.countP_cons, List.countP_cons]
    have hy := h y (by simp)
    rcases List.mem_cons.mp hx with e | hx
    · subst e
      rw [h2, if_pos h1, if_neg (by decide)]
      omega
    · have := countP_lt h' hx h1 h2
      by_cases e : q y = true
      · rw [if_pos e, if_pos (hy e)]; omega
      · rw [if_neg e]; omega
def leM (n : Nat) (m m' : Nat → Nat → Bool) : Prop := ∀ i j, i < n → j < n → m i j = true → m' i j = true
theorem leM.refl (n : Nat) (m : Nat → Nat → Bool) : leM n m m := fun _ _ _ _ h => h
theorem leM.trans {n : Nat} {a b c : Nat → Nat → Bool} (h : leM n a b) (k : leM n b c) : leM n a c := fun i j hi hj z => k i j hi hj (h i j hi hj z)
theorem leM.set (n : Nat) (m : Nat → Nat → Bool) (i j : Nat) : leM n m (setM m i j) := fun _ _ _ _ h => setM_le h
theorem fM_le {n : Nat} {m m' : Nat → Nat → Bool} (h : leM n m m') : fM n m' ≤ fM n m := countP_le fun p hp e => by
  obtain ⟨i, j⟩ := p
  obtain ⟨hi, hj⟩ := prs_mem.mp hp
  cases q : m i j with
  | false => simp [q]
  | true => simp [h i j hi hj q] at e
theorem fM_lt {n : Nat} {m m' : Nat → Nat → Bool} (h : leM n m m') {i j : Nat} (hi : i < n) (hj : j < n) (h1 : m i j = false) (h2 : m' i j = true) : fM n m' < fM n m := countP_lt (fun p hp e => by
  obtain ⟨a, b⟩ := p
  obtain ⟨ha, hb⟩ := prs_mem.mp hp
  cases q : m a b with
  | false => simp [q]
  | true => simp [h a b ha hb q] at e) (prs_mem.mpr ⟨hi, hj⟩) (by simp [h1]) (by simp [h2])
def SndM (n : Nat) (m : Nat → Nat → Bool) (A : Nat → Nat → Prop) : Prop := ∀ i j, i < n → j < n → m i j = true → A i j
def TrnR (n : Nat) (A : Nat → Nat → Prop) : Prop := ∀ i j k, i < n → j < n → k < n → A i j → A j k → A i k
theorem SndM.set {n : Nat} {m : Nat → Nat → Bool} {A : Nat → Nat → Prop} {i j : Nat} (h : SndM n m A) (a : A i j) : SndM n (setM m i j) A := fun p q hp hq e => by
  rcases setM_of e with ⟨rfl, rfl⟩ | e
  · exact a
  · exact h p q hp hq e
/-- a pass over one table -/
structure PassM (n : Nat) (A : Nat → Nat → Prop) (m m' : Nat → Nat → Bool) (c : Bool) (Cl : Prop) : Prop where
  le : leM n m m'
  snd : SndM n m' A
  lt : c = true → fM n m' < fM n m
  done : c = false → (∀ i j, i < n → j < n → m' i j = m i j) ∧ Cl
theorem PassM.start {n : Nat} {A : Nat → Nat → Prop} {m : Nat → Nat → Bool} {Cl : Prop} (h : SndM n m A) (c : Cl) : PassM n A m m false Cl := ⟨leM.refl _ _, h, (fun z => by cases z), fun _ => ⟨fun _ _ _ _ => rfl, c⟩⟩
theorem PassM.imp {n : Nat} {A : Nat → Nat → Prop} {m m' : Nat → Nat → Bool} {c : Bool} {Cl Cl' : Prop} (h : PassM n A m m' c Cl) (k : c = false → (∀ i j, i < n → j < n → m' i j = m i j) → Cl → Cl') : PassM n A m m' c Cl' := ⟨h.le, h.snd, h.lt, fun z => ⟨(h.done z).1, k z (h.done z).1 (h.done z).2⟩⟩
theorem PassM.fle {n : Nat} {A : Nat → Nat → Prop} {m m' : Nat → Nat → Bool} {c : Bool} {Cl : Prop} (h : PassM n A m m' c Cl) : fM n m' ≤ fM n m := fM_le h.le
theorem PassM.set {n : Nat} {A : Nat → Nat → Prop} {m m' : Nat → Nat → Bool} {c : Bool} {Cl Cl' : Prop} {i j : Nat} (h : PassM n A m m' c Cl) (hi : i < n) (hj : j < n) (a : A i j) (no : m' i j = false) : PassM n A m (setM m' i j) true Cl' :=
  ⟨h.le.trans (leM.set n m' i j), h.snd.set a, fun _ => Nat.lt_of_lt_of_le (fM_lt (leM.set n m' i j) hi hj no (setM_at _ _ _)) h.fle, fun z => by cases z⟩
/-! ### the place of a term -/
def ixOf (ts : List Tm) (t : Tm) : Nat := ts.idxOf t
theorem ixOf_get {ts : List Tm} {t : Tm} (h : t ∈ ts) : ts[ixOf ts t]? = some t := by
  have h1 : ts.idxOf t < ts.length := List.idxOf_lt_length_iff.mpr h
  show ts[ts.idxOf t]? = some t
  rw [List.getElem?_eq_getElem h1, List.getElem_idxOf h1]
theorem ixOf_lt {ts : List Tm} {t : Tm} (h : t ∈ ts) : ixOf ts t < ts.length := List.idxOf_lt_length_iff.mpr h
theorem ixOf_first {ts : List Tm} {t : Tm} {k : Nat} (h : k < ixOf ts t) : ts[k]? ≠ some t := fun e => by
  have h1 := (List.getElem?_eq_some_iff.mp e)
  obtain ⟨h2, h3⟩ := h1
  have := List.not_of_lt_findIdx (p := fun x => x == t) (xs := ts) (i := k) h
  rw [h3] at this
  simp at this
theorem ixOf_of {ts : List Tm} {t : Tm} {k : Nat} (nd : ts.Nodup) (h : ts[k]? = some t) : ixOf ts t = k :=
  (List.getElem?_inj (ixOf_lt (List.mem_of_getElem? h)) nd).mp ((ixOf_get (List.mem_of_getElem? h)).trans h.symm)
section
variable {X : Cx}
/-- ts.index(t) -/
def rIndexT : V → List V → Hp → VK → Prop := fun x xs H Q => ∃ (a : Addr) (y : V) (ts : List Tm) (t : Tm), x = .ref a ∧ xs = [y] ∧ LD H a (ts.map Tm.da) ∧ DaAt H y t.da ∧ okL (ts.map Tm.da) ∧ okD t.da ∧ t ∈ ts ∧ Q (.int (ixOf ts t)) H
theorem mt_indexT (hu : X.A.units + 65 < cLine) : MtR X "list.index" rIndexT := by
  intro pins s σ H x xs v us Q I rx rxs h
  obtain ⟨a, y, ts, t, rfl, rfl, hl, hy, k1, k2, hm, q⟩ := h
  have e1 : ∀ l : List Da, Da.pys l = l.map Da.py := fun l => by
    induction l with
    | nil => rfl
    | cons d r ih => rw [Da.pys, ih]; rfl
  have e2 : ∀ k : Nat, (Da.pys (ts.map Tm.da))[k]? = (ts[k]?).map fun u => u.da.py := fun k => by
    rw [e1, List.map_map, List.getElem?_map]; rfl
  refine mt_indexD hu pins s σ H _ _ v us Q I rx rxs ⟨a, y, t.da.py, Da.pys (ts.map Tm.da), ixOf ts t, t.da.py, rfl, rfl, hl.dp, hy.dp, k1.sh, k2.sh, ?_, (Da.eqv_iff _ _).mpr rfl, fun k z' hk hz => ?_, q⟩
  · rw [e2, ixOf_get hm]; rfl
  · rw [e2] at hz
    cases e3 : ts[k]? with
    | none => rw [e3] at hz; cases hz
    | some u =>
      rw [e3] at hz
      have hz : u.da.py = z' := Option.some.inj hz
      subst hz
      cases e4 : PyData.eqv u.da.py t.da.py with
      | false => rfl
      | true =>
        have := Tm.da_inj _ _ ((Da.eqv_iff _ _).mp e4)
        subst this
        exact absurd e3 (ixOf_first hk)
end
/-! ### rules within a comprehension: told by the world around -/
section
variable {e : Ev} {X : Cx}
theorem call_lenLE (hX : Of e X := by exact ⟨rfl, rfl, rfl, rfl, rfl⟩) : CallR X (.builtin "len") (rLenL e.K) := by
  rw [← hX.K]; exact call_lenL
theorem ix_listE (hX : Of e X := by exact ⟨rfl, rfl, rfl, rfl, rfl⟩) : IxR X (rIxL e.K) := by
  rw [← hX.K]; exact ix_list
theorem sl_listE (hX : Of e X := by exact ⟨rfl, rfl, rfl, rfl, rfl⟩) : SlR X (rSlL e.K) := by
  rw [← hX.K]; exact sl_list
theorem op_in_seqE (hX : Of e X := by exact ⟨rfl, rfl, rfl, rfl, rfl⟩) : OpR X (compareOp .In) (rIn e.K false) := by
  rw [← hX.K]; exact op_in_seq
theorem op_notIn_seqE (hX : Of e X := by exact ⟨rfl, rfl, rfl, rfl, rfl⟩) : OpR X (compareOp .NotIn) (rIn e.K true) := by
  rw [← hX.K]; exact op_notIn_seq
theorem pi_listE {tg l : Expr} {tl : TE} (hl : PE X l tl) (hX : Of e X := by exact ⟨rfl, rfl, rfl, rfl, rfl⟩) : PI X tg l (iList e.K tl) := by
  rw [← hX.K]; exact pi_list hl
theorem pi_tupE {tg l : Expr} {tl : TE} (hl : PE X l tl) (hX : Of e X := by exact ⟨rfl, rfl, rfl, rfl, rfl⟩) : PI X tg l (iTup e.K tl) := by
  rw [← hX.K]; exact pi_tup hl
theorem pe_bmE {T name : String} {id : String} {r : V → List V → Hp → VK → Prop} {o a : Expr} {es : List Expr} {to : TE} {t : TA} {apos cpos : Pos} (pa : PlainAttrs T) (slot : Slot T name id) (hty : typeOf (.builtin id) = pure (.type "method_descriptor")) (hm : MtR X id r) (ho : PE X o to) (ha : PA X (a :: es) t)
    (hX : Of e X := by exact ⟨rfl, rfl, rfl, rfl, rfl⟩) (hbase : attributeBase o name X.env (eval o X.env) = eval o X.env := by rfl)
    (hfew : ((backTo cpos (starEach (a :: es) X.env)).all (fun x => !x.1) && (backToKw cpos (keywordEach [] X.env)).all (fun x => x.1.isSome)
      && decide ((a :: es).length + ([] : List Keyword).length + (if ([] : List Keyword).isEmpty then 0 else 1) < 30)) = true := by rfl)
    (hline : (apos.endLine == cpos.line) = true := by rfl) (hs : starEach (a :: es) X.env = (false, eval a X.env) :: starEach es X.env := by rfl) (hplain : (backTo cpos (starEach es X.env)).any (·.1) = false := by rfl) :
    PE X (.Call (.Attribute o name apos) (a :: es) [] cpos) (tBM e.K T r to t) := by
  rw [← hX.K]; exact pe_bm pa slot hty hm ho ha hbase hfew hline hs hplain
end
/-! ### lists of such data: put together, cut, copied, popped -/
theorem DasAt.erase {H : Hp} {vs : List V} {ds : List Da} (h : DasAt H vs ds) (k : Nat) : DasAt H (vs.eraseIdx k) (ds.eraseIdx k) := by
  rw [List.eraseIdx_eq_take_drop_succ, List.eraseIdx_eq_take_drop_succ]
  exact (h.take k).append (h.drop (k + 1))
theorem cutD_to {α : Type} (l : List α) {k : Nat} (h : k ≤ l.length) : cutD l none (some (k : Int)) = l.take k := by
  unfold cutD
  rw [HT.sIx_nat, HT.sIx_none, Nat.min_eq_left h]
  simp
theorem cutD_from {α : Type} (l : List α) {k : Nat} (h : k ≤ l.length) : cutD l (some (k : Int)) none = l.drop k := by
  unfold cutD
  rw [HT.sIx_nat, HT.sIx_none, Nat.min_eq_left h]
  rw [List.take_of_length_le]
  rw [List.length_drop]
  exact Nat.le_refl _
theorem cutD_mem {α : Type} {l : List α} {lo hi : Option Int} {x : α} (h : x ∈ cutD l lo hi) : x ∈ l := List.mem_of_mem_drop (List.mem_of_mem_take h)
theorem cutD_map {α β : Type} (f : α → β) (l : List α) (lo hi : Option Int) : cutD (l.map f) lo hi = (cutD l lo hi).map f := by
  unfold cutD
  rw [List.length_map, List.map_take, List.map_drop]
theorem cutD_len {α : Type} (l : List α) (lo hi : Option Int) : (cutD l lo hi).length ≤ l.length := by
  unfold cutD
  rw [List.length_take, List.length_drop]
  omega
theorem atI_mem {α : Type} {l : List α} {z : Int} (h0 : 0 ≤ z) (h1 : z < l.length) : ∃ d, d ∈ l ∧ atI l z = some d ∧ l[z.toNat]? = some d := by
  have h2 : z.toNat < l.length := by omega
  have e : l[z.toNat]? = some l[z.toNat] := List.getElem?_eq_getElem h2
  refine ⟨_, List.getElem_mem h2, ?_, e⟩
  have := atI_nat e
  rw [show ((z.toNat : Nat) : Int) = z by omega] at this
  exact this
section
variable {X : Cx}
def rCatLD : R2 := fun x y H Q => ∃ a b l m, x = .ref a ∧ y = .ref b ∧ LD H a l ∧ LD H b m ∧ l.length + m.length ≤ sizeLine ∧ ∀ p H', H p = none → Same H H' → LD H' p (l ++ m) → Q (.ref p) H'
theorem op_catLD : OpR X (binaryOp .Add) rCatLD := by
  intro pins s σ H x y v u Q I rx ry h
  obtain ⟨a, b, l, m, rfl, rfl, ⟨vs, h1, h2⟩, ⟨ws, h3, h4⟩, hz, q⟩ := h
  exact op_cat pins s σ H _ _ v u Q I rx ry ⟨a, b, vs, ws, rfl, rfl, h1, h3, by rw [h2.length, h4.length]; exact hz, fun p hp => q p _ hp (same_new hp _) ⟨_, upd_same, (h2.append h4).mono (TX.new hp)⟩⟩
def rSlLD : V → Option Int → Option Int → Hp → VK → Prop := fun x lo hi H Q => ∃ a l, x = .ref a ∧ LD H a l ∧ ∀ p H', H p = none → Same H H' → LD H' p (cutD l lo hi) → Q (.ref p) H'
theorem sl_listD : SlR X rSlLD := by
  intro pins s σ H x v vl vu lo hi sl Q I rx hs pl pu h
  obtain ⟨a, l, rfl, ⟨vs, h1, h2⟩, q⟩ := h
  exact sl_list pins s σ H _ v vl vu lo hi sl Q I rx hs pl pu ⟨a, vs, rfl, SqL.of h1, fun p hp => q p _ hp (same_new hp _) ⟨_, upd_same, (h2.cut lo hi).mono (TX.new hp)⟩⟩
def rListD : List V → Hp → VK → Prop := fun xs H Q => ∃ a l, xs = [.ref a] ∧ LD H a l ∧ ∀ p H', H p = none → Same H H' → LD H' p l → Q (.ref p) H'
theorem call_listD : CallR X (.type "list") rListD := by
  intro pins s σ H xs us Q I r h
  obtain ⟨a, l, rfl, ⟨vs, h1, h2⟩, q⟩ := h
  exact call_list_of pins s σ H _ us Q I r ⟨a, vs, rfl, .inl (SqL.of h1), fun p hp => q p _ hp (same_new hp _) ⟨_, upd_same, h2.mono (TX.new hp)⟩⟩
def rPopD : V → List V → Hp → VK → Prop := fun x vs H Q => ∃ (l : Addr) (ds : List Da) (k : Nat) (d : Da), x = .ref l ∧ vs = [.int k] ∧ LD H l ds ∧ ds.length ≤ 1000000 ∧ ds[k]? = some d ∧ ∀ v H', (∀ b o, b ≠ l → H b = some o → H' b = some o) → LD H' l (ds.eraseIdx k) → DaAt H' v d → Q v H'
theorem mt_popD : MtM X "list.pop" rPopD := by
  intro pins s σ H x vs v us Q I rx rv h
  obtain ⟨l, ds, k, d, rfl, rfl, ⟨ws, h1, h2⟩, hz, hd, q⟩ := h
  obtain ⟨w, h3, h4⟩ := h2.get hd
  have hk : k < ws.length := (List.getElem?_eq_some_iff.mp h3).1
  have hkd : k < ds.length := (List.getElem?_eq_some_iff.mp hd).1
  refine mt_popAt pins s σ H _ _ v us Q I rx rv ⟨l, ws, (k : Int), k, w, rfl, rfl, h1, by omega, by omega, (ixN_seq (ixn_nat hk)).1, h3, ?_⟩
  exact q w _ (fun b o n e => by rw [upd_ne n]; exact e) ⟨_, upd_same, (h2.erase k).mono (TX.lst h1)⟩ (h4.mono (TX.lst h1))
end
end AB

set_option Elab.async false
set_option linter.all false
set_option maxRecDepth 100000
namespace AB
open PySem PySem.Spec PyProof.Rows L2
/-! ### rows of places -/
def natsV (ns : List Nat) : List V := ns.map fun n : Nat => .int (n : Int)
def natsD (ns : List Nat) : List Da := ns.map fun n : Nat => .int (n : Int)
theorem nats_das {H : Hp} : ∀ ns : List Nat, DasAt H (natsV ns) (natsD ns)
  | [] => .nil
  | n :: r => .cons .int (nats_das r)
theorem nats_ld {H : Hp} {p : Addr} {ns : List Nat} (h : H p = some (.lst (natsV ns))) : LD H p (natsD ns) := ⟨_, h, nats_das ns⟩
theorem nats_ints (ns : List Nat) : natsV ns = (ns.map fun n : Nat => (n : Int)).map V.int := by unfold natsV; rw [List.map_map]; rfl
theorem rgV_nats (n : Nat) : rgV 0 (n : Int) = natsV (List.range n) := by
  unfold rgV natsV
  rw [show ((n : Int) - 0).toNat = n by omega]
  exact List.map_congr_left fun i _ => by rw [Int.zero_add]
theorem natsV_len (ns : List Nat) : (natsV ns).length = ns.length := List.length_map _
theorem natsD_len (ns : List Nat) : (natsD ns).length = ns.length := List.length_map _
theorem natsD_okL (ns : List Nat) : okL (natsD ns) := fun d hd => by
  obtain ⟨n, _, rfl⟩ := List.mem_map.mp hd
  exact ⟨rfl, by simp [Da.depth]⟩
end AB

set_option Elab.async false
set_option linter.all false
set_option maxRecDepth 100000
namespace AB
open PySem PySem.Spec PyProof.Rows L2
/-! ### an own class of errors with an __init__ that calls the one above it -/
/-- C0.__init__ is ValueError's -/
structure BiK (e : Ev) (x : Str) (C0 : Addr) : Prop where
  mg : e.mg x = some (.ref C0)
  rd : PySem.W.readsIn e.K C0 (.type "type") = true
  ga : PySem.W.specialIn e.K (.ref C0) "__getattribute__" = some (some (.builtin "type.__getattribute__"))
  at_ : PySem.W.findCls e.K (.ref C0) (.type "type") "__init__" = some (.val (.builtin "ValueError.__init__"))
theorem pe_binit {e : Ev} {X : Cx} {x : Str} {C0 : Addr} {a : Expr} {es : List Expr} {ta : TA} {p1 p2 pos : Pos} {pl : Sem Bool} (h : BiK e x C0) (ha : PA X (a :: es) ta) (hX : Of e X := by exact ⟨rfl, rfl, rfl, rfl, rfl⟩) (hg : Gl X x := by rfl) (hd : (x == ("__debug__" : Str)) = false := by decide)
    (hc : eval (.Call (.Attribute (.Name x p1) "__init__" p2) (a :: es) [] pos) X.env = (do
      let ov ← eval (.Name x p1) X.env
      standAt p2.atName
      let (f, first) ← holding [ov] (getMethod ov "__init__" pl)
      callWith pos f first (backTo pos (starEach (a :: es) X.env)) (backToKw pos (keywordEach [] X.env))) := by rfl)
    (he : starEach (a :: es) X.env = (false, eval a X.env) :: starEach es X.env := by rfl) (hpl : (backTo pos (starEach es X.env)).any (·.1) = false := by rfl) :
    PE X (.Call (.Attribute (.Name x p1) "__init__" p2) (a :: es) [] pos) (tVeI e.K ta) := by
  rw [← hX.K]
  refine ⟨fun pins s σ H Q I h1 => ?_⟩
  refine PySem.W.methodCall_KW (ld_glob I hg (by rw [hX.mg]; exact h.mg) ?_ hd) hc
  refine PySem.W.method_cls (I.tok _).kIn (by rw [hX.K]; exact h.ga) (PySem.W.cls_value (I.tok _).kIn (by rw [hX.K]; exact h.rd) (by rw [hX.K]; exact h.at_) (by decide +kernel) ?_)
  show wpAny _ _ (callWith pos (Value.builtin "ValueError.__init__") [] (backTo pos (starEach (a :: es) X.env)) []) _ _ _
  refine PyProof.Rows.callWith_method1 (thn (ha.run pos pins _ σ H _ ((I.tok _).tok _) h1) fun us s1 ⟨vs, H1, I1, r1, a, C, ws, ev, hl, T, ea, q⟩ => ?_) he hpl
  subst ev
  cases r1 with
  | @cons _ u0 _ ur ra rw' =>
    obtain rfl : u0 = Value.ref a := ra
    have hlen : ur.length ≤ sizeLine := by
      rw [← Paired.length rw', sizeLine_eq]
      omega
    exact oinit_ok T I1 ea hlen fun s' J => ⟨.non, H1, J, rfl, q⟩
/-- its def, by which instances are made -/
def AtE (e : Ev) (C : Addr) (qual : Str) (ps : List Str) (st : Stmt) : Prop := ∃ f fd, FunD e.K "__init__" qual (defArgs st) (defBody st) (defScope st) [] [] f fd ∧ PySem.W.findIn e.K (.ref C) "__init__" = some (some (.ref f)) ∧ PySem.W.typeIn e.K (.ref f) = some (.type "function") ∧ Binds e.K fd ps []
def HasE (e : Ev) (k : Nat) (C : Addr) (ps : List Str) (sp : Sp) : Prop := ∃ f fd, FnOk e.P e.w e.K e.mg e.base (L2.CX e.P e.w) k f fd ps sp ∧ PySem.W.findIn e.K (.ref C) "__init__" = some (some (.ref f)) ∧ PySem.W.typeIn e.K (.ref f) = some (.type "function") ∧ Binds e.K fd ps []
theorem AtE.ok {e : Ev} {C : Addr} {qual : Str} {N ps : List Str} {st : Stmt} {k : Nat} {sp : Sp} (A : AtE e C qual ps st) (S : FnScope N ps (defScope st)) (len : ∀ vs H Q E, sp vs H Q E → vs.length = ps.length)
    (hbody : ∀ (f : Addr) (cdv : Value) (A : Around) (outer : List Env) (s : Shared) (H : Hp) (vs : List V) (Q : VK) (E : XK), Room k (A.deeper (envOfC qual (defScope st) s.heap.objs.size f cdv)) → sp vs H Q E →
      ∃ t, PSs (cxOf (L2.CX e.P e.w) e.P e.w e.K e.mg e.base N qual (defScope st) f cdv A outer s H E).nox (defBody st) t ∧ t { nx := fun _ H' => Q .non H', rt := Q } (start N vs) H) : HasE e (k + 1) C ps sp := by
  obtain ⟨f, fd, F, mt, ty, b⟩ := A
  refine ⟨f, fd, F.ok S len fun cdv A outer s H vs Q E hr h => ?_, mt, ty, b⟩
  obtain ⟨t, h1, h2⟩ := hbody f cdv A outer s H vs Q E hr h
  exact ⟨t, h1.nox, h2⟩
/-- the class -/
structure ExI (e : Ev) (x : Str) (C : Addr) : Prop where
  mg : e.mg x = some (.ref C)
  oex : OexC e.K C
theorem ps_raiseC {e : Ev} {X : Cx} {W : WX} {x : Str} {C : Addr} {ps : List Str} {sp : Sp} {j k : Nat} {a : Expr} {es : List Expr} {ta : TA} {p pos pos2 : Pos} (h : ExI e x C) (F : HasE e j C ps sp) (hr : Room k X.A) (tk : Takes X W) (ha : PA X (a :: es) ta) (hk : j + 1 ≤ k := by omega) (hc : X.calm = true := by rfl)
    (hX : Of e X := by exact ⟨rfl, rfl, rfl, rfl, rfl⟩) (hg : Gl X x := by rfl) (hdb : (x == ("__debug__" : Str)) = false := by decide)
    (he : starEach (a :: es) X.env = (false, eval a X.env) :: starEach es X.env := by rfl) (hpl : (backTo pos (starEach es X.env)).any (·.1) = false := by rfl) :
    PS X (.Raise (some (.Call (.Name x p) (a :: es) [] pos)) none pos2) (fun _ σ H => tMkO C sp [] ta σ H fun cls d H' => W cls d σ H') := by
  obtain ⟨f, fd, F1, iC, tI, b⟩ := F
  obtain ⟨h1, h2, h3, h4, h5⟩ := hX
  rw [← h1, ← h2, ← h3, ← h4, ← h5] at F1
  exact ps_raise hc tk (pmk_oex (T := by rw [h3]; exact h.oex) (iC := by rw [h3]; exact iC) (tI := by rw [h3]; exact tI) F1 (hr.mono hk) (by rw [h3]; exact b) .nil passL hg (by rw [h4]; exact h.mg) ha hdb he hpl)
/-! what the head shows of these -/
def oexB (K : PySem.W.Frag) (C : Addr) : Bool := match K.lookup C with
  | some ⟨.type "type", _, .cls cd, sl⟩ => (match cd.mro, sl.toList with
    | .ref C' :: bm, [_, _, _, _, some (.builtin n), _] => C' == C && (n == "ValueError.__new__" && (cd.hasDict && (!cd.hasDel && PySem.HandSPX.refsVE bm)))
    | _, _ => false)
  | _ => false
theorem oexB_cls {K : PySem.W.Frag} {C : Addr} (q : oexB K C = true) : ∃ nm q N bs bm sn sub ab col dd k0 k1 k2 k3 k5, K.lookup C = some (excClassObj nm q C N bs bm true sn sub ab col dd k0 k1 k2 k3 k5 "ValueError.__new__") ∧ PySem.HandSPX.refsVE bm = true := by
  unfold oexB at q
  split at q
  · rename_i dd cd sl ho
    split at q
    · rename_i C' bm k0 k1 k2 k3 n k5 hm hs
      simp only [Bool.and_eq_true, beq_iff_eq, Bool.not_eq_true'] at q
      obtain ⟨rfl, rfl, hd, hdel, hr⟩ := q
      obtain ⟨nm, bs, mro, ns, qn, hd', sn, sub, ab, col, del⟩ := cd
      dsimp only at hm hdel hd
      subst hm hdel hd
      have hsl : sl = #[k0, k1, k2, k3, some (.builtin "ValueError.__new__"), k5] := by
        obtain ⟨l⟩ := sl
        simp only at hs
        rw [hs]
      subst hsl
      exact ⟨nm, qn, ns, bs, bm, sn, sub, ab, col, dd, k0, k1, k2, k3, k5, ho, hr⟩
    · cases q
  · cases q
def oexB2 (K : PySem.W.Frag) (C : Addr) : Bool := oexB K C && (decide (PySem.W.findIn K (.ref C) "__setattr__" = some (some (.builtin "object.__setattr__"))) && (decide (PySem.W.subIn K (.ref C) (.type "BaseException") = some true) && (decide (PySem.W.typeIn K (.ref C) = some (.type "type")) && PySem.W.keepIn K (.ref C))))
theorem oexB2_ok {K : PySem.W.Frag} {C : Addr} (h : oexB2 K C = true) : OexC K C := by
  unfold oexB2 at h
  simp only [Bool.and_eq_true, decide_eq_true_eq] at h
  obtain ⟨h1, h2, h3, h4, h5⟩ := h
  exact ⟨oexB_cls h1, h2, h3, h4, h5⟩
def fcB (r : Option PySem.W.CFound) (n : String) : Bool := match r with
  | some (.val (.builtin m)) => m == n
  | _ => false
theorem fcB_ok {r : Option PySem.W.CFound} {n : String} (h : fcB r n = true) : r = some (.val (.builtin n)) := by
  unfold fcB at h
  split at h
  · rw [eq_of_beq h]
  · cases h
def biB (K : PySem.W.Frag) (C0 : Addr) : Bool := PySem.W.readsIn K C0 (.type "type") && (decide (PySem.W.specialIn K (.ref C0) "__getattribute__" = some (some (.builtin "type.__getattribute__"))) && fcB (PySem.W.findCls K (.ref C0) (.type "type") "__init__") "ValueError.__init__")
theorem biB_ok {K : PySem.W.Frag} {C0 : Addr} (h : biB K C0 = true) : PySem.W.readsIn K C0 (.type "type") = true ∧ PySem.W.specialIn K (.ref C0) "__getattribute__" = some (some (.builtin "type.__getattribute__")) ∧ PySem.W.findCls K (.ref C0) (.type "type") "__init__" = some (.val (.builtin "ValueError.__init__")) := by
  unfold biB at h
  simp only [Bool.and_eq_true, decide_eq_true_eq] at h
  exact ⟨h.1, h.2.1, fcB_ok h.2.2⟩
end AB

set_option Elab.async false
set_option linter.all false
set_option maxRecDepth 100000
namespace AB
open PySem PySem.Spec PyProof.Rows L2
/-! ### isinstance and fields of a caught error that may hold fields -/
def XdAt (d : Option Addr) (H : Hp) : Prop := d = none ∨ ∃ dd fs, d = some dd ∧ H dd = some (.xd fs)
theorem kitX_any {K : PySem.W.Frag} {D x : Addr} {ox : Obj} {od : Option Obj} (C : ExcC K D) : PySem.W.KitX K (.ref x) (.ref D) (fun h => PySem.W.InstAt h x ox D od) :=
  PySem.W.kitx_exc (by obtain ⟨cd, hc, _⟩ := PySem.W.any_some C.hd; rw [hc]; rfl) C.hg C.hk C.hs C.ha C.hn C.ht C.hm
theorem inst_any {X : Cx} {pins : List (Addr × Obj)} {σ : L2.St} {s : Shared} {H : Hp} {a D : Addr} {oe : Obj} {d : Option Addr} (I : L2.Inv X pins σ H s) (hget : s.heap.get? a = some oe) (hz : Zc (.ref D) d oe) (hf : ∃ vs, oe.data = .fields vs) (hd : XdAt d H) : ∃ od, PySem.W.InstAt s.heap a oe D od := by
  obtain ⟨vs, hv⟩ := hf
  rcases hd with rfl | ⟨dd, fs, rfl, hx⟩
  · refine ⟨none, hget, hz.1, by unfold PySem.W.notCls; rw [hv] <;> rfl, ?_⟩
    rw [hz.2]
    trivial
  · have hx : ObjOk X.prog X.w H s.heap dd (.xd fs) := I.hok dd _ hx
    obtain ⟨mA, hns, hr⟩ := hx
    obtain ⟨od, ho, hl⟩ := lookIn_ns hns
    exact ⟨some od, hget, hz.1, by unfold PySem.W.notCls; rw [hv] <;> rfl, by rw [hz.2]; exact ho⟩
def rIsGH (e : Ev) (cls : Value) (d : Option Addr) (a : Addr) : List V → Hp → VK → Prop := fun xs H Q => ∃ (D : Addr) (kt : List (V × Value × Bool)) (c : V) (cv : Value) (b : Bool), cls = .ref D ∧ XdAt d H ∧ ExcK e D kt ∧ xs = [.ref a, c] ∧ (c, cv, b) ∈ kt ∧ Q (.bl b) H
theorem call_isGH {e : Ev} {X : Cx} {a : Addr} {cls : Value} {d : Option Addr} {oe : Obj} {pn : List (Addr × Obj)} (hz : Zc cls d oe) (hf : ∃ vs, oe.data = .fields vs) (hX : Of e X := by exact ⟨rfl, rfl, rfl, rfl, rfl⟩) : CallR (X.suite a ((a, oe) :: pn)) (.builtin "isinstance") (rIsGH e cls d a) := by
  intro pins s σ H xs us Q I r h
  obtain ⟨D, kt, c, cv, b, rfl, hd, K, rfl, hm, q⟩ := h
  obtain ⟨h1, h2⟩ := K.kit _ hm
  have C := K.c
  rw [← hX.K] at C h2
  cases r with
  | cons rx rr =>
    cases rr with
    | cons rt rr =>
      cases rr
      cases rx
      have ec := h1 _ rt
      subst ec
      obtain ⟨hget, _⟩ := I.pin (a, oe) (List.mem_append.mpr (.inl List.mem_cons_self))
      obtain ⟨od, J⟩ := inst_any I hget hz hf hd
      exact PySem.W.kia_one (kitX_any C) I.kIn J h2 (fun z => nomatch z) fun tk => ⟨.bl b, H, I.kept (t' := tk) fun _ _ z => z, rfl, q⟩
def rIsTH (e : Ev) (cls : Value) (d : Option Addr) (a : Addr) : List V → Hp → VK → Prop := fun xs H Q => ∃ (D : Addr) (kt : List (V × Value × Bool)) (cs : List (V × Value × Bool)) (p : Addr), cls = .ref D ∧ XdAt d H ∧ ExcK e D kt ∧ xs = [.ref a, .ref p] ∧ H p = some (.tup (cs.map (·.1))) ∧ (∀ q ∈ cs, q ∈ kt) ∧
  Q (.bl (cs.any (·.2.2))) H
theorem call_isTH {e : Ev} {X : Cx} {a : Addr} {cls : Value} {d : Option Addr} {oe : Obj} {pn : List (Addr × Obj)} (hz : Zc cls d oe) (hf : ∃ vs, oe.data = .fields vs) (hX : Of e X := by exact ⟨rfl, rfl, rfl, rfl, rfl⟩) : CallR (X.suite a ((a, oe) :: pn)) (.builtin "isinstance") (rIsTH e cls d a) := by
  intro pins s σ H xs us Q I r h
  obtain ⟨D, kt, cs, p, rfl, hd, K, rfl, hp, hm, q⟩ := h
  have C := K.c
  rw [← hX.K] at C
  cases r with
  | cons rx rr =>
    cases rr with
    | cons rt rr =>
      cases rr
      cases rx
      cases rt
      obtain ⟨its, hv, ⟨ot, ho, hc, n, hdt⟩, _⟩ := I.tuple (SqT.of hp)
      have e1 : its = cs.map (·.2.1) := vals_det (fun q hq => (K.kit q (hm q hq)).1) hv
      have e2 : PySem.W.kitAny X.K (.ref D) its = some (cs.any (·.2.2)) := by
        rw [e1]
        exact kitAny_of fun q hq => by have := (K.kit q (hm q hq)).2; rw [← hX.K] at this; exact this
      obtain ⟨hget, _⟩ := I.pin (a, oe) (List.mem_append.mpr (.inl List.mem_cons_self))
      obtain ⟨od, J⟩ := inst_any I hget hz hf hd
      obtain ⟨tc, td, tdt, tsl⟩ := ot
      dsimp only at hc hdt
      subst hc hdt
      exact PySem.W.kia_tup (kitX_any C) I.kIn J ho e2 (fun z => nomatch z) fun tk => ⟨.bl _, H, I.kept (t' := tk) fun _ _ z => z, rfl, q⟩
/-- a field of a class of errors -/
structure XfK (e : Ev) (C : Addr) (n : Str) : Prop where
  t : XfC e.K C
  no : PySem.W.findIn e.K (.ref C) n = some none
theorem pe_xfG {e : Ev} {X : Cx} {a C : Addr} {oe : Obj} {cls : Value} {d : Option Addr} {pn : List (Addr × Obj)} {ex : Expr} {te : TE} {pos : Pos} {n : Str} (T : XfK e C n)
    (hz : Zc cls d oe) (hf : ∃ vs, oe.data = .fields vs) (he : PE (X.suite a ((a, oe) :: pn)) ex te) (hX : Of e X := by exact ⟨rfl, rfl, rfl, rfl, rfl⟩) (hb : attributeBase ex n X.env (eval ex X.env) = eval ex X.env := by rfl) :
    PE (X.suite a ((a, oe) :: pn)) (.Attribute ex n pos) (tXf a cls d C n te) :=
  pe_xf (by rw [hX.K]; exact T.t) (by rw [hX.K]; exact T.no) hz hf he hb
end AB

set_option Elab.async false
set_option linter.all false
set_option maxRecDepth 100000
set_option maxHeartbeats 4000000
namespace AB
open PySem PySem.Calls PySem.W PyProof.Rows
/-! ### sorted(xs, key=f): f a def of ours whose calls may write beside xs -/
section
variable {prog : Program} {w : World} {A : Around} {E : Value → Shared → Prop} {s : Shared} {a kS : Addr} {b : Bool} {vs : List Value} {keys : Array Value} {e e1 : Nat} {P : PySem.Fin → Shared → Prop} {kz : List Str} {J : Shared → Prop}
theorem keyJ_tail {st : SortSt} {out : List Value} (nk : s.heap.get? kS = some (seqObj "list" keys e)) (na : s.heap.get? a = some (seqObj "list" #[] e1)) (hka : kS ≠ a)
    (hsz : keys.size ≤ sizeLine) (hz : out.length ≤ sizeLine) (hfl : failedOf st = none) (ho : (if b = true then ((arrOf st).map (·.2)).reverse else (arrOf st).map (·.2)) = out.toArray)
    (h : ∀ h' tk c, (∀ x, x ≠ kS → x ≠ a → h'.get? x = s.heap.get? x) → h'.get? a = some (seqObj "list" out.toArray c) → P (.done (.ret .none)) { s with heap := h', toks := tk }) :
    wpAny (model prog w) A (ksk_tail a b e1 (.ref kS) st) P E s := by
  have s1 := Heap.SameBut.update s.heap kS (Obj.mapSeq fun _ => (#[] : Array Value))
  have na1 : (s.heap.update kS (Obj.mapSeq fun _ => (#[] : Array Value))).get? a = some (seqObj "list" #[] e1) := (s1.2 a hka.symm).trans na
  have s2 := Heap.SameBut.update (s.heap.update kS (Obj.mapSeq fun _ => (#[] : Array Value))) a (Obj.mapSeq fun _ => out.toArray)
  obtain ⟨c2, hc2⟩ : ∃ c2, ((s.heap.update kS (Obj.mapSeq fun _ => (#[] : Array Value))).update a (Obj.mapSeq fun _ => out.toArray)).get? a = some (seqObj "list" out.toArray c2) :=
    ⟨_, get?_update_seq na1 fun _ => out.toArray⟩
  have hz2 : out.toArray.size ≤ sizeLine + 1 := by
    rw [List.size_toArray]
    exact Nat.le_succ_of_le hz
  unfold ksk_tail
  try dsimp only
  rw [ho]
  refine wpAny_bind (listUpdate_at nk rfl ?_ hsz (Nat.zero_le _))
  refine wpAny_bind (wpAny_letGo ?_)
  refine wpAny_bind (seqEpoch_at na1 rfl ?_)
  refine wpAny_bind (listUpdate_at na1 rfl ?_ (Nat.zero_le _) hz2)
  rw [hfl]
  simp only [bne_self_eq_false, Bool.false_eq_true, if_false]
  exact wpAny_pure (h _ _ c2 (fun x h1 h2 => (s2.2 x h2).trans (s1.2 x h1)) hc2)
theorem keyJ_end {κ : PyProof.Rows.KeyKind} (nk : s.heap.get? kS = some (seqObj "list" keys e)) (na : s.heap.get? a = some (seqObj "list" #[] e1)) (hka : kS ≠ a)
    (S : SortsAt prog w A s κ keys.toList) (hsz : keys.size = vs.length) (hZ : vs.length ≤ sizeLine)
    (h : ∀ h' tk c, (∀ x, x ≠ kS → x ≠ a → h'.get? x = s.heap.get? x) → h'.get? a = some (seqObj "list" (sortVals κ b keys.toList vs).toArray c) → P (.done (.ret .none)) { s with heap := h', toks := tk }) :
    wpAny (model prog w) A (ksk_end a b vs.toArray e1 (.ref kS) keys) P E s := by
  obtain ⟨kd, h1, h2⟩ := S.kind
  have hkl : keys.toList.length = vs.length := by
    rw [Array.length_toList]
    exact hsz
  have hK : PyProof.Rows.KeysOf κ (keys.zip vs.toArray) := keysOf_zip S.keys
  have hol : (sortVals κ b keys.toList vs).length = vs.length := sortVals_length b hkl
  have hstart : (if b = true then (keys.zip vs.toArray).reverse else keys.zip vs.toArray).Perm (keys.zip vs.toArray) := by
    cases b with
    | false => exact Array.Perm.refl _
    | true => exact Array.perm_iff_toList_perm.mpr (by rw [if_pos rfl, Array.toList_reverse]; exact List.reverse_perm _)
  have hss : (if b = true then (keys.zip vs.toArray).reverse else keys.zip vs.toArray).size = vs.length := by rw [hstart.size_eq, Array.size_zip, hsz, List.size_toArray, Nat.min_self]
  have fin : ∀ st' : SortSt, (arrOf st').Perm (if b = true then (keys.zip vs.toArray).reverse else keys.zip vs.toArray) → SortedToK κ (arrOf st') (if b = true then (keys.zip vs.toArray).reverse else keys.zip vs.toArray).size →
      Stable κ (arrOf st') (if b = true then (keys.zip vs.toArray).reverse else keys.zip vs.toArray) → (if b = true then ((arrOf st').map (·.2)).reverse else (arrOf st').map (·.2)) = (sortVals κ b keys.toList vs).toArray := by
    intro st' hp hs ht
    have e := sort_out (rev := b) (keys := keys) (items := vs.toArray) (xs := arrOf st') (κ := κ) hK hp hs ht
    have e' := congrArg List.toArray e
    rw [Array.toArray_toList] at e'
    exact e'
  have step : ∀ t : Sem PySem.Fin, wpAny (model prog w) A t P E s → wpAny (model prog w) A (if b = true then (do let _ ← rule "list.sort.reverse"; t) else t) P E s := by
    intro t ht
    split
    · exact wpAny_bind (wpAny_rule ht)
    · exact ht
  unfold ksk_end
  try dsimp only
  refine step _ ?_
  by_cases hl2 : vs.toArray.size < 2
  · rw [if_pos hl2, if_pos hl2]
    refine wpAny_bind (wpAny_pure ?_)
    rw [StateT.run_pure]
    refine wpAny_bind (wpAny_pure ?_)
    try dsimp only
    refine keyJ_tail (st := SortSt.mk' general' (if b = true then (keys.zip vs.toArray).reverse else keys.zip vs.toArray) #[] 7 none) nk na hka (by rw [hsz]; exact hZ) (by rw [hol]; exact hZ) rfl (fin _ (Array.Perm.refl _) ?_ (Stable.refl _)) h
    intro i j hij hj
    rw [hss] at hj
    rw [List.size_toArray] at hl2
    have : i = j := by omega
    subst this
    exact KeyOrd.kle_refl _
  · rw [if_neg hl2, if_neg hl2]
    rw [List.size_toArray] at hl2
    refine wpAny_bind (h2 (by omega) _ ?_)
    refine wpAny_bind (wpAny_mono (H.wpS_sortRunsSt (κ := κ) (kd := kd) (a₀ := if b = true then (keys.zip vs.toArray).reverse else keys.zip vs.toArray)
      (st := SortSt.mk' kd (if b = true then (keys.zip vs.toArray).reverse else keys.zip vs.toArray) #[] 7 none)
      (Q := fun _ st' => failedOf st' = none ∧ (if b = true then ((arrOf st').map (·.2)).reverse else (arrOf st').map (·.2)) = (sortVals κ b keys.toList vs).toArray)
      h1 (hK.perm hstart) ⟨Array.Perm.refl _, rfl, rfl⟩ rfl (Stable.refl _) (by rw [hss]; omega) fun st' a1 a2 a3 a4 => ⟨a2, fin st' a1 a3 a4⟩) ?_ fun _ _ e => e)
    rintro ⟨⟨⟩, st'⟩ s' ⟨rfl, hf, ho⟩
    try dsimp only at ho ⊢
    exact keyJ_tail nk na hka (by rw [hsz]; exact hZ) (by rw [hol]; exact hZ) hf ho h
theorem strs_alike (l : List Str) : AllAlike (l.map PyData.str) := fun d hd d' hd' => by
  obtain ⟨x, _, rfl⟩ := List.mem_map.mp hd
  obtain ⟨y, _, rfl⟩ := List.mem_map.mp hd'
  rfl
theorem strs_sortable (l : List Str) : Sortable (l.map PyData.str) := .inr fun d hd => by
  obtain ⟨x, _, rfl⟩ := List.mem_map.mp hd
  exact ⟨fun z => (nomatch z), fun xs z => (nomatch z)⟩
/-- the keys asked one by one: J is what stands between -/
theorem keyJ_rest {f : Value} (J0 : J s) (Jup : ∀ s' h', J s' → (∀ x, x ≠ kS → h'.get? x = s'.heap.get? x) → J { s' with heap := h' }) (nk : s.heap.get? kS = some (seqObj "list" #[] 0)) (na : s.heap.get? a = some (seqObj "list" #[] e1)) (hka : kS ≠ a)
    (hlen : kz.length = vs.length) (hZ : vs.length ≤ sizeLine) (hu : A.units + 64 < cLine)
    (turn : ∀ (i : Nat) (v : Value) (k : Str), vs[i]? = some v → kz[i]? = some k → ∀ s' ok oa, J s' → s'.heap.get? kS = some ok → s'.heap.get? a = some oa →
      wpAny (model prog w) A (call f [v]) (fun u s2 => J s2 ∧ s2.heap.get? kS = some ok ∧ s2.heap.get? a = some oa ∧ ∃ t, u = .str k t) (fun _ _ => False) s')
    (h : ∀ s' h' tk out c, J s' → (∀ x, x ≠ kS → x ≠ a → h'.get? x = s'.heap.get? x) → h'.get? a = some (seqObj "list" (List.toArray out) c) → KeyedOut b (kz.map PyData.str) vs out → P (.done (.ret .none)) { s' with heap := h', toks := tk }) :
    wpAny (model prog w) A (ksk_rest a f b vs.toArray e1 (.ref kS)) P E s := by
  unfold ksk_rest
  refine wpAny_bind (wpAny_rule ?_)
  first
    | rw [List.forIn_toArray]
    | (rw [← Array.forIn_toList]; simp only [List.toList_toArray])
    | rw [← Array.forIn_toList]
  refine wpAny_bind (ksk_fold (fun i s' => ∃ kA e, J s' ∧ s'.heap.get? kS = some (seqObj "list" kA e) ∧ s'.heap.get? a = some (seqObj "list" #[] e1) ∧ EachIs (fun v k => ∃ t, v = Value.str k t) kA.toList (kz.take i)) vs 0 s
    ⟨#[], 0, J0, nk, na, by rw [List.take_zero]; exact EachIs.nil⟩ ?step ?done)
  case step =>
    rintro j x s' hx ⟨kA, e, hJ, nk', na', hk⟩
    simp only [Nat.zero_add] at hk ⊢
    have hj : j < vs.length := (List.getElem?_eq_some_iff.mp hx).1
    obtain ⟨k, hkj⟩ : ∃ k, kz[j]? = some k := ⟨_, List.getElem?_eq_getElem (by omega)⟩
    have hz : kA.size ≤ vs.length := by
      have h1 := hk.length
      rw [Array.length_toList, List.length_take] at h1
      omega
    refine wpAny_bind (wpAny_attempt (wpAny_mono (turn j x k hx hkj s' _ _ hJ nk' na') (fun v s'' he => ?_) fun _ _ hF => hF.elim))
    obtain ⟨hJ2, nk2, na2, t, rfl⟩ := he
    try dsimp only
    have s1 := Heap.SameBut.update s''.heap kS (Obj.mapSeq (·.push (Value.str k t)))
    obtain ⟨c2, hc2⟩ : ∃ c2, (s''.heap.update kS (Obj.mapSeq (·.push (Value.str k t)))).get? kS = some (seqObj "list" (kA.push (Value.str k t)) c2) := ⟨_, get?_update_seq nk2 (·.push (Value.str k t))⟩
    have ek : kz.take (j + 1) = kz.take j ++ [k] := by rw [List.take_add_one, hkj]; simp
    have ea : (kA.push (Value.str k t)).toList = kA.toList ++ [Value.str k t] := by simp
    refine wpAny_bind (listUpdate_at nk2 rfl ?_ (Nat.le_trans hz hZ) (Nat.le_trans (Nat.le_of_eq (Array.size_push ..)) (Nat.succ_le_succ (Nat.le_trans hz hZ))))
    refine wpAny_pure ⟨rfl, kA.push (Value.str k t), c2, Jup _ _ hJ2 (fun x hx => s1.2 x hx), hc2, (s1.2 a hka.symm).trans na2, ?_⟩
    rw [ea, ek]
    exact each_snoc (R := fun (v : Value) (k : Str) => ∃ t, v = Value.str k t) ⟨t, rfl⟩ hk
  case done =>
    rintro s' ⟨kA, e, hJ, nk', na', hk⟩
    have e3 : kz.take (0 + vs.length) = kz := List.take_of_length_le (by omega)
    rw [e3] at hk
    have hk' : EachIs (fun v d => ∃ as, Reads s'.heap v d as) kA.toList (kz.map PyData.str) := by
      clear e3 nk' na' hlen turn h
      generalize kA.toList = l at hk
      induction hk with
      | nil => exact .nil
      | cons h1 _ ih =>
        obtain ⟨t, rfl⟩ := h1
        exact .cons ⟨[], .str _ t⟩ ih
    have hsz : kA.size = vs.length := by
      have h1 := hk.length
      rw [Array.length_toList] at h1
      omega
    try dsimp only
    refine wpAny_bind (listItems_at nk' rfl ?_)
    have hu' : ∀ d, d ∈ kz.map PyData.str → A.units + d.depth < cLine := fun d hd => by
      obtain ⟨x, _, rfl⟩ := List.mem_map.mp hd
      have : (PyData.str x).depth ≤ 64 := by simp only [PyData.depth]; omega
      omega
    exact keyJ_end (κ := dataKind s'.heap (kz.map PyData.str)) nk' na' hka (SortsAt.data (s := s') hk' (strs_alike kz) (strs_sortable kz) hu') hsz hZ fun h3 tk3 c k3 n3 => h s' h3 tk3 _ c hJ k3 n3 ⟨s'.heap, kA.toList, strs_alike kz, rfl, hk'⟩
theorem keyJ_tree {f : Value} {n : Nat} (ho : s.heap.get? a = some (seqObj "list" vs.toArray n)) (hk0 : kS = s.heap.objs.size + 1) (J0 : ∀ h', (∀ x o, x ≠ a → s.heap.get? x = some o → h'.get? x = some o) → J { s with heap := h' }) (Jup : ∀ s' h', J s' → (∀ x, x ≠ kS → h'.get? x = s'.heap.get? x) → J { s' with heap := h' })
    (hlen : kz.length = vs.length) (hZ : vs.length ≤ sizeLine) (hu : A.units + 64 < cLine)
    (turn : ∀ (i : Nat) (v : Value) (k : Str), vs[i]? = some v → kz[i]? = some k → ∀ s' ok oa, J s' → s'.heap.get? kS = some ok → s'.heap.get? a = some oa →
      wpAny (model prog w) A (call f [v]) (fun u s2 => J s2 ∧ s2.heap.get? kS = some ok ∧ s2.heap.get? a = some oa ∧ ∃ t, u = .str k t) (fun _ _ => False) s')
    (h : ∀ s' h' tk out c, J s' → (∀ x, x ≠ kS → x ≠ a → h'.get? x = s'.heap.get? x) → h'.get? a = some (seqObj "list" (List.toArray out) c) → KeyedOut b (kz.map PyData.str) vs out → P (.done (.ret .none)) { s' with heap := h', toks := tk }) :
    wpAny (model prog w) A (ksk_tree a f b) P E s := by
  have ha : a < s.heap.objs.size := Heap.lt_size ho
  obtain ⟨e1, ho1⟩ : ∃ e1, (s.heap.update a (Obj.mapSeq fun _ => (#[] : Array Value))).get? a = some (seqObj "list" #[] e1) := ⟨_, get?_update_seq ho fun _ => #[]⟩
  have hkS : ((s.heap.update a (Obj.mapSeq fun _ => (#[] : Array Value))).push (seqObj "tuple" vs.toArray 0)).objs.size = s.heap.objs.size + 1 := by rw [size_push', Heap.size_update]
  unfold ksk_tree
  refine wpAny_bind (listItems_at ho rfl ?_)
  refine wpAny_bind (listUpdate_at ho rfl ?_ (by rw [List.size_toArray]; exact hZ) (Nat.zero_le _))
  refine wpAny_bind (seqEpoch_at ho1 rfl ?_)
  refine wpAny_bind (wpAny_newTuple ?_ (by show vs.length ≤ _; exact hZ))
  refine wpAny_bind (wpAny_newList ?_ (Nat.zero_le _))
  refine wpAny_holding ?_
  subst hk0
  rw [hkS]
  refine keyJ_rest (J := J) (kz := kz) (s := { s with heap := ((s.heap.update a (Obj.mapSeq fun _ => (#[] : Array Value))).push (seqObj "tuple" vs.toArray 0)).push (seqObj "list" #[] 0) })
    (J0 _ fun x o hx q => sortingHeap_old hx q) Jup (by rw [← hkS]; exact Heap.get?_push_size _ rfl) (Heap.get?_push_of_some _ (Heap.get?_push_of_some _ ho1)) (Nat.ne_of_gt (Nat.lt_succ_of_lt ha)) hlen hZ hu turn h
end
end AB
namespace AB
open PySem PySem.Spec PyProof.Rows L2
theorem un_else {fs : List Addr} {H H' : Hp} {h h' h2 : Heap} {c : Addr} (u : Un fs [] H H' h h') (hc : h.objs.size ≤ c) (k : ∀ x, x ≠ c → h2.get? x = h'.get? x) : Un fs [] H H' h h2 := by
  have n : ∀ b o, h.get? b = some o → h2.get? b = h'.get? b := fun b o e => k b (Nat.ne_of_lt (Nat.lt_of_lt_of_le (Heap.lt_size e) hc))
  exact ⟨fun b o e h1 h2 h3 => by rw [n b o e]; exact u.keep b o e h1 h2 h3, fun b o e h1 h2 h3 => by rw [n b o e]; exact u.slot b o e h1 h2 h3, u.free, fun b o e h1 => by rw [n b o e]; exact u.there b o e h1, u.tups, u.frzs, u.tbls⟩
theorem hok_else {P : Program} {w : World} {H : Hp} {h h2 : Heap} {c : Addr} (x : HOk P w H h) (hc : H c = none) (k : ∀ x, x ≠ c → h2.get? x = h.get? x) : HOk P w H h2 := fun a o e =>
  (x a o e).stay (fun b u hb hu => by
    have : b ≠ c := fun z => by
      subst z
      rcases hb with rfl | hb
      · rw [hc] at e; cases e
      · rw [hc] at hb; cases hb
    rw [k b this]; exact hu) (fun _ h => h) (fun _ _ h => h)
/-- the order of texts, as the sort takes it -/
def byText (l : List (V × Str)) : List (V × Str) := l.mergeSort (PySem.W.dataLe false fun p : V × Str => PyData.str p.2)
/-- sorted(l, key=x): x a def of the module whose calls give texts -/
def rSortedBy (e : Ev) (x : Str) (sp : Sp) : List V → List V → Hp → VK → Prop := fun xs zs H Q => ∃ (l f : Addr) (bs : List (V × Str)), xs = [.ref l] ∧ zs = [.ref f] ∧ e.mg x = some (.ref f) ∧ SqL e.K H l (bs.map (·.1)) ∧
  (∀ p ∈ bs, ∀ H', Same H H' → sp [p.1] H' (fun v H2 => v = .str p.2 ∧ Same H' H2) E0) ∧ ∀ r H', H r = none → Same H H' → H' r = some (.lst ((byText bs).map (·.1))) → Q (.ref r) H'
theorem vals_each : ∀ {bs : List (V × Str)} {us : List Value}, Vals (bs.map (·.1)) us → PySem.W.EachIs (fun v (p : V × Str) => RelV p.1 v) us bs
  | [], _, .nil => .nil
  | _ :: _, _, .cons h t => .cons h (vals_each t)
theorem each_vals : ∀ {bs : List (V × Str)} {us : List Value}, PySem.W.EachIs (fun v (p : V × Str) => RelV p.1 v) us bs → Vals (bs.map (·.1)) us
  | [], _, .nil => .nil
  | _ :: _, _, .cons h t => .cons h (each_vals t)
theorem cr_sortedBy {e : Ev} {X : Cx} {x : Str} {ps : List Str} {sp : Sp} {j k : Nat} (F0 : Has e j x ps sp) (hr : Room k X.A) (hk : j + 2 ≤ k := by omega) (hX : Of e X := by exact ⟨rfl, rfl, rfl, rfl, rfl⟩) : CallRK X (.builtin "sorted") [Str.ofString "key"] (rSortedBy e x sp) := by
  intro pins s σ H vs zs us ws Q I r rz h
  obtain ⟨l, f, bs, rfl, rfl, hmg, hl, hcall, q⟩ := h
  obtain rfl := Vals.ref1 r
  obtain ⟨w1, rfl, e1⟩ := vals1 rz
  obtain rfl : w1 = Value.ref f := e1
  obtain ⟨f', fd, F, hm, kp, hb, _⟩ := F0
  obtain rfl : f' = f := by rw [hmg] at hm; injection hm with hm; injection hm with hm; exact hm.symm
  obtain ⟨h1, h2, h3, h4, h5⟩ := hX
  rw [← h1, ← h2, ← h3, ← h4, ← h5] at F
  rw [← h3] at hb hl
  obtain ⟨its, rv, hli, hz⟩ := I.list hl
  have hz' : its.length ≤ sizeLine := by rw [← rv.length]; exact hz
  have hlb : its.length = bs.length := by rw [← rv.length, List.length_map]
  have r2 : Room j X.A.in1.in1 := ((hr.mono hk).in1).in1
  have un2 : X.A.in1.in1.units + 64 < cLine := r2.units
  have sz2 : (PySem.W.copyHeap s.heap its).objs.size = s.heap.objs.size + 2 := by
    unfold PySem.W.copyHeap
    rw [size_push', Heap.size_update, size_push']
  have cpk : ∀ b o, s.heap.get? b = some o → (PySem.W.copyHeap s.heap its).get? b = some o := fun b o e => PySem.W.copyHeap_old e
  let J : Shared → Prop := fun s' => ∃ H', s'.os = s.os ∧ AllBare s'.gens ∧ Un (frs X.stack) [] H H' s.heap s'.heap ∧ HOk X.prog X.w H' s'.heap ∧ Same H H' ∧ H' (s.heap.objs.size + 1) = none ∧ H' (s.heap.objs.size + 3) = none
  have nf : ∀ a, s.heap.objs.size ≤ a → a ∉ frs X.stack := fun a ha hb => by
    rcases List.mem_cons.mp (I.stkSub a hb) with z | z
    · have := I.lt; rw [← z] at this; exact absurd this (Nat.not_lt.mpr ha)
    · exact I.nofs ha z
  refine PySem.W.sorted_of_sort hli.isList hz' (PyProof.Rows.ksk_s1 _ _) (fun _ => PyProof.Rows.ksk_l1 _ _) fun E' => ?_
  show wpAny _ _ (Builtin.«list.sort» ⟨[.ref (s.heap.objs.size + 1)], [(Str.ofString "key", .ref f')]⟩) _ _ _
  rw [PyProof.Rows.ksk_t1]
  refine keyJ_tree (J := J) (kz := bs.map (·.2)) (kS := s.heap.objs.size + 3) (s := { s with heap := PySem.W.copyHeap s.heap its }) (PySem.W.copyHeap_at s.heap its) (by show _ = _ + 1; rw [sz2]) (fun h' hk' => ?_) (fun s' h' hJ hk' => ?_) (by rw [List.length_map, hlb]) hz' un2 (fun i v k hv hk' s' ok oa hJ nk na => ?_) fun s' h' tk out c hJ keep hat ko => ⟨rfl, ?_⟩
  · have kp2 : ∀ b o, s.heap.get? b = some o → h'.get? b = some o := fun b o e => hk' b o (Nat.ne_of_lt (Nat.lt_of_lt_of_le (Heap.lt_size e) (Nat.le_add_right _ _))) (cpk b o e)
    exact ⟨H, rfl, I.bare, Un.kept kp2, I.hok.kept kp2, Same.refl _, I.hok.fresh (Nat.le_add_right _ _), I.hok.fresh (Nat.le_add_right _ _)⟩
  · obtain ⟨H', o1, o2, o3, o4, o5, o6, o7⟩ := hJ
    exact ⟨H', o1, o2, un_else o3 (Nat.le_add_right _ _) hk', hok_else o4 o7 hk', o5, o6, o7⟩
  · obtain ⟨H', o1, o2, o3, o4, o5, o6, o7⟩ := hJ
    have I' : Inv X pins σ H' s' := I.call' (ch := []) o1 o3 o4 o2 (fun b z => absurd z (by simp))
    have hv' : i < its.length := (List.getElem?_eq_some_iff.mp hv).1
    obtain ⟨p, hp⟩ : ∃ p, bs[i]? = some p := ⟨_, List.getElem?_eq_getElem (by omega)⟩
    have ek : p.2 = k := by
      rw [List.getElem?_map, hp] at hk'
      simpa using hk'
    have er : RelV p.1 v := by
      obtain ⟨u, hu1, hu2⟩ := rv.get (i := i) (x := p.1) (by rw [List.getElem?_map, hp]; rfl)
      rw [hv] at hu1
      injection hu1 with hu1
      rw [hu1]; exact hu2
    have hsp := hcall p (List.mem_of_getElem? hp) H' o5
    have rr : Vals ([p.1] ++ []) ([v] ++ []) := .cons er .nil
    have hl1 : ([v] ++ ([] : List Value)).length = ps.length := by
      have := F.len _ _ _ _ hsp
      simpa using this
    refine wpAny_call (codeAny_mono (F.run X.A.in1.in1 X.stack s' H' ⟨[v], []⟩ ([v] ++ []) ([p.1] ++ []) _ E0 r2 I'.env0.in1.in1 (hb s' [v] I'.kIn hl1) rr hsp) fun r s2 hq => ?_)
    cases r with
    | error e2 =>
      obtain ⟨_, _, _, _, _, _, _, _, _, _, _, _, hE⟩ := hq
      exact hE
    | ok fl =>
      cases fl with
      | next => exact False.elim hq
      | brk => exact False.elim hq
      | cont => exact False.elim hq
      | ret u =>
        obtain ⟨v2, H2, c1, c2, c3, c4, c5, rfl, c7⟩ := hq
        obtain ⟨t, rfl⟩ : ∃ t, u = Value.str p.2 t := c5
        refine ⟨⟨H2, c1.trans o1, c2, o3.trans c3, c4, o5.trans c7, c3.free _ _ na o6 (by simp), c3.free _ _ nk o7 (by simp)⟩, c3.keep _ _ nk o7 (nf _ (Nat.le_add_right _ _)) (by simp), c3.keep _ _ na o6 (nf _ (Nat.le_add_right _ _)) (by simp), t, by rw [← ek]⟩
  · obtain ⟨H', o1, o2, o3, o4, o5, o6, o7⟩ := hJ
    have ke : PySem.W.KeyedOut false (bs.map fun p : V × Str => PyData.str p.2) its out := by
      have : (bs.map (·.2)).map PyData.str = bs.map fun p : V × Str => PyData.str p.2 := by rw [List.map_map]; rfl
      rw [← this]; exact ko
    have eo := PySem.W.keyedOut_each (R := fun v (p : V × Str) => RelV p.1 v) (fun p : V × Str => PyData.str p.2) ke (vals_each rv)
    have ro : Vals ((byText bs).map (·.1)) out := each_vals eo
    obtain ⟨h1', hm1⟩ : ∃ h1' : Heap, True := ⟨h', trivial⟩
    have n3 : s.heap.objs.size ≤ s.heap.objs.size + 3 := by omega
    have n1 : s.heap.objs.size ≤ s.heap.objs.size + 1 := by omega
    have keepU : Un (frs X.stack) [] H H' s.heap h' := by
      have n : ∀ b o, s.heap.get? b = some o → h'.get? b = s'.heap.get? b := fun b o e => keep b (Nat.ne_of_lt (Nat.lt_of_lt_of_le (Heap.lt_size e) (Nat.le_add_right _ _))) (Nat.ne_of_lt (Nat.lt_of_lt_of_le (Heap.lt_size e) (Nat.le_add_right _ _)))
      exact ⟨fun b o e h1 h2 h3 => by rw [n b o e]; exact o3.keep b o e h1 h2 h3, fun b o e h1 h2 h3 => by rw [n b o e]; exact o3.slot b o e h1 h2 h3, o3.free, fun b o e h1 => by rw [n b o e]; exact o3.there b o e h1, o3.tups, o3.frzs, o3.tbls⟩
    have keepH : HOk X.prog X.w H' h' := fun a o e => (o4 a o e).stay (fun b u hb hu => by
      have hn : H' b ≠ none := fun z => by
        rcases hb with rfl | hb
        · rw [z] at e; cases e
        · rw [z] at hb; cases hb
      rw [keep b (fun z => hn (by rw [z]; exact o7)) (fun z => hn (by rw [z]; exact o6))]; exact hu) (fun _ h => h) (fun _ _ h => h)
    have hlen : ((byText bs).map (·.1)).length ≤ sizeLine := by
      unfold byText
      rw [List.length_map, List.length_mergeSort, ← hlb]
      exact hz'
    have I2 : Inv X pins σ (upd H' (s.heap.objs.size + 1) (.lst ((byText bs).map (·.1)))) { s' with heap := h', toks := tk } :=
      I.drained (S := s.heap.objs.size + 1) (acc := out.toArray) (c := c) n1 hlen hat (by simpa using ro) ExOk.nil o1 o2 keepU keepH o6
    exact ⟨.ref _, _, I2, rfl, q _ _ (I.hok.fresh n1) (fun b o e => by rw [upd_ne (ne_of_none e (I.hok.fresh n1))]; exact o5 _ _ e) upd_same⟩
/-- a def as a value -/
theorem pe_fn {e : Ev} {X : Cx} {x : Str} {ps : List Str} {sp : Sp} {j : Nat} {pos : Pos} (h : Has e j x ps sp) (hX : Of e X := by exact ⟨rfl, rfl, rfl, rfl, rfl⟩) (hg : Gl X x := by rfl) (hd : (x == ("__debug__" : Str)) = false := by decide) : PE X (.Name x pos) (fun σ H Q => ∀ f, e.mg x = some (.ref f) → Q (.ref f) H) := by
  obtain ⟨f, fd, F, hm, _⟩ := h
  have : PE X (.Name x pos) (tC (.ref f)) := pe_glob hg (by rw [hX.mg]; exact hm) rfl hd
  exact ⟨fun pins s σ H Q I q => this.run pins s σ H Q I (q f hm)⟩
section
variable {e : Ev} {X : Cx} {x : Str} {p pos : Pos} {a : Expr} {es : List Expr} {kws : List Keyword} {t tk : TA} {id : String} {ks : List Str} {r : List V → List V → Hp → VK → Prop}
theorem pe_bK (hc : CallRK X (.builtin id) ks r) (m : e.mg x = none) (ha : PA X (a :: es) t) (hk : PK X kws tk) (hX : Of e X := by exact ⟨rfl, rfl, rfl, rfl, rfl⟩) (hv : bootBuiltins x = some (.builtin id) := by decide +kernel) (hg : Gl X x := by rfl) (hn : x ≠ "__name__" := by decide) (hdb : (x == ("__debug__" : Str)) = false := by decide)
    (he : backTo pos (starEach (a :: es) X.env) = (false, eval a X.env) :: backTo pos (starEach es X.env) := by rfl) (hpl : (backTo pos (starEach (a :: es) X.env)).any (·.1) = false := by rfl)
    (hall : (backToKw pos (keywordEach kws X.env)).all (·.1.isSome) = true := by rfl) (hnone : (backToKw pos (keywordEach kws X.env)).any (·.1.isNone) = false := by rfl) (hks : (backToKw pos (keywordEach kws X.env)).filterMap (·.1) = ks := by rfl) :
    PE X (.Call (.Name x p) (a :: es) kws pos) (tCKw r t tk) := pe_callBK hc hg (hX.no m) hv ha hk hn hdb he hpl hall hnone hks
end
end AB

set_option Elab.async false
set_option linter.all false
set_option maxRecDepth 100000
set_option maxHeartbeats 4000000
namespace AB
open PySem PySem.Spec PyProof.Rows L2
/-! ### all but the tables of code objects stay -/
theorem xt_same {H H' : Hp} (s : Same H H') : LamX.ExtN H H' := fun b o e _ => s b o e
theorem xt_tx {H H' : Hp} (x : LamX.ExtN H H') : TX H H' := fun a o i e => x a o e fun ps z => by subst z; exact i
theorem LD.xt {H H' : Hp} {a : Addr} {ds : List Da} (x : LamX.ExtN H H') (h : LD H a ds) : LD H' a ds := let ⟨vs, h1, h2⟩ := h; ⟨vs, x _ _ h1 (fun ps z => by cases z), h2.mono (xt_tx x)⟩
/-- tables and code objects stay where these stay -/
theorem tabs_move {T : List (Addr × Str)} {H H' : Hp} (t : LamX.Tabs T H) (k1 : ∀ b ps, H b = some (.tbl ps) → H' b = some (.tbl ps)) (k2 : ∀ b c q, H b = some (LamX.CodeO c q) → H' b = some (LamX.CodeO c q)) : LamX.Tabs T H' := fun p hp => by
  obtain ⟨ps, h1, h2, h3⟩ := t p hp
  refine ⟨ps, k1 _ _ h1, h2, fun pos cv hc => ?_⟩
  obtain ⟨c, e1, e2⟩ := h3 pos cv hc
  exact ⟨c, e1, k2 _ _ _ e2⟩
theorem tabs_same {T : List (Addr × Str)} {H H' : Hp} (t : LamX.Tabs T H) (s : Same H H') : LamX.Tabs T H' := t.ext s
theorem tabs_but {T : List (Addr × Str)} {H H' : Hp} {d : Addr} {xs : List V} (t : LamX.Tabs T H) (b : ∀ b o, b ≠ d → H b = some o → H' b = some o) (hd : H d = some (.lst xs)) : LamX.Tabs T H' :=
  tabs_move t (fun c ps h => b _ _ (ne_of h hd (fun z => by cases z)) h) (fun c e q h => b _ _ (ne_of h hd (fun z => by unfold LamX.CodeO at z; cases z)) h)
theorem tabs_butN {T : List (Addr × Str)} {H H' : Hp} {d : Addr} (t : LamX.Tabs T H) (b : ∀ b o, b ≠ d → H b = some o → H' b = some o) (hd : H d = none) : LamX.Tabs T H' :=
  tabs_move t (fun c ps h => b _ _ (ne_of_none h hd) h) (fun c e q h => b _ _ (ne_of_none h hd) h)

/-! ### a lambda's function, tracked -/
structure LF where
  qual : Str
  params : Arguments
  body : Expr
  scope : Scope
  cl : List (Str × Addr)
  c : Addr
def LamO (f : Addr) (F : LF) : HO := .ext fun h => ∃ pm ctv : Value, h.get? f = some (PySem.W.kla_obj "<lambda>" F.qual F.params F.body F.scope F.cl pm F.c ctv)
theorem lamO_ne {f : Addr} {F : LF} (ps : Array Value) : LamO f F ≠ .tbl ps := fun z => by
  unfold LamO at z
  cases z
/-- what the making of a lambda gives -/
def tLamV (T : List (Addr × Str)) (q : Str) (mk : Addr → LF) : TE := fun _ H Q => LamX.Tabs T H ∧ ∀ (f c' : Addr) (H1 : Hp), LamX.ExtN H H1 → (∀ b, H1 b = none → H b = none) → LamX.Tabs T H1 → H f = none →
  H1 f = some (LamO f (mk c')) → H1 c' = some (LamX.CodeO c' q) → Q (.ref f) H1
section
variable {X : Cx} {pins : List (Addr × Obj)} {σ : L2.St} {H : Hp} {s : Shared}
theorem inv_lam {F : LF} {t' : Nat} {pm ctv : Value} (I : Inv X pins σ H s) :
    Inv X pins σ (upd H s.heap.objs.size (LamO s.heap.objs.size F)) { s with heap := s.heap.push (PySem.W.kla_obj "<lambda>" F.qual F.params F.body F.scope F.cl pm F.c ctv), toks := t' } := by
  have e : (s.heap.push (PySem.W.kla_obj "<lambda>" F.qual F.params F.body F.scope F.cl pm F.c ctv)).get? s.heap.objs.size = some (PySem.W.kla_obj "<lambda>" F.qual F.params F.body F.scope F.cl pm F.c ctv) := Heap.get?_push_size _ rfl
  exact I.laid (a := s.heap.objs.size) (fun b u q => Heap.get?_push_of_some _ q) (Nat.le_refl _) ⟨⟨pm, ctv, e⟩, ⟨_, e⟩, fun h1 h2 ⟨p, t, z⟩ st => ⟨p, t, st _ z⟩⟩
/-- lambda ps: body, as a value -/
theorem pe_lamV {T : List (Addr × Str)} {c P : Addr} {params : Arguments} {body : Expr} {scope : Scope} {pos : Pos} (TB : LamX.TabB X.base X.mg c P) (hcode : X.env.code = .ref c) (hm : (P, X.env.qual ++ "<lambda>") ∈ T) (hu : ∀ p ∈ T, p.1 = P → p.2 = X.env.qual ++ "<lambda>")
    (hdef : defaultsOf params X.env = ([], [])) (hfree : ∀ y ∈ scope.names, y.2 = .free → ∃ c, X.env.cells.lookup y.1 = some c) :
    PE X (.Lambda params body scope pos) (tLamV T (X.env.qual ++ "<lambda>") fun c' => ⟨X.env.qual ++ "<lambda>", params, body, scope, cloFrom X.env.cells scope.names [], c'⟩) := by
  refine ⟨fun pins s σ H Q I hw => ?_⟩
  obtain ⟨hT, q⟩ := hw
  obtain ⟨ps, hP, ht, ha⟩ := hT _ hm
  refine PySem.W.kla_eval hdef ?_
  have hP' : s.heap.get? P = some { cls := .none, data := .fields ps } := I.hok P _ hP
  cases hc : codeAmong pos ps.toList with
  | none =>
    refine PySem.W.kla_makeFunction (mg := X.mg) (c := c) (P := P) (ps := ps) (closure_ok hfree) I.ok.glob (I.mod.glob.keeps I.bk) hcode (TB.code.keeps I.bk) hP' ht hc TB.gP (TB.bm.keeps I.bk) fun c' ctv h' tk hx hge hlt hrec htb => ?_
    obtain ⟨c2, oc, vs, t, e2, hoc, hd, hv⟩ := hrec
    obtain rfl : c2 = c' := by cases e2; rfl
    have nC : H c2 = none := I.hok.fresh hge
    have I1 := LamX.inv_table (t' := tk) (more := #[rawInt pos.line, rawInt pos.col, .ref c2]) I hP (fun b o hb e => hx b o hb e) htb hge ⟨oc, vs, t, hoc, hd, hv⟩
    have hE : LamX.ExtN H (upd (upd H P (.tbl (ps ++ #[rawInt pos.line, rawInt pos.col, .ref c2]))) c2 (LamX.CodeO c2 (X.env.qual ++ "<lambda>"))) := fun b o e n => by
      have n1 : b ≠ P := fun z => n ps (by rw [z, hP] at e; injection e with e; exact e.symm)
      rw [upd_ne (ne_of_none e nC), upd_ne n1]
      exact e
    have T1 : LamX.Tabs T (upd (upd H P (.tbl (ps ++ #[rawInt pos.line, rawInt pos.col, .ref c2]))) c2 (LamX.CodeO c2 (X.env.qual ++ "<lambda>"))) := fun p hp => by
      by_cases hb : p.1 = P
      · rw [hu p hp hb, hb]
        have eL : (ps ++ #[rawInt pos.line, rawInt pos.col, .ref c2]).toList = ps.toList ++ [rawInt pos.line, rawInt pos.col, .ref c2] := by simp
        refine ⟨_, by rw [upd_ne (ne_of_none hP nC), upd_same], by rw [eL]; exact PySem.TriplesOk_snoc _ _ _ _ ht, fun p' cv hcv => ?_⟩
        rw [eL] at hcv
        rcases LamX.among_app _ ht hcv with z | z
        · obtain ⟨c0, e1, e2⟩ := ha p' cv z
          exact ⟨c0, e1, hE _ _ e2 LamX.codeO_ne⟩
        · exact ⟨c2, z, upd_same⟩
      · obtain ⟨ps', a1, a2, a3⟩ := hT p hp
        refine ⟨ps', by rw [upd_ne (ne_of_none a1 nC), upd_ne hb]; exact a1, a2, fun p' cv hcv => ?_⟩
        obtain ⟨c0, e1, e2⟩ := a3 p' cv hcv
        exact ⟨c0, e1, hE _ _ e2 LamX.codeO_ne⟩
    have nF := I1.hok.fresh (Nat.le_refl _)
    have I2 := inv_lam (F := ⟨X.env.qual ++ "<lambda>", params, body, scope, cloFrom X.env.cells scope.names [], c2⟩) (t' := tk) (pm := (X.mg "__name__").getD .none) (ctv := ctv) I1
    refine ⟨.ref h'.objs.size, _, I2, rfl, q h'.objs.size c2 _ (fun b o e n => ?_) (fun b e => upd_none (upd_none (upd_none e))) (T1.ext fun b o e => ?_) (I.hok.fresh (Nat.le_trans hge (Nat.le_of_lt hlt))) upd_same ?_⟩
    · exact (upd_ne (ne_of_none (hE b o e n) nF)).trans (hE b o e n)
    · exact (upd_ne (ne_of_none e nF)).trans e
    · exact (upd_ne (Nat.ne_of_lt hlt)).trans upd_same
  | some cv =>
    obtain ⟨c', rfl, hco⟩ := ha pos cv hc
    refine PySem.W.kla_makeFunctionHit (mg := X.mg) (c := c) (P := P) (ps := ps) (closure_ok hfree) I.ok.glob (I.mod.glob.keeps I.bk) hcode (TB.code.keeps I.bk) hP' ht hc (TB.bm.keeps I.bk) fun ctv h' tk hx hsz => ?_
    have I1 : Inv X pins σ H { s with heap := h', toks := tk } := I.kept hx
    have nF : H h'.objs.size = none := I1.hok.fresh (Nat.le_refl _)
    have I2 := inv_lam (F := ⟨X.env.qual ++ "<lambda>", params, body, scope, cloFrom X.env.cells scope.names [], c'⟩) (t' := tk) (pm := (X.mg "__name__").getD .none) (ctv := ctv) I1
    refine ⟨.ref h'.objs.size, _, I2, rfl, q h'.objs.size c' _ (fun b o e n => ?_) (fun b e => upd_none e) (hT.ext fun b o e => ?_) nF upd_same ?_⟩
    · exact (upd_ne (ne_of_none e nF)).trans e
    · exact (upd_ne (ne_of_none e nF)).trans e
    · exact (upd_ne (ne_of_none hco nF)).trans hco
end
/-! ### a lambda called -/
theorem lamO_at {P : Program} {w : World} {H : Hp} {h : Heap} {f : Addr} {F : LF} (hok : HOk P w H h) (e : H f = some (LamO f F)) : ∃ pm ctv : Value, h.get? f = some (PySem.W.kla_obj "<lambda>" F.qual F.params F.body F.scope F.cl pm F.c ctv) := (hok f _ e).1
theorem lamC_at {P : Program} {w : World} {H : Hp} {h : Heap} {c : Addr} {q : Str} (hok : HOk P w H h) (e : H c = some (LamX.CodeO c q)) : h.CodeRec (.ref c) q := by
  obtain ⟨⟨oc, vs, t, h1, h2, h3⟩, _, _⟩ := hok c _ e
  exact ⟨c, oc, vs, t, rfl, h1, h2, h3⟩
/-- a lambda without captured names, called -/
theorem run_lamV {CX : CXT} {P : Program} {w : World} {K : PySem.W.Frag} {mg : Str → Option Value} {base : Heap} {N ps : List Str} {F : LF} {f : Addr} {A : Around} {outer : List Env} {s : Shared} {H : Hp} {us : List Value} {vs : List V} {Q : VK} {E : XK} {k : Nat} {tb : TE}
    (hF : H f = some (LamO f F)) (hc : H F.c = some (LamX.CodeO F.c F.qual)) (hcl : F.cl = []) (S : FnScope N ps F.scope) (hb : ∀ (pm ctv : Value) (us : List Value), us.length = ps.length → bindArgs (PySem.W.kla_fn "<lambda>" F.qual F.params F.body F.scope F.cl pm (.ref F.c) ctv) ⟨us, []⟩ = pure (ps.zip us))
    (hr : Room (k + 1) A) (e0 : Env0 P w K mg base A outer s H) (r : Vals vs us) (hl : vs.length = ps.length)
    (body : Room k (A.deeper (envOfC F.qual F.scope s.heap.objs.size f (.ref F.c))) → PE (cxOf CX P w K mg base N F.qual F.scope f (.ref F.c) A outer s H E) F.body tb) (q : tb (L2.start N vs) H Q) :
    codeAny (model P w) A (.call (.ref f) ⟨us, []⟩) (CR CX outer P w H s Q E) s := by
  obtain ⟨pm, ctv, hf⟩ := lamO_at e0.hok hF
  have lim : s.heap.NoLimit := e0.mod.nolimit.keeps fun b o e => (e0.bs b o e).1
  have hkind : ∀ y ∈ ps.zip us, F.scope.names.lookup y.1 = some .local ∨ (F.scope.names.lookup y.1 = some .cell ∧ ((cellsFrom (s.heap.objs.size + 1) F.scope.names []).lookup y.1).isSome = true) := fun ⟨n, v⟩ hy => by
    rcases S.par n (List.of_mem_zip hy).1 with z | z
    · exact .inl z
    · exact .inr ⟨z, PySem.W.cellsFrom_some _ _ _ (.inl z)⟩
  refine PySem.W.kla_callFunE hr.depth hf rfl S.co S.gen rfl (lamC_at e0.hok hc) ?_
  rw [hb pm ctv us (by rw [← hl]; exact (Vals.length r).symm)]
  refine wpAny_pure ?_
  rw [hcl]
  refine wpAny_newFunctionEnv_cells S.kind hkind fun env he s1 x => ?_
  subst he
  refine ⟨lim.keeps x.toInCall.keep, ?_⟩
  have I : Inv (cxOf CX P w K mg base N F.qual F.scope f (.ref F.c) A outer s H E) [] (L2.start N vs) H s1 := inv_start S hr.hd e0 hl r x
  refine PySem.W.kla_codeExpr (wpAny_mono ((body (hr.deeper _)).run [] s1 (L2.start N vs) H Q I q) (fun v s' hs => ?_) fun e s' hs => hs)
  obtain ⟨w', H', J, rv, q'⟩ := hs
  exact ⟨w', H', J.os, J.bare, J.base, J.hok, rv, q'⟩
/-! ### sorted by a key that gives texts, whatever is called -/
theorem sortedJ {X : Cx} {pins : List (Addr × Obj)} {σ : L2.St} {H : Hp} {s : Shared} {f' l : Addr} {bs : List (V × Str)} {Q : VK} {k : Nat} (I : Inv X pins σ H s) (hr : Room k X.A) (hk : 2 ≤ k) (hl : SqL X.K H l (bs.map (·.1)))
    (run : ∀ p ∈ bs, ∀ (s' : Shared) (H' : Hp) (v : Value), Inv X pins σ H' s' → Same H H' → RelV p.1 v →
      wpAny (model X.prog X.w) X.A.in1.in1 (call (.ref f') [v]) (fun u s2 => ∃ (H2 : Hp) (t : Tok), s2.os = s'.os ∧ AllBare s2.gens ∧ Un (frs X.stack) [] H' H2 s'.heap s2.heap ∧ HOk X.prog X.w H2 s2.heap ∧ Same H' H2 ∧ u = .str p.2 t) (fun _ _ => False) s')
    (q : ∀ r H', H r = none → Same H H' → H' r = some (.lst ((byText bs).map (·.1))) → Q (.ref r) H') :
    wpAny (model X.prog X.w) X.A (call (.builtin "sorted") [.ref l] [(Str.ofString "key", .ref f')]) (EP X pins σ Q) X.xe s := by
  obtain ⟨its, rv, hli, hz⟩ := I.list hl
  have hz' : its.length ≤ sizeLine := by rw [← rv.length]; exact hz
  have hlb : its.length = bs.length := by rw [← rv.length, List.length_map]
  have r2 : Room 0 X.A.in1.in1 := ((hr.mono hk).in1).in1
  have un2 : X.A.in1.in1.units + 64 < cLine := r2.units
  have sz2 : (PySem.W.copyHeap s.heap its).objs.size = s.heap.objs.size + 2 := by
    unfold PySem.W.copyHeap
    rw [size_push', Heap.size_update, size_push']
  have cpk : ∀ b o, s.heap.get? b = some o → (PySem.W.copyHeap s.heap its).get? b = some o := fun b o e => PySem.W.copyHeap_old e
  let J : Shared → Prop := fun s' => ∃ H', s'.os = s.os ∧ AllBare s'.gens ∧ Un (frs X.stack) [] H H' s.heap s'.heap ∧ HOk X.prog X.w H' s'.heap ∧ Same H H' ∧ H' (s.heap.objs.size + 1) = none ∧ H' (s.heap.objs.size + 3) = none
  have nf : ∀ a, s.heap.objs.size ≤ a → a ∉ frs X.stack := fun a ha hb => by
    rcases List.mem_cons.mp (I.stkSub a hb) with z | z
    · have := I.lt; rw [← z] at this; exact absurd this (Nat.not_lt.mpr ha)
    · exact I.nofs ha z
  refine PySem.W.sorted_of_sort hli.isList hz' (PyProof.Rows.ksk_s1 _ _) (fun _ => PyProof.Rows.ksk_l1 _ _) fun E' => ?_
  show wpAny _ _ (Builtin.«list.sort» ⟨[.ref (s.heap.objs.size + 1)], [(Str.ofString "key", .ref f')]⟩) _ _ _
  rw [PyProof.Rows.ksk_t1]
  refine keyJ_tree (J := J) (kz := bs.map (·.2)) (kS := s.heap.objs.size + 3) (s := { s with heap := PySem.W.copyHeap s.heap its }) (PySem.W.copyHeap_at s.heap its) (by show _ = _ + 1; rw [sz2]) (fun h' hk' => ?_) (fun s' h' hJ hk' => ?_) (by rw [List.length_map, hlb]) hz' un2 (fun i v k hv hk' s' ok oa hJ nk na => ?_) fun s' h' tk out c hJ keep hat ko => ⟨rfl, ?_⟩
  · have kp2 : ∀ b o, s.heap.get? b = some o → h'.get? b = some o := fun b o e => hk' b o (Nat.ne_of_lt (Nat.lt_of_lt_of_le (Heap.lt_size e) (Nat.le_add_right _ _))) (cpk b o e)
    exact ⟨H, rfl, I.bare, Un.kept kp2, I.hok.kept kp2, Same.refl _, I.hok.fresh (Nat.le_add_right _ _), I.hok.fresh (Nat.le_add_right _ _)⟩
  · obtain ⟨H', o1, o2, o3, o4, o5, o6, o7⟩ := hJ
    exact ⟨H', o1, o2, un_else o3 (Nat.le_add_right _ _) hk', hok_else o4 o7 hk', o5, o6, o7⟩
  · obtain ⟨H', o1, o2, o3, o4, o5, o6, o7⟩ := hJ
    have I' : Inv X pins σ H' s' := I.call' (ch := []) o1 o3 o4 o2 (fun b z => absurd z (by simp))
    have hv' : i < its.length := (List.getElem?_eq_some_iff.mp hv).1
    obtain ⟨p, hp⟩ : ∃ p, bs[i]? = some p := ⟨_, List.getElem?_eq_getElem (by omega)⟩
    have ek : p.2 = k := by
      rw [List.getElem?_map, hp] at hk'
      simpa using hk'
    have er : RelV p.1 v := by
      obtain ⟨u, hu1, hu2⟩ := rv.get (i := i) (x := p.1) (by rw [List.getElem?_map, hp]; rfl)
      rw [hv] at hu1
      injection hu1 with hu1
      rw [hu1]; exact hu2
    refine wpAny_mono (run p (List.mem_of_getElem? hp) s' H' v I' o5 er) (fun u s2 hq => ?_) fun _ _ h => h
    obtain ⟨H2, t, c1, c2, c3, c4, c7, rfl⟩ := hq
    exact ⟨⟨H2, c1.trans o1, c2, o3.trans c3, c4, o5.trans c7, c3.free _ _ na o6 (by simp), c3.free _ _ nk o7 (by simp)⟩, c3.keep _ _ nk o7 (nf _ (Nat.le_add_right _ _)) (by simp), c3.keep _ _ na o6 (nf _ (Nat.le_add_right _ _)) (by simp), t, by rw [← ek]⟩
  · obtain ⟨H', o1, o2, o3, o4, o5, o6, o7⟩ := hJ
    have ke : PySem.W.KeyedOut false (bs.map fun p : V × Str => PyData.str p.2) its out := by
      have : (bs.map (·.2)).map PyData.str = bs.map fun p : V × Str => PyData.str p.2 := by rw [List.map_map]; rfl
      rw [← this]; exact ko
    have eo := PySem.W.keyedOut_each (R := fun v (p : V × Str) => RelV p.1 v) (fun p : V × Str => PyData.str p.2) ke (vals_each rv)
    have ro : Vals ((byText bs).map (·.1)) out := each_vals eo
    have n1 : s.heap.objs.size ≤ s.heap.objs.size + 1 := by omega
    have far : ∀ b o, s.heap.get? b = some o → h'.get? b = s'.heap.get? b := fun b o e => keep b (Nat.ne_of_lt (Nat.lt_of_lt_of_le (Heap.lt_size e) (Nat.le_add_right _ _))) (Nat.ne_of_lt (Nat.lt_of_lt_of_le (Heap.lt_size e) (Nat.le_add_right _ _)))
    have keepU : Un (frs X.stack) [] H H' s.heap h' :=
      ⟨fun b o e h1 h2 h3 => by rw [far b o e]; exact o3.keep b o e h1 h2 h3, fun b o e h1 h2 h3 => by rw [far b o e]; exact o3.slot b o e h1 h2 h3, o3.free, fun b o e h1 => by rw [far b o e]; exact o3.there b o e h1, o3.tups, o3.frzs, o3.tbls⟩
    have keepH : HOk X.prog X.w H' h' := fun a o e => (o4 a o e).stay (fun b u hb hu => by
      have hn : H' b ≠ none := fun z => by
        rcases hb with rfl | hb
        · rw [z] at e; cases e
        · rw [z] at hb; cases hb
      rw [keep b (fun z => hn (by rw [z]; exact o7)) (fun z => hn (by rw [z]; exact o6))]; exact hu) (fun _ h => h) (fun _ _ h => h)
    have hlen : ((byText bs).map (·.1)).length ≤ sizeLine := by
      unfold byText
      rw [List.length_map, List.length_mergeSort, ← hlb]
      exact hz'
    have I2 : Inv X pins σ (upd H' (s.heap.objs.size + 1) (.lst ((byText bs).map (·.1)))) { s' with heap := h', toks := tk } :=
      I.drained (S := s.heap.objs.size + 1) (acc := out.toArray) (c := c) n1 hlen hat (by simpa using ro) ExOk.nil o1 o2 keepU keepH o6
    exact ⟨.ref _, _, I2, rfl, q _ _ (I.hok.fresh n1) (fun b o e => by rw [upd_ne (ne_of_none e (I.hok.fresh n1))]; exact o5 _ _ e) upd_same⟩
/-- sorted(l, key=lambda x: body) -/
def rSortedLam (K : PySem.W.Frag) (N : List Str) (q : Str) (mk : Addr → LF) (tb : TE) : List V → List V → Hp → VK → Prop := fun xs zs H Q => ∃ (l f c' : Addr) (bs : List (V × Str)), xs = [.ref l] ∧ zs = [.ref f] ∧ H f = some (LamO f (mk c')) ∧ H c' = some (LamX.CodeO c' q) ∧ SqL K H l (bs.map (·.1)) ∧
  (∀ p ∈ bs, ∀ H', Same H H' → tb (L2.start N [p.1]) H' fun v H2 => v = .str p.2 ∧ Same H' H2) ∧ ∀ r H', H r = none → Same H H' → H' r = some (.lst ((byText bs).map (·.1))) → Q (.ref r) H'
theorem cr_sortedLam {e : Ev} {X : Cx} {N : List Str} {x : Str} {q : Str} {params : Arguments} {body : Expr} {scope : Scope} {cl : List (Str × Addr)} {tb : TE} {j k : Nat} (S : FnScope N [x] scope) (hcl : cl = [])
    (hb : ∀ (c' : Addr) (pm ctv u : Value), bindArgs (PySem.W.kla_fn "<lambda>" q params body scope cl pm (.ref c') ctv) ⟨[u], []⟩ = pure [(x, u)]) (hr : Room k X.A)
    (hbody : ∀ (f c' : Addr) (A : Around) (outer : List Env) (s : Shared) (H : Hp) (E : XK), Room j (A.deeper (envOfC q scope s.heap.objs.size f (.ref c'))) → PE (cxOf (L2.CX e.P e.w) e.P e.w e.K e.mg e.base N q scope f (.ref c') A outer s H E) body tb)
    (hk : j + 3 ≤ k := by omega) (hX : Of e X := by exact ⟨rfl, rfl, rfl, rfl, rfl⟩) : CallRK X (.builtin "sorted") [Str.ofString "key"] (rSortedLam e.K N q (fun c' => ⟨q, params, body, scope, cl, c'⟩) tb) := by
  intro pins s σ H vs zs us ws Q I r rz h
  obtain ⟨l, f, c', bs, rfl, rfl, hf, hc, hl, hcall, qq⟩ := h
  obtain rfl := Vals.ref1 r
  obtain ⟨w1, rfl, e1⟩ := vals1 rz
  obtain rfl : w1 = Value.ref f := e1
  obtain ⟨h1, h2, h3, h4, h5⟩ := hX
  rw [← h1, ← h2, ← h3, ← h4, ← h5] at hbody
  rw [← h3] at hl
  have r2 : Room (j + 1) X.A.in1.in1 := ((hr.mono hk).in1).in1
  refine sortedJ I hr (by omega) hl (fun p hp s' H' v I' S' rv => ?_) qq
  have rr : Vals [p.1] [v] := .cons rv .nil
  refine wpAny_call (codeAny_mono (run_lamV (CX := L2.CX X.prog X.w) (k := j) (F := ⟨q, params, body, scope, cl, c'⟩) (S' _ _ hf) (S' _ _ hc) hcl S (fun pm ctv us hu => ?_) r2 I'.env0.in1.in1 rr rfl (fun hr' => hbody f c' _ _ _ _ E0 hr') (hcall p hp H' S')) fun r s2 hq => ?_)
  · match us, hu with
    | [u], _ => exact hb c' pm ctv u
  cases r with
  | error e2 =>
    obtain ⟨_, _, _, _, _, _, _, _, _, _, _, _, hE⟩ := hq
    exact hE
  | ok fl =>
    cases fl with
    | next => exact False.elim hq
    | brk => exact False.elim hq
    | cont => exact False.elim hq
    | ret u =>
      obtain ⟨v2, H2, c1, c2, c3, c4, c5, rfl, c7⟩ := hq
      obtain ⟨t, rfl⟩ : ∃ t, u = Value.str p.2 t := c5
      exact ⟨H2, t, c1, c2, c3, c4, c7, rfl⟩
end AB

set_option Elab.async false
set_option linter.all false
set_option maxRecDepth 100000
set_option maxHeartbeats 4000000
namespace AB
open PySem PySem.Spec PyProof.Rows L2
/-! ### the hook: what hookY tells, and the tables of the defs that make lambdas -/
def tabsZ (g : Addr → Option Obj) (as : List Addr) (tf : List He.Defn) : List Addr := tf.map fun p => (He.cT (He.frG g as) p).2
def frZ (g : Addr → Option Obj) (as : List Addr) (tf : List He.Defn) : PySem.W.Frag := (He.frG g as).filter fun q => !(tabsZ g as tf).contains q.1
theorem frZ_in {h : Heap} {as : List Addr} {tf : List He.Defn} : (frZ h.get? as tf).In h := fun a o e => He.frG_mem (List.mem_filter.mp (He.lookup_mem e)).1
structure SaysZ (fa : List He.Fa) (fn : List He.DefD) (ts : List He.Tab) (tf : List He.Defn) (ex : PySem.W.Frag → Bool) (w : World) (h : Heap) (K : PySem.W.Frag) : Prop where
  y : SaysY fa fn ts ex w K
  hd : ∀ p ∈ tf, PySem.W.codeHdIn K (He.cT K p).1 (He.cT K p).2 = true
  out : ∀ p ∈ tf, K.lookup (He.cT K p).2 = none
  empty : ∀ p ∈ tf, h.get? (He.cT K p).2 = some { cls := .none, data := .fields #[] }
  nd : (tf.map fun p => (He.cT K p).2).Nodup
def tabsBZ (g : Addr → Option Obj) (tf : List He.Defn) (K : PySem.W.Frag) : Bool := (tf.all fun p => PySem.W.codeHdIn K (He.cT K p).1 (He.cT K p).2 && ((K.lookup (He.cT K p).2).isNone && (match g (He.cT K p).2 with
  | some o => He.emptyTab o
  | none => false))) && decide ((tf.map fun p => (He.cT K p).2).Nodup)
def kZ (n : Nat) (tf : List He.Defn) (g : Addr → Option Obj) : PySem.W.Frag := frZ g (PySem.cStatics :: He.asD g n) tf
def obsZ (n : Nat) (fa : List He.Fa) (fn : List He.DefD) (ts : List He.Tab) (tf : List He.Defn) (ex : PySem.W.Frag → Bool) (g : Addr → Option Obj) : AlY := (He.obsT fa fn ts (kZ n tf g), ex (kZ n tf g) && tabsBZ g tf (kZ n tf g))
theorem saysZ_of {n : Nat} {fa : List He.Fa} {fn : List He.DefD} {ts : List He.Tab} {tf : List He.Defn} {ex : PySem.W.Frag → Bool} {w : World} {h : Heap} (e : obsZ n fa fn ts tf ex h.get? = valY fn ts w) : SaysZ fa fn ts tf ex w h (kZ n tf h.get?) := by
  have e1 : He.obsT fa fn ts (kZ n tf h.get?) = He.valT fn ts w := congrArg (fun z : AlY => z.1) e
  have e2 : (ex (kZ n tf h.get?) && tabsBZ h.get? tf (kZ n tf h.get?)) = true := congrArg (fun z : AlY => z.2) e
  obtain ⟨h1, h2⟩ := Bool.and_eq_true_iff.mp e2
  obtain ⟨h3, h4⟩ := Bool.and_eq_true_iff.mp h2
  have key : ∀ p ∈ tf, PySem.W.codeHdIn (kZ n tf h.get?) (He.cT (kZ n tf h.get?) p).1 (He.cT (kZ n tf h.get?) p).2 = true ∧ (kZ n tf h.get?).lookup (He.cT (kZ n tf h.get?) p).2 = none ∧ ∃ o, h.get? (He.cT (kZ n tf h.get?) p).2 = some o ∧ He.emptyTab o = true := fun p hp => by
    obtain ⟨k1, k2⟩ := Bool.and_eq_true_iff.mp (List.all_eq_true.mp h3 p hp)
    obtain ⟨k3, k4⟩ := Bool.and_eq_true_iff.mp k2
    refine ⟨k1, Option.isNone_iff_eq_none.mp k3, ?_⟩
    cases q : h.get? (He.cT (kZ n tf h.get?) p).2 with
    | none => rw [q] at k4; cases k4
    | some o => rw [q] at k4; exact ⟨o, rfl, k4⟩
  exact ⟨⟨e1, h1⟩, fun p hp => (key p hp).1, fun p hp => (key p hp).2.1, fun p hp => by
    obtain ⟨_, _, o, q, z⟩ := key p hp
    rw [q, He.emptyTab_eq z], of_decide_eq_true h4⟩
def hookZ (n : Nat) (fa : List He.Fa) (fn : List He.DefD) (ts : List He.Tab) (tf : List He.Defn) (ex : PySem.W.Frag → Bool) : PySem.W.Hook where
  α := AlY
  obs := fun s => obsZ n fa fn ts tf ex s.heap.get?
  val := fun w => valY fn ts w
  says := fun w h => ∃ K : PySem.W.Frag, K.In h ∧ SaysZ fa fn ts tf ex w h K
  of := fun _ _ e => ⟨_, frZ_in, saysZ_of e⟩
  keeps := fun _ _ _ ⟨K, hK, c⟩ k => ⟨K, PySem.W.Frag.In.keeps hK k, ⟨c.y, c.hd, c.out, fun p hp => k _ _ (c.empty p hp), c.nd⟩⟩
theorem obsZ_eq {n : Nat} {fa : List He.Fa} {fn : List He.DefD} {ts : List He.Tab} {tf : List He.Defn} {ex : PySem.W.Frag → Bool} {g : Addr → Option Obj} {s : Shared} (h : ∀ a, g a = s.heap.get? a) : obsZ n fa fn ts tf ex g = (hookZ n fa fn ts tf ex).obs s := by
  have e : g = s.heap.get? := funext h
  rw [e] <;> rfl
/-- a promise that takes the list frozen, of a list that may be written -/
def orFrz (sp : Sp) : Sp := fun vs H Q E => sp vs H Q E ∨ ∃ (a : Addr) (xs : List V), vs = [.ref a] ∧ H a = some (.lst xs) ∧ ∀ o, sp vs (upd H a (.frz o (.lst xs))) Q E
theorem fnOk_frz {P : Program} {w : World} {K : PySem.W.Frag} {mg : Str → Option Value} {base : Heap} {k : Nat} {f : Addr} {fd : FuncData} {x : Str} {sp : Sp} (F : FnOk P w K mg base L2.CX0 k f fd [x] sp) : FnOk P w K mg base L2.CX0 k f fd [x] (orFrz sp) := by
  refine ⟨fun vs H Q E h => ?_, fun A outer s H args us vs Q E hr e0 hb r h => ?_⟩
  · rcases h with h | ⟨a, xs, rfl, _⟩
    · exact F.len _ _ _ _ h
    · rfl
  rcases h with h | ⟨a, xs, rfl, ha, h⟩
  · exact F.run A outer s H args us vs Q E hr e0 hb r h
  obtain ⟨hz, its, n, rv, e⟩ : ObjOk P w H s.heap a (.lst xs) := e0.hok a _ ha
  obtain ⟨o, ho⟩ : ∃ o : Obj, o = { cls := .type "list", data := .seq its.toArray n } := ⟨_, rfl⟩
  rw [← ho] at e
  have ne : ∀ {b : Addr}, H b = none → b ≠ a := fun hn z => by rw [z, ha] at hn; cases hn
  have at_ : ∀ {b : Addr}, b ≠ a → upd H a (.frz o (.lst xs)) b = H b := fun n => upd_ne n
  have nn : ∀ {b : Addr}, H b = none → upd H a (.frz o (.lst xs)) b = none := fun hn => by rw [at_ (ne hn)]; exact hn
  have e1 : Env0 P w K mg base A outer s (upd H a (.frz o (.lst xs))) := by
    refine ⟨e0.frames, e0.mod, fun b u q => ⟨(e0.bs b u q).1, nn (e0.bs b u q).2⟩, e0.bsz, e0.funs, fun b hb => nn (e0.frf b hb), fun b u q => ?_, e0.bare⟩
    by_cases hba : b = a
    · subst hba
      rw [upd_same] at q
      cases q
      exact ⟨e, hz, its, n, rv, by rw [e, ho]⟩
    · rw [at_ hba] at q
      refine (e0.hok b u q).stay (fun c v _ z => z) (fun c z => ?_) fun c ys z => ?_
      · rw [at_ (fun z2 => by rw [z2, ha] at z; cases z)]; exact z
      · rw [at_ (fun z2 => by rw [z2, ha] at z; cases z)]; exact z
  refine codeAny_mono (F.run A outer s _ args us _ Q E hr e1 hb r (h o)) fun r s' hq => ?_
  cases r with
  | error e => exact (show False from hq).elim
  | ok fl =>
    cases fl with
    | next => exact False.elim hq
    | brk => exact False.elim hq
    | cont => exact False.elim hq
    | ret u =>
      obtain ⟨v, H', c1, c2, c3, c4, c5, c6⟩ := hq
      refine ⟨v, H', c1, c2, ⟨fun b u q hn => c3.keep b u q (nn hn), fun b u q hn => c3.slot b u q (nn hn), fun b u q hn => c3.free b u q (nn hn), c3.there, fun b ys q => c3.tups b ys ?_, fun b u z q => c3.frzs b u z ?_, fun b ps q => c3.tbls b ps ?_⟩, c4, c5, c6⟩
      · rw [at_ (fun z2 => by rw [z2, ha] at q; cases q)]; exact q
      · rw [at_ (fun z2 => by rw [z2, ha] at q; cases q)]; exact q
      · rw [at_ (fun z2 => by rw [z2, ha] at q; cases q)]; exact q
/-- the law's end, with tables -/
theorem walk_ofZ {l : PySem.W.OpenLaw} {n k : Nat} {q : Program} {loose : List Str} {XP : (Str → Option Value) → Heap → Prop} {YP : World → Heap → Prop} {d : DefRec} {x : Str}
    (hn : l.most = some n) (hn2 : n ≤ sizeLine) (hdf : d.params.defaults = []) (hr : Room k callerA)
    (F : ∀ (w : World) (mg : Str → Option Value) (fa : Addr) (h : Heap), YP w h → h.Ns mainGlobals mg → mg d.name = some (.ref fa) →
      ∃ (K : PySem.W.Frag) (fd : FuncData) (cs : List (Addr × Addr)) (sp : Sp), K.In h ∧ (∀ p ∈ cs, h.get? p.2 = some { cls := .none, data := .fields #[] }) ∧ (∀ p ∈ cs, K.lookup p.2 = none) ∧ (∀ p ∈ cs, PySem.W.CodeHd h p.1 p.2) ∧ (∀ (s : Shared) (u : Value), BindsTo s fd ⟨[u], []⟩ [(x, u)]) ∧
        (∀ (H : Hp) (a : Addr) (ns : List Int), ns.length ≤ n → (∀ p ∈ cs, H p.2 = some (.tbl #[])) → SqL K H a (ns.map V.int) → sp [.ref a] H (fun v _ => v = .bl true) fun _ _ _ => False) ∧
        ∀ base : Heap, K.In base → base.Ns mainGlobals mg → (∀ p ∈ cs, LamX.TabB base mg p.1 p.2) → FnOk l.prog w K mg base L2.CX0 k fa fd [x] sp) :
    PySem.W.WalkO q loose XP YP l.row.toRowW d [] (fun f vs => PySem.call f vs) := by
  refine Att.attach_call hn hdf fun w s₀ s₁ mg mb fa o pm cd doc a vs ns G Y ho hd hcd hmg hobj hints hlen hg => ?_
  obtain ⟨K, fd, cs, sp, KX, hT, nT, C, hb, hsp, hF⟩ := F w mg fa _ Y G.T.g hmg
  exact LamX.law_callTs KX G.T.g G.T.b G.T.builtins G.T.nolimit hg hT nT C G.T.bmain hobj hints (Nat.le_trans hlen hn2) hr hF hb (fun H hH hS => hsp H a ns hlen hH hS) fun H e s' z => z
/-! ### defs that make lambdas: their code object is known -/
/-- the def at p has the code object c, whose table is P -/
structure TabAtF (e : Ev) (f c P : Addr) : Prop where
  code : ∀ oc od fd osl, e.K.lookup f = some ⟨oc, od, .func fd, osl⟩ → fd.code = .ref c
  tab : LamX.TabB e.base e.mg c P
def AtC (e : Ev) (x : Str) (ps : List Str) (st : Stmt) (c P : Addr) : Prop := At e x ps st ∧ ∀ f, e.mg x = some (.ref f) → TabAtF e f c P
def AtMC (e : Ev) (C : Addr) (m qual : Str) (ps : List Str) (st : Stmt) (c P : Addr) : Prop := ∃ f fd, FunD e.K m qual (defArgs st) (defBody st) (defScope st) [] [] f fd ∧ Meth e.K C m f ∧ Binds e.K fd ps [] ∧ TabAtF e f c P
theorem AtC.ok {e : Ev} {x : Str} {N ps : List Str} {st : Stmt} {k : Nat} {sp : Sp} {c P : Addr} (A : AtC e x ps st c P) (S : FnScope N ps (defScope st)) (len : ∀ vs H Q E, sp vs H Q E → vs.length = ps.length)
    (hbody : ∀ (f : Addr) (A : Around) (outer : List Env) (s : Shared) (H : Hp) (vs : List V) (Q : VK) (E : XK), Room k (A.deeper (envOfC x (defScope st) s.heap.objs.size f (.ref c))) → sp vs H Q E →
      ∃ t, PSs (cxOf (L2.CX e.P e.w) e.P e.w e.K e.mg e.base N x (defScope st) f (.ref c) A outer s H E).nox (defBody st) t ∧ t { nx := fun _ H' => Q .non H', rt := Q } (start N vs) H) : Has e (k + 1) x ps sp := by
  obtain ⟨f, fd, F, m, b⟩ := A.1.ex
  have hT := A.2 f m
  obtain ⟨oc, od, dV, kV, doc, pm, an, cdv, ct, osl, rfl, lk, hcd, h1, h2⟩ := id F.ex
  have ec : cdv = .ref c := hT.code _ _ _ _ lk
  subst ec
  refine ⟨f, _, fn_of lk hcd S len fun A outer s H vs Q E hr h => ?_, m, F.kp, b, FunD.lk F⟩
  obtain ⟨t, h1, h2⟩ := hbody f A outer s H vs Q E hr h
  exact ⟨t, h1.nox, h2⟩
theorem AtMC.ok {e : Ev} {C : Addr} {m qual : Str} {N ps : List Str} {st : Stmt} {k : Nat} {sp : Sp} {c P : Addr} (A : AtMC e C m qual ps st c P) (S : FnScope N ps (defScope st)) (len : ∀ vs H Q E, sp vs H Q E → vs.length = ps.length)
    (hbody : ∀ (f : Addr) (A : Around) (outer : List Env) (s : Shared) (H : Hp) (vs : List V) (Q : VK) (E : XK), Room k (A.deeper (envOfC qual (defScope st) s.heap.objs.size f (.ref c))) → sp vs H Q E →
      ∃ t, PSs (cxOf (L2.CX e.P e.w) e.P e.w e.K e.mg e.base N qual (defScope st) f (.ref c) A outer s H E).nox (defBody st) t ∧ t { nx := fun _ H' => Q .non H', rt := Q } (start N vs) H) : HasM e (k + 1) C m ps sp := by
  obtain ⟨f, fd, F, mt, b, hT⟩ := A
  obtain ⟨oc, od, dV, kV, doc, pm, an, cdv, ct, osl, rfl, lk, hcd, h1, h2⟩ := id F.ex
  have ec : cdv = .ref c := hT.code _ _ _ _ lk
  subst ec
  refine ⟨f, _, fn_of lk hcd S len fun A outer s H vs Q E hr h => ?_, mt, b⟩
  obtain ⟨t, h1, h2⟩ := hbody f A outer s H vs Q E hr h
  exact ⟨t, h1.nox, h2⟩
/-- from the hook's facts -/
theorem tabF_of {w : World} {K : PySem.W.Frag} {P : Program} {mg : Str → Option Value} {base : Heap} {p : He.Defn} {x qual : Str} {params : Arguments} {body : List Stmt} {scope : Scope} {dvs : List V} {kws : List (Str × V)} {fd : FuncData}
    (F : FunD K x qual params body scope dvs kws (He.fAd K p) fd) (tb : LamX.TabB base mg (He.cT K p).1 (He.cT K p).2) : TabAtF ⟨P, w, K, mg, base⟩ (He.fAd K p) (He.cT K p).1 (He.cT K p).2 := by
  refine ⟨fun oc od fd' osl lk => ?_, tb⟩
  obtain ⟨oc', od', dV, kV, doc, pm, an, cdv, ct, osl', rfl, lk', hcd, _, _⟩ := F.ex
  have e1 := lk'.symm.trans lk
  injection e1 with e1
  injection e1 with _ _ e1 _
  injection e1 with e1
  subst e1
  obtain ⟨c, rfl⟩ := He.codeIn_ref hcd
  have := He.codeOf_eq (p := p) lk' rfl
  show Value.ref c = .ref (He.codeOf K p)
  rw [this]
/-- what the names of lambdas are -/
abbrev lamQ (x : Str) : Str := (x ++ ".<locals>." : Str) ++ "<lambda>"
/-- the def x, its code object c, the table P among T -/
structure LamAt (e : Ev) (T : List (Addr × Str)) (x : Str) (c P : Addr) : Prop where
  tab : LamX.TabB e.base e.mg c P
  mem : (P, lamQ x) ∈ T
  one : ∀ p ∈ T, p.1 = P → p.2 = lamQ x
def tSortedLam (K : PySem.W.Frag) (T : List (Addr × Str)) (N : List Str) (q : Str) (mk : Addr → LF) (tl : TA) (tb : TE) : TE := fun σ H Q => tl σ H fun xs H1 => LamX.Tabs T H1 ∧ ∀ (f c' : Addr) (H2 : Hp), LamX.ExtN H1 H2 → (∀ b, H2 b = none → H1 b = none) → LamX.Tabs T H2 → H1 f = none →
  H2 f = some (LamO f (mk c')) → H2 c' = some (LamX.CodeO c' q) → rSortedLam K N q mk tb xs [.ref f] H2 Q
/-- sorted(l, key=lambda y: body) -/
theorem pe_sortedLam {e : Ev} {X : Cx} {T : List (Addr × Str)} {x y : Str} {c P : Addr} {l : Expr} {params : Arguments} {body : Expr} {scope : Scope} {lpos kpos p pos : Pos} {tl : TA} {tb : TE} {N : List Str} {j k : Nat} (L : LamAt e T x c P) (m : e.mg "sorted" = none) (hr : Room k X.A) (hl : PA X [l] tl)
    (S : FnScope N [y] scope)
    (hbody : ∀ (f c' : Addr) (A : Around) (outer : List Env) (s : Shared) (H : Hp) (E : XK), Room j (A.deeper (envOfC (lamQ x) scope s.heap.objs.size f (.ref c'))) → PE (cxOf (L2.CX e.P e.w) e.P e.w e.K e.mg e.base N (lamQ x) scope f (.ref c') A outer s H E) body tb)
    (hk : j + 3 ≤ k := by omega) (hX : Of e X := by exact ⟨rfl, rfl, rfl, rfl, rfl⟩) (hcode : X.env.code = .ref c := by rfl) (hq : X.env.qual ++ "<lambda>" = lamQ x := by rfl)
    (hdef : defaultsOf params X.env = ([], []) := by rfl) (hfree : scope.names.all (fun y => !decide (y.2 = .free)) = true := by decide +kernel)
    (hb : ∀ (cl : List (Str × Addr)) (c' : Addr) (pm ctv u : Value), bindArgs (PySem.W.kla_fn "<lambda>" (lamQ x) params body scope cl pm (.ref c') ctv) ⟨[u], []⟩ = pure [(y, u)] := by intros; rfl)
    (hg : Gl X "sorted" := by rfl)
    (he : backTo pos (starEach [l] X.env) = (false, eval l X.env) :: backTo pos (starEach [] X.env) := by rfl) (hpl : (backTo pos (starEach [l] X.env)).any (·.1) = false := by rfl)
    (hall : (backToKw pos (keywordEach [⟨some "key", .Lambda params body scope lpos, kpos⟩] X.env)).all (·.1.isSome) = true := by rfl) (hnone : (backToKw pos (keywordEach [⟨some "key", .Lambda params body scope lpos, kpos⟩] X.env)).any (·.1.isNone) = false := by rfl) (hks : (backToKw pos (keywordEach [⟨some "key", .Lambda params body scope lpos, kpos⟩] X.env)).filterMap (·.1) = [Str.ofString "key"] := by rfl) :
    PE X (.Call (.Name "sorted" p) [l] [⟨some "key", .Lambda params body scope lpos, kpos⟩] pos) (tSortedLam e.K T N (lamQ x) (fun c' => ⟨lamQ x, params, body, scope, [], c'⟩) tl tb) := by
  have hnf : ∀ y ∈ scope.names, y.2 ≠ .free := fun z hz h => by
    have := List.all_eq_true.mp hfree z hz
    rw [h] at this
    simp at this
  have ecl : ∀ (names : List (Str × NameKind)) (acc : List (Str × Addr)), (∀ y ∈ names, y.2 ≠ .free) → cloFrom X.env.cells names acc = acc := by
    intro names
    induction names with
    | nil => intro acc _; rfl
    | cons a r ih =>
      intro acc h
      obtain ⟨nm, kd⟩ := a
      have h1 := h _ List.mem_cons_self
      have h2 := ih acc fun y hy => h y (List.mem_cons_of_mem _ hy)
      cases kd with
      | free => exact absurd rfl h1
      | _ => exact h2
  have hlam := pe_lamV (X := X) (T := T) (c := c) (P := P) (params := params) (body := body) (scope := scope) (pos := lpos) (by rw [hX.base, hX.mg]; exact L.tab) hcode (by rw [hq]; exact L.mem) (by rw [hq]; exact L.one) hdef (fun y hy z => absurd z (hnf y hy))
  rw [hq, ecl _ _ hnf] at hlam
  have hs := cr_sortedLam (e := e) (X := X) (N := N) (x := y) (q := lamQ x) (params := params) (body := body) (scope := scope) (cl := []) (tb := tb) (j := j) (k := k) S rfl (fun c' pm ctv u => hb [] c' pm ctv u) hr hbody hk hX
  have h := pe_callBK (pos := pos) (p := p) hs hg (hX.no m) (by decide +kernel) hl (pk_cons (nm := some "key") (kpos := kpos) hlam pk_nil) (hn := by decide) (hdb := by decide) (he := he) (hpl := hpl) (hall := hall) (hnone := hnone) (hks := hks)
  exact ⟨fun pins s σ H Q I hw => h.run pins s σ H Q I hw⟩
/-- the tables of the defs that make lambdas -/
def tabsOf (K : PySem.W.Frag) (l : List (He.Defn × Str)) : List (Addr × Str) := l.map fun p => ((He.cT K p.1).2, lamQ p.2)
theorem nodup_at {α β : Type} {f : α → β} : ∀ {l : List α} {a b : α}, (l.map f).Nodup → a ∈ l → b ∈ l → f a = f b → a = b
  | x :: r, a, b, h, ha, hb, e => by
    rw [List.map_cons, List.nodup_cons] at h
    rcases List.mem_cons.mp ha with e1 | h1
    · rcases List.mem_cons.mp hb with e2 | h2
      · rw [e1, e2]
      · exact absurd (by rw [← e1, e]; exact List.mem_map_of_mem h2) h.1
    · rcases List.mem_cons.mp hb with e2 | h2
      · exact absurd (by rw [← e2, ← e]; exact List.mem_map_of_mem h1) h.1
      · exact nodup_at h.2 h1 h2 e
theorem lamAt_of {P : Program} {w : World} {K : PySem.W.Frag} {mg : Str → Option Value} {base : Heap} {l : List (He.Defn × Str)} (nd : ((l.map (·.1)).map fun p => (He.cT K p).2).Nodup) (i : Nat) {p : He.Defn} {x : Str} (h : l[i]? = some (p, x))
    (tb : LamX.TabB base mg (He.cT K p).1 (He.cT K p).2) : LamAt ⟨P, w, K, mg, base⟩ (tabsOf K l) x (He.cT K p).1 (He.cT K p).2 := by
  have hm := List.mem_of_getElem? h
  refine ⟨tb, List.mem_map.mpr ⟨_, hm, rfl⟩, fun q hq e => ?_⟩
  obtain ⟨r, hr, rfl⟩ := List.mem_map.mp hq
  rw [List.map_map] at nd
  rw [nodup_at nd hr hm e]
theorem tabs_nil {K : PySem.W.Frag} {l : List (He.Defn × Str)} {H : Hp} (h : ∀ p ∈ l, H (He.cT K p.1).2 = some (.tbl #[])) : LamX.Tabs (tabsOf K l) H := fun p hp => by
  obtain ⟨q, hq, rfl⟩ := List.mem_map.mp hp
  exact LamX.TabS.nil (h q hq)
end AB

set_option Elab.async false
set_option linter.all false
set_option maxRecDepth 100000
set_option maxHeartbeats 4000000
namespace AB
open PySem PySem.Spec PyProof.Rows L2
/-! ### lists of lists of data -/
def LLs (H : Hp) : List Addr → List (List Da) → Prop
  | [], [] => True
  | a :: r, l :: m => LD H a l ∧ LLs H r m
  | _, _ => False
/-- at p a list of the lists at rs -/
def LL (H : Hp) (p : Addr) (rs : List Addr) (ls : List (List Da)) : Prop := H p = some (.lst (rs.map V.ref)) ∧ LLs H rs ls
theorem LLs.length {H : Hp} : ∀ {rs : List Addr} {ls : List (List Da)}, LLs H rs ls → rs.length = ls.length
  | [], [], _ => rfl
  | _ :: _, _ :: _, h => by simp [LLs.length h.2]
  | [], _ :: _, h => h.elim
  | _ :: _, [], h => h.elim
theorem LLs.imp {H H' : Hp} : ∀ {rs : List Addr} {ls : List (List Da)}, (∀ a ∈ rs, ∀ l, LD H a l → LD H' a l) → LLs H rs ls → LLs H' rs ls
  | [], [], _, _ => trivial
  | a :: r, l :: m, k, h => ⟨k a (by simp) l h.1, LLs.imp (fun b hb => k b (by simp [hb])) h.2⟩
  | [], _ :: _, _, h => h.elim
  | _ :: _, [], _, h => h.elim
theorem LLs.mono {H H' : Hp} {rs : List Addr} {ls : List (List Da)} (s : Same H H') (h : LLs H rs ls) : LLs H' rs ls := h.imp fun _ _ _ k => k.mono s
theorem LLs.append {H : Hp} : ∀ {rs ss : List Addr} {ls ms : List (List Da)}, LLs H rs ls → LLs H ss ms → LLs H (rs ++ ss) (ls ++ ms)
  | [], _, [], _, _, h => h
  | a :: r, ss, l :: m, ms, h, h2 => ⟨h.1, LLs.append h.2 h2⟩
  | [], _, _ :: _, _, h, _ => h.elim
  | _ :: _, _, [], _, h, _ => h.elim
theorem LLs.get {H : Hp} : ∀ {rs : List Addr} {ls : List (List Da)} {i : Nat} {a : Addr}, LLs H rs ls → rs[i]? = some a → ∃ l, ls[i]? = some l ∧ LD H a l
  | a :: r, l :: m, 0, b, h, e => by simp at e; subst e; exact ⟨l, rfl, h.1⟩
  | a :: r, l :: m, i + 1, b, h, e => by
    obtain ⟨l', h1, h2⟩ := LLs.get (i := i) h.2 (by simpa using e)
    exact ⟨l', by simpa using h1, h2⟩
  | [], [], _, _, _, e => by simp at e
  | [], _ :: _, _, _, h, _ => h.elim
  | _ :: _, [], _, _, h, _ => h.elim
theorem LL.mono {H H' : Hp} {p : Addr} {rs : List Addr} {ls : List (List Da)} (s : Same H H') (h : LL H p rs ls) : LL H' p rs ls := ⟨s _ _ h.1, h.2.mono s⟩
theorem LL.xt {H H' : Hp} {p : Addr} {rs : List Addr} {ls : List (List Da)} (x : LamX.ExtN H H') (h : LL H p rs ls) : LL H' p rs ls := ⟨x _ _ h.1 (fun ps z => by cases z), h.2.imp fun _ _ _ k => k.xt x⟩
def llp (ls : List (List Da)) : List PyData := ls.map fun l => .list (Da.pys l)
theorem LLs.dps {K : PySem.W.Frag} {H : Hp} : ∀ {rs : List Addr} {ls : List (List Da)}, LLs H rs ls → DpAll K H (rs.map V.ref) (llp ls)
  | [], [], _ => .nil
  | a :: r, l :: m, h => .cons h.1.dp (LLs.dps h.2)
  | [], _ :: _, h => h.elim
  | _ :: _, [], h => h.elim
theorem LL.dp {K : PySem.W.Frag} {H : Hp} {p : Addr} {rs : List Addr} {ls : List (List Da)} (h : LL H p rs ls) : Dp K H (.ref p) (.list (llp ls)) := .lst (SqL.of h.1) h.2.dps
def okLL (ls : List (List Da)) : Prop := ∀ l ∈ ls, okL l
theorem llp_lay : ∀ {ls : List (List Da)}, okLL ls → PyData.canLayAll0 (llp ls) = true ∧ PyData.depthAll (llp ls) ≤ 61
  | [], _ => ⟨rfl, by simp [llp, PyData.depthAll]⟩
  | l :: r, h => by
    obtain ⟨h1, h2⟩ := llp_lay (ls := r) fun x hx => h x (List.mem_cons_of_mem _ hx)
    obtain ⟨h3, h4⟩ := okL.oks (h l List.mem_cons_self)
    unfold llp at h1 h2 ⊢
    refine ⟨?_, ?_⟩
    · simp only [List.map_cons, PyData.canLayAll0, PyData.canLay0, Da.pys_lay, h3, h1, Bool.and_self]
    · simp only [List.map_cons, PyData.depthAll, PyData.depth, Da.pys_depth]
      omega
theorem llp_sh {ls : List (List Da)} (h : okLL ls) : SeqAt.shaped (.list (llp ls)) = true := by
  obtain ⟨h1, h2⟩ := llp_lay h
  unfold SeqAt.shaped
  have e1 : (PyData.list (llp ls)).canLay0 = true := by simp only [PyData.canLay0]; exact h1
  have e2 : (PyData.list (llp ls)).depth ≤ 64 := by simp only [PyData.depth]; omega
  rw [e1, decide_eq_true e2]; rfl
theorem llp_eqv : ∀ (a b : List (List Da)), PyData.eqvAll (llp a) (llp b) = decide (a = b)
  | [], [] => by simp [llp, PyData.eqvAll]
  | [], _ :: _ => by simp [llp, PyData.eqvAll]
  | _ :: _, [] => by simp [llp, PyData.eqvAll]
  | x :: a, y :: b => by
    have h := llp_eqv a b
    unfold llp at h ⊢
    simp only [List.map_cons, PyData.eqvAll, PyData.eqv, pys_eqv, h, List.cons.injEq]
    by_cases h1 : x = y <;> by_cases h2 : a = b <;> simp [h1, h2]
theorem llp_any (l : List Da) : ∀ ls : List (List Da), ((llp ls).any fun z => PyData.eqv z (.list (Da.pys l))) = decide (l ∈ ls)
  | [] => by simp [llp]
  | x :: r => by
    have h := llp_any l r
    unfold llp at h ⊢
    simp only [List.map_cons, List.any_cons, h, PyData.eqv, pys_eqv]
    by_cases h1 : x = l
    · subst h1; simp
    · have h2 : ¬ l = x := fun e => h1 e.symm
      simp [h1, h2]
section
variable {X : Cx}
/-- == of lists of lists -/
def rEqLL (neg : Bool) : R2 := fun x y H Q => ∃ a b rs ss ls ms, x = .ref a ∧ y = .ref b ∧ LL H a rs ls ∧ LL H b ss ms ∧ okLL ls ∧ okLL ms ∧ Q (.bl (if neg then !decide (ls = ms) else decide (ls = ms))) H
theorem op_eqLL (hu : X.A.units + 64 < cLine) : OpR X (compareOp .Eq) (rEqLL false) := by
  intro pins s σ H x y v u Q I rx ry h
  obtain ⟨a, b, rs, ss, d, e, rfl, rfl, hx, hy, k1, k2, q⟩ := h
  exact op_eqD hu pins s σ H _ _ v u Q I rx ry ⟨_, _, hx.dp, hy.dp, llp_sh k1, llp_sh k2, by simp only [PyData.eqv]; rw [llp_eqv]; exact q⟩
theorem op_neLL (hu : X.A.units + 64 < cLine) : OpR X (compareOp .NotEq) (rEqLL true) := by
  intro pins s σ H x y v u Q I rx ry h
  obtain ⟨a, b, rs, ss, d, e, rfl, rfl, hx, hy, k1, k2, q⟩ := h
  exact op_neD hu pins s σ H _ _ v u Q I rx ry ⟨_, _, hx.dp, hy.dp, llp_sh k1, llp_sh k2, by simp only [PyData.eqv]; rw [llp_eqv]; exact q⟩
/-- l in a list of lists -/
def rInLL (neg : Bool) : R2 := fun x y H Q => ∃ a b rs l ls, x = .ref a ∧ y = .ref b ∧ LD H a l ∧ LL H b rs ls ∧ okL l ∧ okLL ls ∧ Q (.bl (if neg then !decide (l ∈ ls) else decide (l ∈ ls))) H
theorem op_inLL (hu : X.A.units + 65 < cLine) : OpR X (compareOp .In) (rInLL false) := by
  intro pins s σ H x y v u Q I rx ry h
  obtain ⟨a, b, rs, l, ls, rfl, rfl, hx, hy, k1, k2, q⟩ := h
  exact op_inD hu pins s σ H _ _ v u Q I rx ry ⟨_, _, hx.dp, hy.dp, k1.sh, llp_sh k2, by rw [llp_any]; exact q⟩
theorem op_notInLL (hu : X.A.units + 65 < cLine) : OpR X (compareOp .NotIn) (rInLL true) := by
  intro pins s σ H x y v u Q I rx ry h
  obtain ⟨a, b, rs, l, ls, rfl, rfl, hx, hy, k1, k2, q⟩ := h
  exact op_notInD hu pins s σ H _ _ v u Q I rx ry ⟨_, _, hx.dp, hy.dp, k1.sh, llp_sh k2, by rw [llp_any]; exact q⟩
end
/-! ### each once, by a map that tells the given apart -/
theorem dd_map_on {α β : Type} [DecidableEq α] [DecidableEq β] (f : α → β) : ∀ (xs acc : List α), (∀ a ∈ acc ++ xs, ∀ b ∈ acc ++ xs, f a = f b → a = b) → (dd acc xs).map f = dd (acc.map f) (xs.map f)
  | [], acc, _ => rfl
  | x :: r, acc, hf => by
    show (dd (if x ∈ acc then acc else acc ++ [x]) r).map f = dd (if f x ∈ acc.map f then acc.map f else acc.map f ++ [f x]) (r.map f)
    have hsub : ∀ a, a ∈ (if x ∈ acc then acc else acc ++ [x]) ++ r → a ∈ acc ++ x :: r := fun a ha => by
      rcases List.mem_append.mp ha with h | h
      · split at h
        · simp [h]
        · rcases List.mem_append.mp h with h | h
          · simp [h]
          · simp [List.mem_singleton.mp h]
      · simp [h]
    rw [dd_map_on f r _ fun a ha b hb => hf a (hsub a ha) b (hsub b hb)]
    by_cases h : x ∈ acc
    · rw [if_pos h, if_pos (List.mem_map_of_mem h)]
    · have h2 : ¬ f x ∈ acc.map f := fun z => by
        obtain ⟨y, hy, e⟩ := List.mem_map.mp z
        exact h (hf y (by simp [hy]) x (by simp) e ▸ hy)
      rw [if_neg h, if_neg h2, List.map_append]
      rfl
/-! ### all stays but the tables, which grow; nothing is forgotten -/
structure XT (T : List (Addr × Str)) (H H' : Hp) : Prop where
  ext : LamX.ExtN H H'
  back : ∀ b, H' b = none → H b = none
  tabs : LamX.Tabs T H → LamX.Tabs T H'
theorem XT.same {T : List (Addr × Str)} {H H' : Hp} (s : Same H H') : XT T H H' := ⟨xt_same s, fun b e => same_none s e, fun t => t.ext s⟩
theorem XT.refl {T : List (Addr × Str)} (H : Hp) : XT T H H := XT.same (Same.refl H)
theorem XT.trans {T : List (Addr × Str)} {H H1 H2 : Hp} (a : XT T H H1) (b : XT T H1 H2) : XT T H H2 := ⟨a.ext.trans b.ext, fun c e => a.back c (b.back c e), fun t => b.tabs (a.tabs t)⟩
theorem XT.tx {T : List (Addr × Str)} {H H' : Hp} (x : XT T H H') : TX H H' := xt_tx x.ext
theorem XT.lst {T : List (Addr × Str)} {H H' : Hp} {a : Addr} {xs : List V} (x : XT T H H') (h : H a = some (.lst xs)) : H' a = some (.lst xs) := x.ext _ _ h fun ps z => by cases z
theorem XT.ins {T : List (Addr × Str)} {H H' : Hp} {a C dx : Addr} {fs : List (Str × V)} (x : XT T H H') (h : H a = some (.ins C dx fs)) : H' a = some (.ins C dx fs) := x.ext _ _ h fun ps z => by cases z
theorem LD.xn {T : List (Addr × Str)} {H H' : Hp} {a : Addr} {ds : List Da} (x : XT T H H') (h : LD H a ds) : LD H' a ds := h.xt x.ext
theorem LL.xn {T : List (Addr × Str)} {H H' : Hp} {p : Addr} {rs : List Addr} {ls : List (List Da)} (x : XT T H H') (h : LL H p rs ls) : LL H' p rs ls := h.xt x.ext
theorem putK_in {kvs : List (Key × V)} {k : Key} {v : V} (h : k ∈ kvs.map (·.1)) : (putK kvs k v).map (·.1) = kvs.map (·.1) := by
  have h2 : (kvs.any fun q => decide (q.1 = k)) = true := by
    obtain ⟨q, hq, e⟩ := List.mem_map.mp h
    exact List.any_eq_true.mpr ⟨q, hq, decide_eq_true e⟩
  unfold putK
  rw [if_pos h2, List.map_map]
  refine List.map_congr_left fun q _ => ?_
  show (if q.1 = k then (q.1, v) else q).1 = q.1
  split <;> rfl
theorem putK_out {kvs : List (Key × V)} {k : Key} {v : V} (h : k ∉ kvs.map (·.1)) : (putK kvs k v).map (·.1) = kvs.map (·.1) ++ [k] := by
  have h2 : ¬ (kvs.any fun q => decide (q.1 = k)) = true := fun y => by
    obtain ⟨q, hq, e⟩ := List.any_eq_true.mp y
    exact h (List.mem_map.mpr ⟨q, hq, of_decide_eq_true e⟩)
  unfold putK
  rw [if_neg h2, List.map_append]
  rfl
theorem valV_none {k : Key} {kvs : List (Key × V)} : valV kvs k = none ↔ k ∉ kvs.map (·.1) := by
  unfold valV
  rw [Option.map_eq_none_iff, List.find?_eq_none]
  constructor
  · intro h z
    obtain ⟨q, hq, e⟩ := List.mem_map.mp z
    exact h q hq (decide_eq_true e)
  · intro h q hq e
    exact h (List.mem_map.mpr ⟨q, hq, of_decide_eq_true e⟩)
theorem call_isiE {e : Ev} {X : Cx} (hX : Of e X := by exact ⟨rfl, rfl, rfl, rfl, rfl⟩) : CallR X (.builtin "isinstance") (rIsi e.K) := by
  have h := call_isi (X := X)
  rw [hX.K] at h
  exact h
end AB

set_option Elab.async false
set_option linter.all false
set_option maxRecDepth 100000
set_option maxHeartbeats 4000000
namespace AB
open PySem PySem.Spec PyProof.Rows L2
/-! ### a lambda without parameters, handed to a def that calls it -/
theorem takes_len {X : Cx} {W : WX} (t : Takes X W) : Takes X (fun cls d σ H => σ.length = X.N.length → W cls d σ H) := fun u s' ⟨a, B, sI, pins, σ, H, cls, d, e, I, nb, up, sky, na, os, ag, w⟩ =>
  t u s' ⟨a, B, sI, pins, σ, H, cls, d, e, I, nb, up, sky, na, os, ag, w I.len⟩
/-- the lambda called, as a statement within a try -/
def tAct (n : Nat) (f c' : Addr) (q : Str) (tl : XK → Hp → VK → Prop) (W : WX) : TS := fun D σ H => ∃ Ech : XK, (∀ cls d σ' H', Ech cls d H' → σ'.length = n → W cls d σ' H') ∧ σ[0]? = some (some (.ref f)) ∧ H c' = some (LamX.CodeO c' q) ∧ tl Ech H fun _ H' => D.nx σ H'
theorem ps_act {X : Cx} (n : Nat) {W : WX} {f c' : Addr} {q : Str} {tl : XK → Hp → VK → Prop} {e : Expr} {p : Pos} (tk : Takes X W)
    (act : ∀ (W' : WX) (E : XK), Takes X W' → (∀ cls d σ' H', E cls d H' → W' cls d σ' H') → PE X e (fun σZ HZ Q => σZ[0]? = some (some (.ref f)) ∧ HZ c' = some (LamX.CodeO c' q) ∧ tl E HZ Q)) (hs : swapsWith e none p.line X.env = pure false := by rfl) (hn : X.N.length = n := by rfl) :
    PS X (.Expr e p) (tAct n f c' q tl W) := by
  subst hn
  refine ⟨fun pins s σ H D I h => ?_⟩
  obtain ⟨Ech, hW, h1, h2, h3⟩ := h
  have k := ps_expr (pos := p) (act _ Ech (takes_len tk) fun cls d σ' H' hE => hW cls d σ' H' hE) (hs := hs)
  exact k.run pins s σ H D I ⟨h1, h2, h3⟩
/-- the def's body, with what it makes of the lambda -/
def GivesE (e : Ev) (A : Around) (st : List Env) (Ng : List Str) (x : Str) (sg : Scope) (g : Addr) (cdg : Value) (bg : List Stmt) (a : Str) (q : Str) (TT : (XK → Hp → VK → Prop) → Hp → VK → Prop) : Prop :=
  ∀ (f c' : Addr) (s : Shared) (H : Hp) (Q : VK) (tl : XK → Hp → VK → Prop),
    (∀ (W : WX) (pn : List (Addr × Obj)) (xe : Value → Shared → Prop) (E : XK) (p1 p2 : Pos), Takes ((cxOf C8.CX0 e.P e.w e.K e.mg e.base Ng x sg g cdg A st s H C8.E0).tr pn xe) W → (∀ cls d σ' H', E cls d H' → W cls d σ' H') →
      PE ((cxOf C8.CX0 e.P e.w e.K e.mg e.base Ng x sg g cdg A st s H C8.E0).tr pn xe) (.Call (.Name a p1) [] [] p2) (fun σZ HZ Q => σZ[0]? = some (some (.ref f)) ∧ HZ c' = some (LamX.CodeO c' q) ∧ tl E HZ Q)) →
    H c' = some (LamX.CodeO c' q) → TT tl H Q →
    ∃ t, PSs (cxOf C8.CX0 e.P e.w e.K e.mg e.base Ng x sg g cdg A st s H C8.E0).nox bg t ∧ t { nx := fun _ H' => Q .non H', rt := Q } (L2.start Ng [.ref f]) H
/-- x(lambda: body) -/
theorem pe_thunk {e : Ev} {X : Cx} {T : List (Addr × Str)} {TT : (XK → Hp → VK → Prop) → Hp → VK → Prop} {x y a : Str} {st : Stmt} {Ng : List Str} {c P : Addr} {k j : Nat} {params : Arguments} {body : Expr} {scope : Scope} {t : XK → TE} {p lpos pos : Pos} (G : At e x [a] st) (Sg : FnScope Ng [a] (defScope st))
    (L0 : LamAt e T y c P) (hr : Room k X.A)
    (hG : ∀ (g : Addr) (cdv : Value) (A : Around) (stk : List Env), (∀ env, Room (k - 1) (A.deeper env)) → GivesE e A stk Ng x (defScope st) g cdv (defBody st) a (lamQ y) TT)
    (hbody : ∀ (A : Around) (outer : List Env) (s : Shared) (H : Hp) (E : XK) (f c' : Addr), Room j (A.deeper (LamX.lamEnv X scope s.heap.objs.size f c')) → PE (LamX.lamCx X A outer s H E scope f c') body (t E))
    (hk : j + 2 ≤ k := by omega) (hX : Of e X := by exact ⟨rfl, rfl, rfl, rfl, rfl⟩) (hNg : Ng[0]? = some a := by rfl) (hva : Vis (defScope st) a := by first | exact Or.inl rfl | exact Or.inr (Or.inl rfl) | exact Or.inr (Or.inr rfl)) (hg : Gl X x := by rfl)
    (hcode : X.env.code = .ref c := by rfl) (hq : X.env.qual ++ "<lambda>" = lamQ y := by rfl) (L : LamX.LamS X.env.scope scope := by exact LamX.lamS_by (by decide +kernel)) (hdef : defaultsOf params X.env = ([], []) := by rfl)
    (hbind : ∀ (q : Str) (cl : List (Str × Addr)) (pm cv ctv : Value), bindArgs (PySem.W.kla_fn "<lambda>" q params body scope cl pm cv ctv) ⟨[], []⟩ = pure [] := by intros; rfl)
    (hdb : (x == ("__debug__" : Str)) = false := by decide) (hd : (a == ("__debug__" : Str)) = false := by decide) (hcd : (a == ("__classdict__" : Str)) = false := by decide) :
    PE X (.Call (.Name x p) [.Lambda params body scope lpos] [] pos) (LamX.tLam T TT t) := by
  obtain ⟨f, fd, F, m, b⟩ := G.ex
  obtain ⟨oc, od, dV, kV, doc, pm, an, cdv, ct, osl, rfl, lk, hcd', _, _⟩ := id F.ex
  obtain ⟨h1, h2, h3, h4, h5⟩ := id hX
  have eE : e = ⟨X.prog, X.w, X.K, X.mg, X.base⟩ := by
    cases e
    rw [h1, h2, h3, h4, h5]
  refine LamX.pe_lamcall (k := j) (Ng := Ng) (g := f) (sg := defScope st) (bg := defBody st) hg (by rw [h4]; exact m) (by rw [h3]; exact F.kp) (by rw [h3]; exact lk) (by rw [h3]; exact hcd') (by rw [h3]; exact b) Sg hNg hva ?_ (c := c) (P := P) (by rw [h5, h4]; exact L0.tab) hcode (by rw [hq]; exact L0.mem) (by rw [hq]; exact L0.one) (hr.mono hk) L hdef hbind hbody hdb hd hcd
  have hG' := hG f cdv X.A X.stack fun env => by
    have hr' : Room (k - 1 + 1) X.A := by rw [show k - 1 + 1 = k by omega]; exact hr
    exact hr'.deeper env
  rw [eE, ← hq] at hG'
  exact hG'
/-! ### a tuple, so many times -/
theorem tuple_mul1 (l : Addr) (items : Array Value) (n : Nat) (dd : Option Addr) (sl : Array (Option Value)) (u : Tok) :
    Meets (Builtin.«tuple.__mul__» ⟨[.ref l, .int 1 u], []⟩) (fun _ R s => s.heap.get? l = some { cls := .type "tuple", dict := dd, data := .seq items n, slots := sl } ∧ R (.ok (.ret (Value.ref l))) s) :=
  .of_wp fun prog w A R s h => by
    obtain ⟨hp, g, d, tk, os⟩ := s
    obtain ⟨hl, h⟩ := h
    have f1 := AutoSeq1.idx_int
    wp_walk using wpAny_loadPart' hl
    exact ⟨_, rfl, h⟩
def rMulTD : R2 := fun x y H Q => ∃ l k, DaAt H x (.tup l) ∧ y = .int k ∧ l ≠ [] ∧ 1 ≤ k ∧ k ≤ 1000 ∧ l.length ≤ 1000 ∧ ∀ v H', Same H H' → DaAt H' v (.tup (List.replicate k.toNat l).flatten) → Q v H'
theorem das_rep {H : Hp} {vs : List V} {ds : List Da} (h : DasAt H vs ds) : ∀ n : Nat, DasAt H (List.replicate n vs).flatten (List.replicate n ds).flatten
  | 0 => .nil
  | n + 1 => by
    rw [List.replicate_succ, List.replicate_succ, List.flatten_cons, List.flatten_cons]
    exact h.append (das_rep h n)
theorem op_mulT {X : Cx} : OpR X (binaryOp .Mult) rMulTD := by
  intro pins s σ H x y v u Q I rx ry h
  obtain ⟨l, k, hx, rfl, hne, h1, h2, hz, q⟩ := h
  obtain ⟨a, vs, rfl, ha, hvs⟩ := id hx.tup_inv
  have hvl := hvs.length
  by_cases hk : k = 1
  · subst hk
    cases rx
    obtain ⟨t, rfl⟩ := ry
    obtain ⟨its, r, ⟨⟨cls, dd, data, sl⟩, ho, hc, n, hd⟩, hs⟩ := I.tuple (SqT.of ha)
    simp only at hc hd
    subst hc hd
    refine wpAny_binaryOp_repeat_ref (T := "tuple") (U := "int") (by decide) ⟨_, ho, rfl⟩ (fun s' => typeIs_int s' 1 t) noFill_tuple_mul F.fills_int_mul F.slot_int_rmul repeat_tuple F.slot_int_index.lookup
      (call_meets F.slot_int_rmul (typeIs_int s 1 t) F.entry_int_rmul (F.args_int_rmul_2 _ _) (int_rmul_tuple 1 t a its.toArray n dd sl)
        ⟨ho, rfl, ⟨_, ho, rfl⟩, call_meets F.slot_tuple_mul ⟨_, ho, rfl⟩ F.entry_tuple_mul (F.args_tuple_mul_2 _ _) (tuple_mul1 a its.toArray n dd sl t) ⟨ho, ?_⟩⟩)
    refine ⟨.ref a, H, I.tok _, rfl, q _ _ (Same.refl _) ?_⟩
    rw [show (1 : Int).toNat = 1 from rfl, List.replicate_succ, List.replicate_zero, List.flatten_cons, List.flatten_nil, List.append_nil]
    exact hx
  · refine op_repT pins s σ H _ _ v u Q I rx ry ⟨a, k, vs, rfl, rfl, SqT.of ha, fun z => hne (by rw [z] at hvl; exact List.eq_nil_of_length_eq_zero hvl.symm), by omega, h2, by omega, fun p hp => q _ _ (same_new hp _) (DaAt.tup upd_same ?_)⟩
    exact DasAt.mono (TX.of_same (same_new hp _)) (das_rep hvs _)
end AB

set_option Elab.async false
set_option linter.all false
set_option maxRecDepth 100000
set_option maxHeartbeats 4000000
namespace AB
open PySem PySem.Spec PyProof.Rows L2
/-! ### set(l), l a list of ints; its members can be walked -/
section
variable {P : Program} {w : World} {A : Around} {E : Value → Shared → Prop} {s : Shared}
abbrev newSet (w : World) : Obj := { cls := .type "set", dict := none, data := .set #[] 0 (.fresh 0 0 (!w.params.followText "set-order")) }
set_option maxHeartbeats 3200000 in
theorem set_list_run {l : Addr} {items : Array Value} (ns : List Int) {Q : Value → Shared → Prop} (hh : A.handled = none) (hl : s.heap.IsList l items) (hit : IntsAre items.toList ns) (hb : ns.length + 1 < scanBound)
    (q : ∀ (h' : Heap) (tk c : Nat), SetR w h' s.heap.objs.size (fun j => decide (j ∈ ns)) c → c ≤ ns.length → (∀ b o, s.heap.get? b = some o → h'.get? b = some o) → Q (.ref s.heap.objs.size) { s with heap := h', toks := tk }) :
    wpAny (model P w) A (call (.type "set") [.ref l]) Q E s := by
  have isz : items.size = ns.length := by
    have := IntsAre.length hit
    rwa [Array.length_toList] at this
  have hset := F.called_set
  obtain ⟨c, tl, hmro⟩ := hset.mro
  have m1 := hset.made
  have m2 := hset.sub
  have m3 := hset.notType
  have m4 := hset.canCreate
  have m5 := F.typeCall_set_1 (.ref l)
  refine wpAny_call (codeAny_of_tree ?_)
  show wpAny _ _ (callAny (.type "set") _) _ _ _
  refine wpAny_pure ⟨Code.quiet_builtin _ (by decide +kernel), codeAny_builtin F.entry_type_call ?_⟩
  rw [Around.under_plain (weight_type_call_type "set" [.ref l] []) rfl]
  repeat (any_goals (first | assumption | wp_step))
  refine codeAny_mono (code_set_led1 (.ref l) (E := E) (Q₁ := fun v s1 => v = .ref s.heap.objs.size ∧ s1 = { s with heap := s.heap.push (newSet w) }) ⟨rfl, rfl⟩) fun r s1 hr => ?_
  match r, hr with
  | .error e, hr => exact hr
  | .ok .next, hr => exact hr.elim
  | .ok .brk, hr => exact hr.elim
  | .ok .cont, hr => exact hr.elim
  | .ok (.ret v), ⟨e1, e2⟩ =>
    subst e1 e2
    have gS : (s.heap.push (newSet w)).get? s.heap.objs.size = some (newSet w) := Heap.get?_push_size _ rfl
    have tS : Shared.TypeIs { s with heap := s.heap.push (newSet w) } (.ref s.heap.objs.size) "set" := ⟨_, gS, rfl⟩
    have i1 := hset.init.lookup
    have i2 := hset.init.bind (.ref s.heap.objs.size)
    repeat (any_goals (first | assumption | wp_step))
    refine codeAny_mono (codeAny_call_builtin (R := wants (fun r s2 => r = .none ∧ ∃ h' tk c, s2 = { s with heap := h', toks := tk } ∧ SetR w h' s.heap.objs.size (fun j => decide (j ∈ ns)) c ∧ c ≤ ns.length ∧ (∀ b o, s.heap.get? b = some o → h'.get? b = some o)) E)
      hset.init.plain F.entry_set_init (check_set_init_1 tS ?_)) fun r2 s2 h2 => ?_
    · obtain ⟨⟨oc, od, dat, sl⟩, ho, hc, n, hd⟩ := hl
      simp only at hc hd
      subst hc hd
      have hl1 : (s.heap.push (newSet w)).IsList l items := ⟨_, Heap.get?_push_of_some _ ho, rfl, n, rfl⟩
      have ho1 : (s.heap.push (newSet w)).get? l = some { cls := .type "list", dict := od, data := .seq items n, slots := sl } := Heap.get?_push_of_some _ ho
      have k1 := F.sub_list_set
      have k2 := F.sub_list_frozenset
      have k3 : (Value.type "list" == Value.type "dict") = false := by decide
      unfold Builtin.«set.__init__» noKeywords Builtin.Frozenset.updateFrom
      generalize hPI : pyIter = PI
      wp_walk
      subst hPI
      refine wpAny_pyIter_list hl1 ?_
      refine wpAny_bind (wpAny_runValue ?_)
      have lS : l < s.heap.objs.size := Heap.lt_size ho
      have hh3 : A.in1.in1.in1.handled = none := by simp [hh]
      have zI : (s.heap.push (newSet w)).objs.size = s.heap.objs.size + 1 := Heap.size_push ..
      have nI : l ≠ (s.heap.push (newSet w)).objs.size := by rw [zI]; exact Nat.ne_of_lt (Nat.lt_succ_of_lt lS)
      have nS : s.heap.objs.size ∉ [(s.heap.push (newSet w)).objs.size, l] := by
        rw [zI]
        intro z
        simp only [List.mem_cons, List.not_mem_nil, or_false] at z
        rcases z with z | z
        · exact absurd z (Nat.ne_of_lt (Nat.lt_succ_self _))
        · exact absurd z (Nat.ne_of_gt lS)
      have val : ∀ (i : Nat) (v : Value), items[i]? = some v → ∃ k t, ns[i]? = some k ∧ v = .int k t := fun i v hv => by
        have hi : i < ns.length := by rw [← isz]; exact (Array.getElem?_eq_some_iff.mp hv).1
        obtain ⟨t, e⟩ := IntsAre.int_at hit i v (by rw [Array.getElem?_toList]; exact hv)
        exact ⟨ns[i], t, List.getElem?_eq_getElem hi, by rw [e, List.getD_eq_getElem?_getD, List.getElem?_eq_getElem hi]; rfl⟩
      refine set_update_ints ((Walks.list hh3 _ l nI items).toS) s.heap.objs.size nS ns isz hb val (items.size - 0) 0 _ (by omega) (Nat.zero_le _) ⟨⟨_, Heap.get?_push_size _ rfl, rfl, rfl⟩, (hl1.push _)⟩ ?h0 ?hR
      case h0 => exact ⟨0, Nat.le_refl 0, setR_new_at (Heap.get?_push_of_some _ gS)⟩
      case hR =>
        intro s' c' hm hc' hS'
        obtain ⟨h', g2, d', tk', os'⟩ := s'
        have eg : g2 = s.gens := hm.gens
        have ed : d' = s.drawn := hm.drawn
        have eo : os' = s.os := hm.os
        subst eg ed eo
        show wpAny _ _ _ _ _ _
        refine wpAny_pure ?_
        show wpAny _ _ (ret Value.none) _ _ _
        rw [isz] at hc'
        refine wpAny_pure ⟨rfl, h', tk', c', rfl, hS', hc', fun b o e => ?_⟩
        have b0 : b < s.heap.objs.size := Heap.lt_size e
        refine hm.heap b o (fun z => ?_) (Heap.get?_push_of_some _ (Heap.get?_push_of_some _ e))
        simp only [List.mem_cons, List.not_mem_nil, or_false] at z
        rw [zI] at z
        rcases z with z | z
        · exact absurd z (Nat.ne_of_lt b0)
        · exact absurd z (Nat.ne_of_lt (Nat.lt_succ_of_lt b0))
    · match r2, h2 with
      | .error e, h2 => exact h2
      | .ok .next, h2 => exact h2.elim
      | .ok .brk, h2 => exact h2.elim
      | .ok .cont, h2 => exact h2.elim
      | .ok (.ret r), ⟨e1, h', tk, c', e2, hS', hc', hk'⟩ =>
        subst e1 e2
        repeat (any_goals (first | assumption | wp_step))
        exact q _ _ _ hS' hc' hk'
end
def rSetLI (K : PySem.W.Frag) (w : World) : List V → Hp → VK → Prop := fun xs H Q => ∃ (l : Addr) (ns : List Int), xs = [.ref l] ∧ SqL K H l (ns.map V.int) ∧ ns.length ≤ 4000 ∧ ∀ p n, H p = none → n ≤ ns.length → Q (.ref p) (upd H p (SetO w p (fun j => decide (j ∈ ns)) n))
theorem cr_setLI {e : Ev} {X : Cx} (hc : X.calm = true) (hX : Of e X := by exact ⟨rfl, rfl, rfl, rfl, rfl⟩) : CallR X (.type "set") (rSetLI e.K e.w) := by
  rw [← hX.K, ← hX.w]
  intro pins s σ H xs us Q I r h
  obtain ⟨l, ns, rfl, hq, hl, q⟩ := h
  obtain rfl := Vals.ref1 r
  obtain ⟨its, rv, pl, hz⟩ := I.list hq
  refine set_list_run ns (I.ok.hd hc) pl.isList (by simpa using intsAre_of rv) (by unfold scanBound; omega) fun h' tk c hS hcl hk => ?_
  exact ⟨.ref _, _, I.laid (t' := tk) hk (Nat.le_refl _) (setO_new hS), rfl, q _ _ (I.hok.fresh (Nat.le_refl _)) hcl⟩
theorem cr_sortedSetE {e : Ev} {X : Cx} (hc : X.calm = true) (hX : Of e X := by exact ⟨rfl, rfl, rfl, rfl, rfl⟩) : CallR X (.builtin "sorted") (rSortedSet e.w) := by
  rw [← hX.w]
  exact cr_sortedSet hc
end AB

set_option Elab.async false
set_option linter.all false
set_option maxRecDepth 100000
set_option maxHeartbeats 4000000
namespace AB
open PySem PySem.Spec PyProof.Rows L2
/-! ### sorted(l), l a list of data -/
theorem dataLe_blt {β : Type} (k : β → PyData) (a b : β) : PySem.W.dataLe false k a b = !PySem.W.dataLt (k b) (k a) := rfl
theorem dataLe_trans {β : Type} (k : β → PyData) (a b c : β) (h1 : PySem.W.dataLe false k a b = true) (h2 : PySem.W.dataLe false k b c = true) : PySem.W.dataLe false k a c = true := by
  rw [dataLe_blt] at h1 h2 ⊢
  rw [Bool.not_eq_true'] at h1 h2 ⊢
  cases h : PySem.W.dataLt (k c) (k a) with
  | false => rfl
  | true =>
    rcases lex_negTrans (O := itemOrd) (PySem.W.keyToks (k c)) (PySem.W.keyToks (k b)) (PySem.W.keyToks (k a)) h with z | z
    · rw [show PySem.W.dataLt (k c) (k b) = true from z] at h2; cases h2
    · rw [show PySem.W.dataLt (k b) (k a) = true from z] at h1; cases h1
theorem dataLe_total {β : Type} (k : β → PyData) (a b : β) : (PySem.W.dataLe false k a b || PySem.W.dataLe false k b a) = true := by
  rw [dataLe_blt, dataLe_blt]
  cases h1 : PySem.W.dataLt (k b) (k a) with
  | false => rfl
  | true =>
    cases h2 : PySem.W.dataLt (k a) (k b) with
    | false => rfl
    | true =>
      have z := lex_trans (O := itemOrd) _ _ _ h1 h2
      rw [lex_irrefl (O := itemOrd)] at z
      cases z
def sortD (ds : List Da) : List Da := ds.mergeSort (PySem.W.dataLe false Da.py)
theorem sortD_sort (ds : List Da) : sortD (sortD ds) = sortD ds := List.mergeSort_of_pairwise (List.pairwise_mergeSort (dataLe_trans _) (dataLe_total _) ds)
theorem sortD_perm (ds : List Da) : (sortD ds).Perm ds := List.mergeSort_perm _ _
theorem das_pairs {H : Hp} : ∀ {cs : List (V × Da)}, (∀ c ∈ cs, DaAt H c.1 c.2) → DasAt H (cs.map (·.1)) (cs.map (·.2))
  | [], _ => .nil
  | c :: r, h => .cons (h c (by simp)) (das_pairs fun x hx => h x (by simp [hx]))
theorem das_zip {H : Hp} : ∀ {ds : List Da} {vs : List V}, DasAt H vs ds → (∀ c ∈ vs.zip ds, DaAt H c.1 c.2) ∧ (vs.zip ds).map (·.1) = vs ∧ (vs.zip ds).map (·.2) = ds
  | [], vs, h => by
    obtain rfl := h.nil_inv
    exact ⟨fun c hc => by simp at hc, rfl, rfl⟩
  | t :: ts, vs, h => by
    obtain ⟨v, r, rfl, hv, hr⟩ := h.cons_inv
    obtain ⟨h1, h2, h3⟩ := das_zip hr
    refine ⟨fun c hc => ?_, by simp [h2], by simp [h3]⟩
    rcases List.mem_cons.mp (show c ∈ (v, t) :: r.zip ts from hc) with rfl | hc
    · exact hv
    · exact h1 c hc
theorem vals_eachD : ∀ {cs : List (V × Da)} {us : List Value}, Vals (cs.map (·.1)) us → PySem.W.EachIs (fun v (p : V × Da) => RelV p.1 v) us cs
  | [], _, .nil => .nil
  | _ :: _, _, .cons h t => .cons h (vals_eachD t)
theorem each_valsD : ∀ {cs : List (V × Da)} {us : List Value}, PySem.W.EachIs (fun v (p : V × Da) => RelV p.1 v) us cs → Vals (cs.map (·.1)) us
  | [], _, .nil => .nil
  | _ :: _, _, .cons h t => .cons h (each_valsD t)
theorem each_mem {α : Type} {R S : Value → α → Prop} : ∀ {us : List Value} {cs : List α}, PySem.W.EachIs R us cs → (∀ u c, c ∈ cs → R u c → S u c) → PySem.W.EachIs S us cs
  | _, _, .nil, _ => .nil
  | _, _, .cons h t, k => .cons (k _ _ (by simp) h) (each_mem t fun u c hc => k u c (by simp [hc]))
/-- alike data, to be sorted -/
structure Sorty (ds : List Da) : Prop where
  al : PySem.W.AllAlike (ds.map Da.py)
  so : PySem.W.Sortable (ds.map Da.py)
  dp : ∀ d ∈ ds, d.depth ≤ 60
def rSortD : List V → Hp → VK → Prop := fun xs H Q => ∃ (l : Addr) (ds : List Da), xs = [.ref l] ∧ LD H l ds ∧ Sorty ds ∧ ds.length ≤ 1000000 ∧ ∀ p H', H p = none → Same H H' → LD H' p (sortD ds) → Q (.ref p) H'
theorem cr_sortD {X : Cx} (hu : X.A.units + 64 < cLine) : CallR X (.builtin "sorted") rSortD := by
  intro pins s σ H xs us Q I r h
  obtain ⟨l, ds, rfl, hl, hs, hz, q⟩ := h
  obtain rfl := Vals.ref1 r
  obtain ⟨vs, hvs, hD⟩ := id hl
  obtain ⟨its, rv, hli, hz'⟩ := I.list (SqL.of hvs)
  obtain ⟨z1, z2, z3⟩ := das_zip hD
  obtain ⟨cs, ecs⟩ : ∃ cs, cs = vs.zip ds := ⟨_, rfl⟩
  rw [← ecs] at z1 z2 z3
  have e1 : PySem.W.EachIs (fun v (p : V × Da) => RelV p.1 v) its cs := vals_eachD (by rw [z2]; exact rv)
  have er : PySem.W.EachIs (fun v (p : V × Da) => ∃ as, Reads s.heap v p.2.py as) its cs := each_mem e1 fun u c hc hr => Dp.reads I _ _ _ (DaAt.dp (z1 c hc)) hr
  have em : (cs.map fun p => p.2.py) = ds.map Da.py := by rw [← z3, List.map_map]; rfl
  have ecl : cs.length = ds.length := by rw [← z3, List.length_map]
  have hls := sizeLine_eq
  refine PySem.W.sorted_data (enc := fun p : V × Da => p.2.py) (bs := cs) hli.isList e1 er (by rw [em]; exact hs.al) (by rw [em]; exact hs.so) (by omega) (fun b hb => ?_) fun out ho eo => ?_
  · have : b.2 ∈ ds := by rw [← z3]; exact List.mem_map_of_mem hb
    have := hs.dp _ this
    rw [Da.py_depth]
    omega
  have ro := each_valsD eo
  have ep : (cs.mergeSort (PySem.W.dataLe false fun p : V × Da => p.2.py)).map (·.2) = sortD ds := by
    have := List.map_mergeSort (f := fun c : V × Da => c.2) (r := PySem.W.dataLe false fun p : V × Da => p.2.py) (s := PySem.W.dataLe false Da.py) (l := cs) fun _ _ _ _ => rfl
    rw [z3] at this
    exact this
  obtain ⟨c, hc⟩ := sortedAll_at s.heap its out.toArray
  have n1 : s.heap.objs.size ≤ s.heap.objs.size + 1 := Nat.le_succ _
  have hn : H (s.heap.objs.size + 1) = none := I.hok.fresh n1
  have hlen : ((cs.mergeSort (PySem.W.dataLe false fun p : V × Da => p.2.py)).map (·.1)).length ≤ sizeLine := by
    rw [List.length_map, List.length_mergeSort]; omega
  have I2 : L2.Inv X pins σ (upd H (s.heap.objs.size + 1) (.lst ((cs.mergeSort (PySem.W.dataLe false fun p : V × Da => p.2.py)).map (·.1)))) { s with heap := sortedAll s.heap its out.toArray, toks := s.toks } :=
    I.laid (fun b u q => sortedAll_old q) n1 ⟨hlen, out, _, ro, hc⟩
  refine ⟨.ref _, _, I2, rfl, q _ _ hn (same_new hn _) ⟨_, upd_same, ?_⟩⟩
  have := das_pairs (H := upd H (s.heap.objs.size + 1) (.lst ((cs.mergeSort (PySem.W.dataLe false fun p : V × Da => p.2.py)).map (·.1)))) (cs := cs.mergeSort (PySem.W.dataLe false fun p : V × Da => p.2.py)) fun c hc => (z1 c ((List.mergeSort_perm _ _).mem_iff.mp hc)).mono (TX.of_same (same_new hn _))
  rw [ep] at this
  exact this
end AB

set_option Elab.async false
set_option linter.all false
set_option maxRecDepth 100000
set_option maxHeartbeats 4000000
namespace AB
open PySem PySem.Spec PyProof.Rows L2
/-! ### sorted(found), a set of ints, any number of members -/
section
variable {P : Program} {w : World} {A : Around} {E : Value → Shared → Prop} {s : Shared} {a : Addr}
theorem sorted_setN {S : Int → Bool} {n : Nat} {Q : Value → Shared → Prop} (R : SetR w s.heap a S n) (hh : A.handled = none) (h64 : n ≤ 1000000)
    (hQ : ∀ s' p (out : Array Value) (c : Nat) (ns : List Int), (∀ b o, s.heap.get? b = some o → s'.heap.get? b = some o) → s'.gens = s.gens → s'.os = s.os → s.heap.objs.size ≤ p →
      s'.heap.get? p = some (seqObj "list" out c) → IntsAre out.toList ns → ns.Pairwise (· < ·) → (∀ k, k ∈ ns ↔ S k = true) → ns.length = n → Q (.ref p) s') :
    wpAny (model P w) A (call (.builtin "sorted") [.ref a]) Q E s := by
  obtain ⟨o, es, ep, t, ho, hex, hd, g, nd, hm, hb, hf, hn, hr, hl⟩ := R
  refine Calls.call_function_entry kind_sorted plain_sorted entry_sorted (args_sorted1 _) ?_
  unfold Builtin.«sorted»
  refine wpAny_bind (m := checkCount "sorted" 1 1 _) (wpAny_pure ?_)
  refine wpAny_bind (collect_set (A := A.in1) hh ⟨o, ho, hex.1, hd⟩ hf hb hr hl fun s1 vs k1 hz g1 o1 pm => ?_)
  have hvl : vs.length = n := by rw [pm.length_eq, List.length_map, Array.length_toList]; exact hn
  have hI : IntsAre vs (vs.map Builtin.Re.reRawOf) := ints_of vs fun v hv => by
    obtain ⟨e, he, q⟩ := List.mem_map.mp (pm.mem_iff.mp hv)
    obtain ⟨k, tk, h1, _⟩ := g e he
    exact ⟨k, tk, by rw [← q]; exact h1⟩
  have pk : (vs.map Builtin.Re.reRawOf).Perm (es.toList.map keyOf) := by
    have q := pm.map Builtin.Re.reRawOf
    rw [List.map_map] at q
    exact q
  refine wpAny_bind (wpAny_newList ?_ (by rw [hvl, sizeLine_eq]; omega))
  have hoL : (s1.heap.push (seqObj "list" vs.toArray 0)).get? s1.heap.objs.size = some (seqObj "list" vs.toArray 0) := Heap.get?_push_size _ rfl
  refine wpAny_bind (wpAny_holding (wpAny_call_entry slot_list_sort ⟨_, hoL, rfl⟩ entry_list_sort (SrtO.list_sort_ord SrtO.swo_int hoL (by rw [hvl, sizeLine_eq]; omega) (fun h2 => SrtO.ints_sortable hI h2) fun out h1 h2 => ⟨_, rfl, ?_⟩) (args_list_sort _)))
  obtain ⟨a1, a2, a3⟩ := SrtO.ints_out hI h1 h2
  obtain ⟨c, hc⟩ := sortedHeap_at (vs := vs) (out := out.toArray) hoL
  have pn : (out.map SrtO.iv).Perm (es.toList.map keyOf) := a2.trans pk
  refine wpAny_pure ⟨_, rfl, hQ _ s1.heap.objs.size out.toArray c (out.map SrtO.iv) (fun b u e => ?_) g1 o1 hz hc (by simpa using a1) (lt_of_le_nodup _ a3 (pn.nodup_iff.mpr nd)) (fun k => by rw [pn.mem_iff, ← hm k]) ?_⟩
  · have q := k1 b u e
    have hlt := Heap.lt_size q
    show (sortedHeap (s1.heap.push (seqObj "list" vs.toArray 0)) s1.heap.objs.size vs out.toArray).get? b = some u
    rw [sortedHeap_old (Nat.ne_of_lt hlt) (by rw [size_push']; exact Nat.lt_succ_of_lt hlt)]
    exact Heap.get?_push_of_some _ q
  · rw [pn.length_eq, List.length_map, Array.length_toList]; exact hn
end
def rSortedSetN (w : World) : List V → Hp → VK → Prop := fun vs H Q => ∃ (a : Addr) (S : Int → Bool) (n : Nat), vs = [V.ref a] ∧ H a = some (SetO w a S n) ∧ n ≤ 1000000 ∧
  ∀ (ns : List Int) (p : Addr), ns.Pairwise (· < ·) → (∀ k : Int, k ∈ ns ↔ S k = true) → ns.length = n → H p = none → Q (.ref p) (upd H p (.lst (ns.map V.int)))
theorem cr_sortedSetN {e : Ev} {X : Cx} (hc : X.calm = true) (hX : Of e X := by exact ⟨rfl, rfl, rfl, rfl, rfl⟩) : CallR X (.builtin "sorted") (rSortedSetN e.w) := by
  rw [← hX.w]
  intro pins s σ H vs us Q I r h
  obtain ⟨a, S, n, rfl, ha, h64, q⟩ := h
  have R := setO_get I ha
  rw [Vals.ref1 r]
  refine sorted_setN R (I.ok.hd hc) h64 fun s' p out c ns k g o hp hg hi hs hm hl => ?_
  have hlen : (ns.map V.int).length ≤ sizeLine := by rw [List.length_map, hl, sizeLine_eq]; omega
  have hn : H p = none := I.hok.fresh hp
  have J : L2.Inv X pins σ (upd H p (.lst (ns.map V.int))) { s with heap := s'.heap, gens := s'.gens, drawn := s'.drawn, toks := s'.toks } :=
    I.call (ch := []) (L2.Un.laid k hp hn) (I.hok.laid k hp ⟨hlen, out.toList, c, vals_of_ints hi, hg⟩) (by rw [g]; exact I.bare) (fun _ z => nomatch z)
  have e : s' = { s with heap := s'.heap, gens := s'.gens, drawn := s'.drawn, toks := s'.toks } := by
    cases s'
    cases s
    cases o
    rfl
  rw [e]
  exact ⟨.ref p, _, J, rfl, q ns p hs hm hl hn⟩
end AB

set_option Elab.async false
set_option linter.all false
set_option maxRecDepth 100000
set_option maxHeartbeats 4000000
namespace AB
open PySem PySem.Spec PyProof.Rows L2
def top (i : Nat) : Stmt := PySem.Challenge.pw_alikeboard_k21_book.main.body.getD i (.Pass ⟨0, 0, 0, 0⟩)

/-! ### a comprehension whose element may raise -/
theorem sky_held {M : Model} {A : Around} {E₁ : Value → Shared → Prop} {s : Shared} {B : Heap} {env : Env} {outer : List Env} {L a : Addr} {Z : Obj → Prop} {Q : Unit → Shared → Prop} (hZ : HandSPX.Steady Z) (hfr : A.frames = some (env :: outer)) (hf : env.frame = some L)
    (x : Sky B (env :: outer) a Z L s.heap) (hQ : ∀ h', HandSPX.HeldZ B (env :: outer) a Z L h' → s.heap.UpToSlots h' → Q () { s with heap := h' }) : wpAny M A (noteFrame (.ref a) env) Q E₁ s := by
  rcases x with ⟨hB, hn, hl, oe, vs, he, hz, hd, h1⟩ | fl | hh
  · exact HandSPX.look_newZ hZ hfr hl hf he hB hn hd h1 hz hQ
  · exact HandSPX.looks_onZ hZ hfr hf fl hQ
  · exact HandSPX.againZ hf hh.2.2.2 (hQ s.heap hh (Heap.UpToSlots.refl _))
theorem noteFrame_frame {u : Value} {e1 e2 : Env} (h : e1.frame = e2.frame) : noteFrame u e1 = noteFrame u e2 := by
  unfold noteFrame PySem.frameOf
  rw [h]
theorem pass_held {M : Model} {A : Around} {E₁ : Value → Shared → Prop} {α : Type} {s : Shared} {B : Heap} {env : Env} {l : List Env} {L a : Addr} {Z : Obj → Prop} {Q : α → Shared → Prop} {w : String} (hf : env.frame = some L)
    (x : HandSPX.HeldZ B l a Z L s.heap) (hQ : ∀ h', HandSPX.HeldZ B l a Z L h' → s.heap.UpToSlots h' → E₁ (.ref a) { s with heap := h' }) : wpAny M A (PySem.passOn w (.ref a) env : Sem α) Q E₁ s := by
  obtain ⟨k1, k2, k3, oe, vs, T, oT, ts, he, hz, hd, h1, hnT, hTe, hT, hdT, h3⟩ := id x
  unfold PySem.passOn
  refine wpAny_bind (wpAny_field he hd h1 ?_)
  rw [if_neg (by simp)]
  rw [hf]
  refine wpAny_bind (HandSPX.setFlight_onZ x fun h' hh up => ?_)
  exact wpAny_throw (hQ h' hh up)
theorem comp_fails {X : Cx} {W : WX} {pins : List (Addr × Obj)} {σ : St} {H0 : Hp} {s0 s' : Shared} {C : Addr} {m : Str → Option Value} {cenv : Env} {u : Value} {E₁ : Value → Shared → Prop}
    (I : Inv X pins σ H0 s0) (hs : X.stack = X.env :: X.outer) (hf : X.env.frame = some X.env.locals) (tk : Takes X W) (fC : FpOk X pins H0 C) (hC : s0.heap.Ns C m) (hcl : cenv.locals = C) (hcf : cenv.frame = X.env.frame)
    (c : L2.CX X.prog X.w X.stack H0 s0 (fun cls d H' => W cls d σ H') u s') :
    wpAny (model X.prog X.w) X.A (noteFrame u cenv) (fun _ s'' => CompFails (model X.prog X.w) X.A X.xe cenv u s'') E₁ s' := by
  obtain ⟨fC1, fC2, fC3, fC4, fC5, fC6⟩ := fC
  obtain ⟨oC, es, ep, gC, dC, kC, nC⟩ := hC
  have nfr : C ∉ frs X.stack := fun hm => by
    rcases List.mem_cons.mp (I.stkSub C hm) with z | z
    · exact fC2 z
    · exact fC3 z
  obtain ⟨a, B, H', cls, d, rfl, fl, hok, ub, na, os, ag, hE⟩ := c
  have gC' : s'.heap.get? C = some oC := fl.1 _ _ (ub.keep C oC gC fC1 nfr)
  have c' : L2.CX X.prog X.w X.stack H0 s0 (fun cls d H' => W cls d σ H' ∧ H' C = none) (.ref a) s' := ⟨a, B, H', cls, d, rfl, fl, hok, ub, na, os, ag, hE, ub.free C oC gC fC1⟩
  obtain ⟨a', B', sI, pins', σ', H2, cls', d', ea, I2, nb, up, sky, na2, os2, ag2, w2, hc2⟩ := XE.of_call (W := fun cls d σ H => W cls d σ H ∧ H C = none) I (fun _ _ _ h => h) c'
  injection ea with ea
  subst ea
  rw [noteFrame_frame hcf]
  have hfr : X.A.frames = some (X.env :: X.outer) := by rw [I2.ok.frames, hs]
  rw [hs] at sky
  refine sky_held Zc.steady hfr hf sky fun h1 held up1 => ?_
  have nf : ∀ vs, oC.data ≠ .fields vs := fun vs z => by rw [dC] at z; cases z
  obtain ⟨sl, g1⟩ := up1 C oC gC' nf
  refine ⟨m, by rw [hcl]; exact ⟨_, es, ep, g1, dC, kC, nC⟩, fun h' m' hn' sb => ?_⟩
  rw [hcl] at hn' sb
  obtain ⟨k1, k2, k3, oe, vs, T, oT, ts, he, hz, hd, hv1, hnT, hTe, hT, hdT, h3⟩ := held
  have aC : a ≠ C := fun z => by rw [z] at he; rw [g1] at he; cases he; exact nf _ hd
  have TC : T ≠ C := fun z => by rw [z] at hT; rw [g1] at hT; cases hT; exact nf _ hdT
  have hid : ∀ {h : Heap} {b : Addr} {o : Obj}, (PySem.W.hideAll h [C]).get? b = some o → b ≠ C ∧ h.get? b = some o := fun {h b o} e => by
    refine ⟨fun z => ?_, PySem.W.of_hideAll _ e⟩
    have e0 : (PySem.W.hideAll h [C]).get? C = none := PySem.W.hideAll_none [C] (by simp)
    rw [z, e0] at e
    cases e
  have I3 : Inv X [] σ' H2 { sI with heap := PySem.W.hideAll sI.heap [C], toks := sI.toks } := (Inv.unpinned (pins := []) (pl := pins') I2).turned (it := C) (fun b o hb e => PySem.W.hideAll_get _ e (by simpa using hb)) hc2 fC2 fC4 fC5 fun p hp => fC6 p (by
    rcases List.mem_append.mp hp with h | h
    · exact List.mem_append_left _ h
    · cases h)
  have go1 : ∀ b o, b ≠ C → sI.heap.get? b = some o → (∀ vs, o.data ≠ .fields vs) → ∃ sl, h'.get? b = some { o with slots := sl } := fun b o hb e hnf => by
    obtain ⟨sl1, e1⟩ := up b o e hnf
    obtain ⟨sl2, e2⟩ := up1 b _ e1 hnf
    exact ⟨sl2, (sb.2 b hb).trans e2⟩
  have held' : HandSPX.HeldZ (PySem.W.hideAll B' [C]) X.stack a (Zc cls' d') X.env.locals h' := by
    refine ⟨fun b o e => ?_, ?_, ?_, oe, vs, T, oT, ts, (sb.2 a aC).trans he, hz, hd, hv1, ?_, hTe, (sb.2 T TC).trans hT, hdT, h3⟩
    · obtain ⟨h1', h2'⟩ := hid e
      exact (sb.2 b h1').trans (k1 b o h2')
    · cases q : (PySem.W.hideAll B' [C]).get? a with
      | none => rfl
      | some o => rw [(hid q).2] at k2; cases k2
    · refine Heap.FunFrames.of_keeps (fun b o e hnf => ?_) (funFrames_none I3.stack fun b hb => ?_)
      · obtain ⟨h1', h2'⟩ := hid e
        obtain ⟨sl, e1⟩ := go1 b o h1' h2' hnf
        exact ⟨_, e1, rfl⟩
      · cases q : (PySem.W.hideAll B' [C]).get? b with
        | none => rfl
        | some o =>
          rw [hs] at hb
          have := (k3.mem hb).1
          rw [(hid q).2] at this
          cases this
    · cases q : (PySem.W.hideAll B' [C]).get? T with
      | none => rfl
      | some o => rw [(hid q).2] at hnT; cases hnT
  refine pass_held (hcf.trans hf) held' fun h2 held2 up2 => ?_
  refine tk _ _ ⟨a, PySem.W.hideAll B' [C], _, [], σ', H2, cls', d', rfl, I3, fun b o e hb => ?_, fun b o e hnf => ?_, .inr (.inr held2), na2, os2, ag2, w2⟩
  · obtain ⟨h1', h2'⟩ := hid e
    exact PySem.W.hideAll_get _ (nb b o h2' hb) (by simpa using h1')
  · obtain ⟨h1', h2'⟩ := hid e
    obtain ⟨sl, e1⟩ := go1 b o h1' h2' hnf
    obtain ⟨sl2, e2⟩ := up2 b { o with slots := sl } e1 hnf
    exact ⟨sl2, e2⟩
/-- what the block lets out: a call's exception -/
def BX (X : Cx) (W : WX) (σ : AB.St) (Xb : Cx) : Value → Shared → Prop := fun u s' => ∃ (pins' : List (Addr × Obj)) (σ' : AB.St) (H0 : Hp) (s0 : Shared), L2.Inv Xb pins' σ' H0 s0 ∧ L2.CX X.prog X.w X.stack H0 s0 (fun cls d H' => W cls d σ H') u s'
theorem bx_passes {X Xb : Cx} {W : WX} {σ : AB.St} (h1 : Xb.prog = X.prog) (h2 : Xb.w = X.w) (h3 : Xb.stack = X.stack) (σ' : AB.St) : PassesAt (L2.CX (Xb.wish (BX X W σ Xb)).prog (Xb.wish (BX X W σ Xb)).w) (Xb.wish (BX X W σ Xb)) σ' (fun cls d H' => W cls d σ H') := fun pins H s e s' I c => by
  refine ⟨pins, σ', H, s, I.unwish, ?_⟩
  rw [← h1, ← h2, ← h3]
  exact c
theorem lc_coreX {X : Cx} {pins : List (Addr × Obj)} {s : Shared} {σ : AB.St} {H : Hp} {elt tg iter : Expr} {scope : Scope} {own : List (Str × Nat)} {pos : Pos} {wi : TI} {g : TG} {te : TE} {Q : VK} {W : WX}
    (hc : X.calm = true) (hN : X.N.Nodup) (I : L2.Inv X pins σ H s) (hi : PI X tg iter wi) (ok : BlkOk X.N X.env.scope scope own) (hst : X.stack = X.env :: X.outer) (hf : X.env.frame = some X.env.locals) (tk : Takes X W)
    (hg : ∀ (s : Shared) (H : Hp) (C : Addr) (cl : List (Str × Addr)) (fp : List Addr), PG (X.blk s H scope (compEnvC scope cl C X.env) fp) tg g)
    (he : ∀ (s : Shared) (H : Hp) (C : Addr) (cl : List (Str × Addr)) (fp : List Addr), PE ((X.blk s H scope (compEnvC scope cl C X.env) fp).wish (BX X W σ (X.blk s H scope (compEnvC scope cl C X.env) fp))) elt te) (hs : ∀ x, foldedSetIterable iter X.env x = pure x)
    (h : tLc wi g tYes te (own.map (·.2)) σ H Q) :
    wpAny (model X.prog X.w) X.A (eval (.ListComp elt [⟨tg, iter, [], 0⟩] scope pos) X.env) (fun u s' => ∃ v H', L2.Inv X pins σ H' s' ∧ RelV v u ∧ Q v H') X.xe s := by
  rw [eval_ListComp]
  have hfree : ∀ y ∈ scope.names, y.2 = .free → ∃ c, X.env.cells.lookup y.1 = some c := fun y hy e => by
    rcases ok.free y hy e with k | k
    · exact I.ok.has _ (.inl k)
    · exact I.ok.has _ (.inr k)
  refine comprehension_at (use := none) rfl hs (closure_ok hfree) ok.kind (fun y hy e => by rw [ok.uniq y hy, e]) (thn (hi.run pins s σ H _ I h) fun xv s1 hx => thn hx fun itv s2 h2 => ?_)
  obtain ⟨it, fp, tn, J, H2, e, I2, T, st2, f2, q⟩ := h2
  subst e
  refine wpAny_newObj_type (newEnv_comp ?_) (by show 0 ≤ sizeLine; decide)
  generalize hD : s2.heap.objs.size = D
  have hDn : H2 D = none := I2.hok.fresh (Nat.le_of_eq hD)
  obtain ⟨W0, ⟨m0, w0⟩, turn⟩ := q D hDn
  generalize hs3 : ({ s2 with heap := s2.heap.push { cls := .type "list", data := .seq ([] : List Value).toArray } } : Shared) = s3
  have I3 : L2.Inv X pins σ (upd H2 D (.lst [])) s3 := by
    rw [← hs3]
    refine I2.laid (t' := s2.toks) (fun b o e => Heap.get?_push_of_some _ e) (Nat.le_of_eq hD) ⟨Nat.zero_le _, [], 0, .nil, ?_⟩
    rw [← hD]
    exact Heap.get?_push_size _ rfl
  have h3 : s3.heap = s2.heap.push { cls := .type "list", data := .seq ([] : List Value).toArray } := by rw [← hs3]
  have f3 : ∀ b ∈ fp, FpOk X pins (upd H2 D (.lst [])) b ∧ b < s3.heap.objs.size := fun b hb => by
    obtain ⟨o, e, _⟩ := T.obj _ _ st2 b hb
    have hlt := Heap.lt_size e
    refine ⟨⟨?_, (f2 b hb).2⟩, by rw [h3, Heap.size_push]; exact Nat.lt_succ_of_lt hlt⟩
    rw [upd_ne (by rw [← hD]; exact Nat.ne_of_lt hlt)]
    exact (f2 b hb).1
  have st3 : tn 0 s3.heap := T.keep _ _ _ st2 fun b _ o e => by rw [h3]; exact Heap.get?_push_of_some _ e
  have I4 := block_start I3 ok hN f3
  have pg := hg s3 (upd H2 D (.lst [])) s3.heap.objs.size (cellsFrom (s3.heap.objs.size + 1) scope.names (cloFrom X.env.cells scope.names [])) fp
  have pe := he s3 (upd H2 D (.lst [])) s3.heap.objs.size (cellsFrom (s3.heap.objs.size + 1) scope.names (cloFrom X.env.cells scope.names [])) fp
  show codeAny _ _ (.compStart (.ListComp elt [⟨tg, iter, [], 0⟩] scope pos) 0 (.ref it) (.ref D) (compEnvC scope (cellsFrom (s3.heap.objs.size + 1) scope.names (cloFrom X.env.cells scope.names [])) s3.heap.objs.size X.env)) (compEnds (model X.prog X.w) X.A X.xe none _ (.ref D) (compEnvC scope (cellsFrom (s3.heap.objs.size + 1) scope.names (cloFrom X.env.cells scope.names [])) s3.heap.objs.size X.env)) { s3 with heap := pushCells (s3.heap.push { cls := .type "dict", data := .dict #[] }) scope.names }
  have nfp : ∀ b ∈ fp, (upd H2 D (.lst [])) b = none := fun b hb => (f3 b hb).1.1
  generalize hce : compEnvC scope (cellsFrom (s3.heap.objs.size + 1) scope.names (cloFrom X.env.cells scope.names [])) s3.heap.objs.size X.env = ce at I4 pg pe ⊢
  have cL : ce.locals = s3.heap.objs.size := by subst hce; rfl
  have cF : ce.frame = X.env.frame := by subst hce; rfl
  generalize hH3 : upd H2 D (.lst []) = H3 at I3 I4 pg pe w0 nfp f3
  generalize hs4 : ({ s3 with heap := pushCells (s3.heap.push { cls := .type "dict", data := .dict #[] }) scope.names } : Shared) = s4 at I4 ⊢
  have st4 : tn 0 s4.heap := T.keep _ _ _ st3 fun b _ o e => by rw [← hs4]; exact pushCells_keeps _ _ _ _ (Heap.get?_push_of_some _ e)
  have stat : ∀ {σ' : AB.St} {H' : Hp} {s' : Shared}, L2.Inv (X.blk s3 H3 scope ce fp) [] σ' H' s' → (∀ b ∈ fp, H' b = none) → ∀ b ∈ fp, FpOk (X.blk s3 H3 scope ce fp) [] H' b := fun {σ' H' s'} I' hn b hb =>
    ⟨hn b hb, (I'.ok.exf b hb).1, I'.ok.exfs b hb, .inl hb, fun x c e => (I'.ok.exf b hb).2 x c e, fun p hp => absurd (show p ∈ ([] : List (Addr × Obj)) ++ [] from hp) (by simp)⟩
  -- back in the def's context
  have back : ∀ {pins' : List (Addr × Obj)} {σ' : AB.St} {H' : Hp} {s' : Shared}, L2.Inv (X.blk s3 H3 scope ce fp) pins' σ' H' s' → L2.Inv X pins σ H' s' ∧ FpOk X pins H' s3.heap.objs.size ∧ ∃ m, s'.heap.Ns s3.heap.objs.size m := fun {pins' σ' H' s'} I' => by
    have nC : H' s3.heap.objs.size = none := by
      have z : H' ce.locals = none := I'.free
      rw [cL] at z
      exact z
    obtain ⟨m, hn, _⟩ := I'.loc
    have hn : s'.heap.Ns ce.locals m := hn
    rw [cL] at hn
    exact ⟨I3.call' (ch := fp) I'.os I'.base I'.hok I'.bare fun b hb => ⟨(f3 b hb).1.2.2.2.1, (f3 b hb).1.2.1, (f3 b hb).1.2.2.2.2.1, (f3 b hb).1.2.2.2.2.2⟩, I3.fpOk (Nat.le_refl _) nC, m, hn⟩
  have loop : codeAny (model X.prog X.w) X.A (.compLoop (.ListComp elt [⟨tg, iter, [], 0⟩] scope pos) 0 (.ref it) (.ref D) ce) (compEnds (model X.prog X.w) X.A X.xe none (fun u s' => ∃ v H', L2.Inv X pins σ H' s' ∧ RelV v u ∧ Q v H') (.ref D) ce) s4 := by
    refine compLoop_any (fun n s' => ∃ i H', L2.Inv (X.blk s3 H3 scope ce fp) [] (wipe σ (own.map (·.2))) H' s' ∧ tn i s'.heap ∧ (∀ b ∈ fp, H' b = none) ∧ W0 i n H') ?_ m0 ⟨0, H3, I4, st4, nfp, w0⟩
    rintro n s5 ⟨i, H5, I5, st5, n5, w5⟩
    rcases turn i n H5 w5 with ⟨stop, qq⟩ | ⟨go, Nx, hNx, step⟩
    · have td := T.done (X.blk s3 H3 scope ce fp) rfl rfl rfl hc i [] s5 _ H5 (fun _ _ => False) I5 (stat I5 n5) st5 stop
      refine thnF td fun r s6 ⟨hr, I6⟩ => ?_
      subst hr
      obtain ⟨I7, ⟨k0, k1, k2, k3, k4, k5⟩, m, hn⟩ := back I6
      refine ⟨m, by rw [cL]; exact hn, fun h'' sb => ?_⟩
      rw [cL] at sb
      exact ⟨.ref D, H5, I7.turned (t' := s6.toks) (fun b o hb e => (sb.2 b hb).trans e) k0 k1 k3 k4 k5, rfl, qq⟩
    · have ti := T.item (X.blk s3 H3 scope ce fp) rfl rfl rfl hc i [] s5 _ H5 (fun _ _ => False) I5 (stat I5 n5) st5 go
      refine thnF ti fun r s6 ⟨u, hr, h6⟩ => ?_
      subst hr
      refine thnF h6 fun _ s7 ⟨x, H7, I7, r7, y7, st7, n7⟩ => ?_
      have I7' := I7.pinned (stat I7 n7) (T.obj _ _ st7)
      refine thnF (pg.run _ s7 _ H7 x u _ I7' r7 (step x H7 y7)) fun _ s8 ⟨σ8, H8, I8, hw8, q8⟩ => ?_
      have fin : ∀ {s' : Shared} {H' : Hp}, L2.Inv (X.blk s3 H3 scope ce fp) ([] ++ pinsAt fp s7.heap) σ8 H' s' → Nx H' → ∃ m, m < n ∧ ∃ i H', L2.Inv (X.blk s3 H3 scope ce fp) [] (wipe σ (own.map (·.2))) H' s' ∧ tn i s'.heap ∧ (∀ b ∈ fp, H' b = none) ∧ W0 i m H' := fun {s' H'} I' nx => by
        obtain ⟨m', hm, w'⟩ := hNx H' nx
        have pin' : ∀ b ∈ fp, ∀ o, s7.heap.get? b = some o → s'.heap.get? b = some o ∧ H' b = none := fun b hb o e =>
          let z := I'.pin (b, o) (List.mem_append_right _ (List.mem_append_right _ (mem_pinsAt hb e)))
          ⟨z.1, z.2.1⟩
        have hl : (wipe σ (own.map (·.2))).length = σ8.length := by rw [← hw8, wipe_length]
        refine ⟨m', hm, i + 1, H', (I'.unpinned (pins := [])).weak hl (fun j v e => ?_), T.keep _ _ _ st7 fun b hb o e => (pin' b hb o e).1, fun b hb => ?_, w'⟩
        · rw [← hw8] at e
          exact (wipe_some e).1
        · obtain ⟨o, e, _⟩ := T.obj _ _ st7 b hb
          exact (pin' b hb o e).2
      refine thnF (wpAny_tests_nil (A := X.A) (Q := fun b s' => b = true ∧ s' = s8) ⟨rfl, rfl⟩) fun b s9 ⟨hb9, hs9⟩ => ?_
      subst hb9 hs9
      have q9 : te σ8 H8 fun y H4 => ∃ acc, H4 D = some (.lst acc) ∧ acc.length < sizeLine ∧ Nx (upd H4 D (.lst (acc ++ [y]))) := q8
      simp only [if_true]
      refine wpAny_mono (pe.run _ s9 σ8 H8 _ (I8.wish _) q9) (fun z s10 ⟨yv, H10, I10, r10, acc, hD10, hz10, nx⟩ => ?_) fun u' s' bx => ?_
      · exact app_ok (X := X.blk s3 H3 scope ce fp) I10.unwish hD10 hz10 r10 fun s11 I11 => fin I11 nx
      · obtain ⟨pins', σ', H0, s0, I0, cx⟩ := bx
        obtain ⟨J0, fC, m, hn⟩ := back I0
        exact comp_fails J0 hst hf tk fC hn cL cF cx
  exact codeAny_compStart_list loop (T.self X.A 0 _ _ _ st4 loop)
/-- [elt for target in iter], the element a call that may raise -/
def tLcX (wi : TI) (g : TG) (te : AB.St → TE) (vs : List Nat) : TE := fun σ H Q => tLc wi g tYes (te σ) vs σ H Q
theorem pe_lcX {X : Cx} {elt tg iter : Expr} {scope : Scope} {own : List (Str × Nat)} {pos : Pos} {wi : TI} {g : TG} {te : AB.St → TE} {W : WX}
    (hc : X.calm = true) (hN : X.N.Nodup) (hi : PI X tg iter wi) (ok : BlkOk X.N X.env.scope scope own) (hst : X.stack = X.env :: X.outer) (hf : X.env.frame = some X.env.locals) (tk : Takes X W)
    (hg : ∀ (s : Shared) (H : Hp) (C : Addr) (cl : List (Str × Addr)) (fp : List Addr), PG (X.blk s H scope (compEnvC scope cl C X.env) fp) tg g)
    (he : ∀ (σ : AB.St) (s : Shared) (H : Hp) (C : Addr) (cl : List (Str × Addr)) (fp : List Addr), PE ((X.blk s H scope (compEnvC scope cl C X.env) fp).wish (BX X W σ (X.blk s H scope (compEnvC scope cl C X.env) fp))) elt (te σ)) (hs : ∀ x, foldedSetIterable iter X.env x = pure x := by intro _; rfl) :
    PE X (.ListComp elt [⟨tg, iter, [], 0⟩] scope pos) (tLcX wi g te (own.map (·.2))) :=
  ⟨fun pins s σ H Q I h => lc_coreX hc hN I hi ok hst hf tk hg (he σ) hs h⟩
/-- the element's call -/
theorem pe_callB {e : Ev} {X Xb : Cx} {W : WX} {σ0 : AB.St} {j k : Nat} {x : Str} {ps : List Str} {sp : Sp} {a : Expr} {es : List Expr} {t : TA} {p pos : Pos} (h : Has e j x ps sp) (h1 : Xb.prog = X.prog) (h2 : Xb.w = X.w) (h3 : Xb.stack = X.stack) (hr : Room k Xb.A)
    (ha : PA (Xb.wish (BX X W σ0 Xb)) (a :: es) t) (hk : j ≤ k := by omega) (hX : Of e Xb := by exact ⟨rfl, rfl, rfl, rfl, rfl⟩) (hg : Gl (Xb.wish (BX X W σ0 Xb)) x := by rfl) (hdb : (x == ("__debug__" : Str)) = false := by decide)
    (he : starEach (a :: es) Xb.env = (false, eval a Xb.env) :: starEach es Xb.env := by rfl) (hpl : (backTo pos (starEach es Xb.env)).any (·.1) = false := by rfl) :
    PE (Xb.wish (BX X W σ0 Xb)) (.Call (.Name x p) (a :: es) [] pos) (tCallS sp (fun _ => WE W σ0) t) := by
  obtain ⟨f, fd, F, m, kp, b, _⟩ := h
  obtain ⟨k1, k2, k3, k4, k5⟩ := hX
  have F2 := F.mono hk
  rw [← k1, ← k2, ← k3, ← k4, ← k5] at F2
  rw [← k4] at m
  rw [← k3] at kp b
  exact pe_callS (X := Xb.wish (BX X W σ0 Xb)) F2 hr hg m kp b (fun σ' => bx_passes h1 h2 h3 σ') ha hdb he hpl

/-! ### the draws of the laws -/
def cellV (ns : List Int) (k : Int) : Int := if k < ns.length then ns.getD k.toNat 0 else 0
def spCell (K : PySem.W.Frag) : Sp := fun vs H Q _ => ∃ (a : Addr) (ns : List Int) (k : Int), vs = [.ref a, .int k] ∧ ScAt K H a ns ∧ 0 ≤ k ∧ Q (.int (cellV ns k)) H
/-- a dice: [number, script, where, rest] -/
def DiceAt (K : PySem.W.Frag) (H : Hp) (d : Addr) : Prop := ∃ (a : Addr) (ns : List Int) (x j g : Int), H d = some (.lst [.int x, .ref a, .int j, .int g]) ∧ ScAt K H a ns ∧ ns.length ≤ 63 ∧ 0 ≤ x ∧ 0 ≤ j ∧ 0 ≤ g
def spDice (K : PySem.W.Frag) : Sp := fun vs H Q _ => ∃ (a : Addr) (ns : List Int) (k : Int), vs = [.ref a, .int k] ∧ ScAt K H a ns ∧ ns.length ≤ 63 ∧ 0 ≤ k ∧
  ∀ p H', H p = none → Same H H' → DiceAt K H' p → Q (.ref p) H'
def spLaw (K : PySem.W.Frag) : Sp := fun vs H Q _ => ∃ (a : Addr) (ns : List Int), vs = [.ref a] ∧ ScAt K H a ns ∧ ns.length ≤ 63 ∧ ∀ H', Q (.bl true) H'
def spLawT (K : PySem.W.Frag) (T : List (Addr × Str)) : Sp := fun vs H Q _ => ∃ (a : Addr) (ns : List Int), vs = [.ref a] ∧ ScAt K H a ns ∧ ns.length ≤ 63 ∧ LamX.Tabs T H ∧ ∀ H', Q (.bl true) H'
/-- all but d stands -/
def But (d : Addr) (H H' : Hp) : Prop := ∀ b o, b ≠ d → H b = some o → H' b = some o
theorem But.of {d : Addr} {H H' : Hp} (s : Same H H') : But d H H' := fun b o _ h => s b o h
theorem But.refl {d : Addr} (H : Hp) : But d H H := fun _ _ _ h => h
theorem But.trans {d : Addr} {H H1 H2 : Hp} (a : But d H H1) (b : But d H1 H2) : But d H H2 := fun c o n h => b c o n (a c o n h)
theorem But.put {d : Addr} (H : Hp) (o : HO) : But d H (upd H d o) := fun b u n h => by rw [upd_ne n]; exact h
theorem But.same {d : Addr} {H0 H H' : Hp} (b : But d H H') (s : Same H0 H) (h : H0 d = none) : Same H0 H' := fun c o e => b c o (ne_of_none e h) (s c o e)
theorem DiceAt.lst {K : PySem.W.Frag} {H : Hp} {d : Addr} (h : DiceAt K H d) : ∃ xs, H d = some (.lst xs) := let ⟨_, _, _, _, _, h, _⟩ := h; ⟨_, h⟩
theorem But.tx {K : PySem.W.Frag} {d : Addr} {H H' : Hp} (b : But d H H') (h : DiceAt K H d) : TX H H' := fun a o i e => by
  obtain ⟨ys, h⟩ := h.lst
  exact b a _ (ne_of e h (fun z => by subst z; exact i)) e
theorem DiceAt.tx {K : PySem.W.Frag} {H H' : Hp} {d : Addr} (t : TX H H') (e : H' d = H d) (h : DiceAt K H d) : DiceAt K H' d := by
  obtain ⟨a, ns, x, j, g, h1, h2, h3⟩ := h
  exact ⟨a, ns, x, j, g, e.trans h1, h2.mono t, h3⟩
theorem DiceAt.same {K : PySem.W.Frag} {H H' : Hp} {d : Addr} (s : Same H H') (h : DiceAt K H d) : DiceAt K H' d := by
  obtain ⟨a, ns, x, j, g, h1, h2, h3⟩ := h
  exact ⟨a, ns, x, j, g, s _ _ h1, h2.mono (TX.of_same s), h3⟩
def spOff (K : PySem.W.Frag) : Sp := fun vs H Q _ => ∃ (d : Addr) (m : Int), vs = [.ref d, .int m] ∧ DiceAt K H d ∧ 0 < m ∧ m < 1000000 ∧ ∀ (n : Int) H', 0 ≤ n → n < m → But d H H' → DiceAt K H' d → Q (.int n) H'

abbrev s__law_cell : Stmt := top 45
theorem sc__law_cell : FnScope ["_law_script", "_law_k"] ["_law_script", "_law_k"] (defScope s__law_cell) := ⟨rfl, rfl, rfl, by decide +kernel, rfl, by decide +kernel, by decide +kernel⟩
abbrev s__law_dice : Stmt := top 46
theorem sc__law_dice : FnScope ["_law_script", "_law_k", "_law_cell_here"] ["_law_script", "_law_k"] (defScope s__law_dice) := ⟨rfl, rfl, rfl, by decide +kernel, rfl, by decide +kernel, by decide +kernel⟩
abbrev s__law_off : Stmt := top 47
theorem sc__law_off : FnScope ["_law_d", "_law_most", "_law_found", "_law_more_here"] ["_law_d", "_law_most"] (defScope s__law_off) := ⟨rfl, rfl, rfl, by decide +kernel, rfl, by decide +kernel, by decide +kernel⟩
section
variable {e : Ev} (B : Bl e)
include B
theorem ok_cell (A__law_cell : At e "_law_cell" ["_law_script", "_law_k"] s__law_cell) : Has e 1 "_law_cell" ["_law_script", "_law_k"] (spCell e.K) := by
  refine A__law_cell.ok sc__law_cell (fun vs H Q E h => ?_) (fun f cdv A outer s H vs Q E hr h => ?_)
  · obtain ⟨a, ns, k, rfl, _⟩ := h
    rfl
  obtain ⟨a, ns, k, rfl, hS, h0, q⟩ := h
  have nd := sc__law_cell.nd
  refine ⟨_, pss_cons (ps_if (pt_cmpR op_lt (pv 1) (pe_b call_lenL B.len (pa_cons (pv 0) pa_nil)) (nomark _))
      (pss_one (ps_ret (pe_ix ix_list (pv 0) (pv 1) (fun _ _ => rfl))))
      (pss_nil))
    (pss_one (ps_ret pe_int)), ?_⟩
  refine ⟨_, rfl, _, rfl, a, _, rfl, hS.sq, _, _, rfl, rfl, _, rfl, ?_⟩
  have hl : (ns.map V.int).length = ns.length := List.length_map _
  refine ite2 (fun c => ?_) (fun c => ?_)
  · have c' : k < ((ns.map V.int).length : Int) := of_decide_eq_true c
    rw [hl] at c'
    have hk : k.toNat < ns.length := by omega
    refine ⟨_, rfl, _, rfl, a, _, _, .int (ns[k.toNat]), rfl, rfl, hS.sq, at_of (j := k.toNat) (by omega) ?_, ?_⟩
    · rw [List.getElem?_map, List.getElem?_eq_getElem hk]; rfl
    · have e2 : cellV ns k = ns[k.toNat] := by
        unfold cellV
        rw [if_pos c', List.getD_eq_getElem?_getD, List.getElem?_eq_getElem hk]
        rfl
      rw [← e2]
      exact q
  · have c' : ¬ k < ((ns.map V.int).length : Int) := of_decide_eq_false (Bool.eq_false_iff.mpr c)
    rw [hl] at c'
    have e2 : cellV ns k = 0 := by unfold cellV; rw [if_neg c']
    rw [e2] at q
    exact q
theorem ok_dice (A__law_dice : At e "_law_dice" ["_law_script", "_law_k"] s__law_dice) (h__law_cell : Has e 1 "_law_cell" ["_law_script", "_law_k"] (spCell e.K)) : Has e 2 "_law_dice" ["_law_script", "_law_k"] (spDice e.K) := by
  refine A__law_dice.ok sc__law_dice (fun vs H Q E h => ?_) (fun f cdv A outer s H vs Q E hr h => ?_)
  · obtain ⟨a, ns, k, rfl, _⟩ := h
    rfl
  obtain ⟨a, ns, k, rfl, hS, h63, h0, q⟩ := h
  have nd := sc__law_dice.nd
  refine ⟨_, pss_cons (ps_st 2 nd (pe_b call_abs B.abs (pa_cons (pe_callH h__law_cell hr (pa_cons (pv 0) (pa_cons (pv 1) pa_nil))) pa_nil)))
    (pss_one (ps_ret (pe_lst (pa_cons (pe_op op_mod (pv 2) pe_int) (pa_cons (pv 0) (pa_cons (pe_op op_add (pv 1) pe_int) (pa_cons (pe_op op_mul (pe_ty call_int1 B.int (pa_cons (pe_cmpR op_ge (pv 2) (pe_op op_pow pe_int pe_int) (nomark _)) pa_nil)) (pv 2)) pa_nil))))))), ?_⟩
  refine ⟨_, rfl, _, rfl, a, ns, k, rfl, hS, h0, _, rfl, ?_⟩
  have hz : 0 ≤ (if cellV ns k < 0 then -cellV ns k else cellV ns k) := by split <;> omega
  generalize (if cellV ns k < 0 then -cellV ns k else cellV ns k) = z at hz
  refine ⟨_, rfl, _, _, rfl, rfl, (by show (0 : Int) < 2147483647; decide), _, rfl, _, rfl, _, _, rfl, rfl, _, rfl, _, _, rfl, rfl, ⟨by decide, by decide, by decide⟩, _, _, rfl, rfl, .inr ⟨_, rfl, ?_⟩⟩
  refine ⟨_, rfl, _, _, rfl, rfl, ?_, by show 4 ≤ sizeLine; decide, fun p hp => ?_⟩
  · refine .inl ?_
    split <;> exact ⟨by decide, by decide⟩
  · refine q p _ hp (same_new hp _) ⟨a, ns, _, _, _, upd_same, hS.mono (TX.new hp), h63, Int.emod_nonneg _ (by decide), by omega, ?_⟩
    split
    · simpa using hz
    · simp
theorem ok_off (A__law_off : At e "_law_off" ["_law_d", "_law_most"] s__law_off) (h__law_cell : Has e 1 "_law_cell" ["_law_script", "_law_k"] (spCell e.K)) : Has e 2 "_law_off" ["_law_d", "_law_most"] (spOff e.K) := by
  refine A__law_off.ok sc__law_off (fun vs H Q E h => ?_) (fun f cdv A outer s H vs Q E hr h => ?_)
  · obtain ⟨d, m, rfl, _⟩ := h
    rfl
  obtain ⟨d, m, rfl, ⟨a, ns, x, j, g, hd, hS, h63, hx, hj, hg⟩, hm, hm2, q⟩ := h
  have nd := sc__law_off.nd
  refine ⟨_, pss_cons (ps_if (pt_cmpR op_gt (pe_ix ix_list (pv 0) pe_int (fun _ _ => rfl)) pe_int (nomark _))
      (pss_cons (ps_st 2 nd (pe_op op_mod (pe_ix ix_list (pv 0) pe_int (fun _ _ => rfl)) (pv 1)))
      (pss_cons (ps_asg (pe_op op_fdiv (pe_ix ix_list (pv 0) pe_int (fun _ _ => rfl)) (pv 1)) (pg_sub (pv 0) pe_int set_list))
      (pss_one (ps_ret (pv 2)))))
      (pss_nil))
    (pss_cons (ps_st 3 nd (pe_b call_abs B.abs (pa_cons (pe_callH h__law_cell hr (pa_cons (pe_ix ix_list (pv 0) pe_int (fun _ _ => rfl)) (pa_cons (pe_op op_mod (pe_ix ix_list (pv 0) pe_int (fun _ _ => rfl)) (pe_b (call_max2 rfl) B.max (pa_cons pe_int (pa_cons (pe_b call_lenL B.len (pa_cons (pe_ix ix_list (pv 0) pe_int (fun _ _ => rfl)) pa_nil)) pa_nil)))) pa_nil))) pa_nil)))
    (pss_cons (ps_asg (pe_op op_add (pe_ix ix_list (pv 0) pe_int (fun _ _ => rfl)) pe_int) (pg_sub (pv 0) pe_int set_list))
    (pss_cons (ps_asg (pe_op op_mod (pe_op op_add (pe_op op_add (pe_op op_mul (pe_ix ix_list (pv 0) pe_int (fun _ _ => rfl)) pe_int) pe_int) (pv 3)) pe_int) (pg_sub (pv 0) pe_int set_list))
    (pss_one (ps_ret (pe_op op_mod (pe_op op_fdiv (pe_ix ix_list (pv 0) pe_int (fun _ _ => rfl)) pe_int) (pv 1))))))), ?_⟩
  have i0 : ∀ (x j g : Int), atI [V.int x, .ref a, .int j, .int g] 0 = some (.int x) := fun _ _ _ => rfl
  have i1 : ∀ (x j g : Int), atI [V.int x, .ref a, .int j, .int g] 1 = some (.ref a) := fun _ _ _ => rfl
  have i2 : ∀ (x j g : Int), atI [V.int x, .ref a, .int j, .int g] 2 = some (.int j) := fun _ _ _ => rfl
  have i3 : ∀ (x j g : Int), atI [V.int x, .ref a, .int j, .int g] 3 = some (.int g) := fun _ _ _ => rfl
  refine ⟨_, rfl, d, _, _, _, rfl, rfl, SqL.of hd, i3 _ _ _, _, _, rfl, rfl, _, rfl, ?_⟩
  refine ite2 (fun c => ?_) (fun c => ?_)
  · refine ⟨_, rfl, d, _, _, _, rfl, rfl, SqL.of hd, i3 _ _ _, _, rfl, _, _, rfl, rfl, hm, ?_⟩
    refine ⟨_, rfl, d, _, _, _, rfl, rfl, SqL.of hd, i3 _ _ _, _, rfl, _, _, rfl, rfl, ⟨hm, by omega⟩, ?_⟩
    refine ⟨_, rfl, d, _, _, 3, rfl, rfl, hd, rfl, _, rfl, ?_⟩
    refine q _ _ (Int.emod_nonneg _ (by omega)) (Int.emod_lt_of_pos _ hm) (But.put _ _) ⟨a, ns, _, _, _, upd_same, hS.mono (TX.lst hd), h63, hx, hj, Int.ediv_nonneg hg (by omega)⟩
  · refine ⟨_, rfl, d, _, _, _, rfl, rfl, SqL.of hd, i1 _ _ _, _, rfl, d, _, _, _, rfl, rfl, SqL.of hd, i2 _ _ _, _, rfl, d, _, _, _, rfl, rfl, SqL.of hd, i1 _ _ _, a, _, rfl, hS.sq, _, _, rfl, ?_⟩
    have hl : (ns.map V.int).length = ns.length := List.length_map _
    have hM : 0 < (if (((ns.map V.int).length : Nat) : Int) > 1 then (((ns.map V.int).length : Nat) : Int) else 1) := by split <;> omega
    generalize (if (((ns.map V.int).length : Nat) : Int) > 1 then (((ns.map V.int).length : Nat) : Int) else 1) = M at hM
    refine ⟨_, _, rfl, rfl, hM, a, ns, _, rfl, hS, Int.emod_nonneg _ (by omega), _, rfl, ?_⟩
    have hz : 0 ≤ (if cellV ns (j % M) < 0 then -cellV ns (j % M) else cellV ns (j % M)) := by split <;> omega
    generalize (if cellV ns (j % M) < 0 then -cellV ns (j % M) else cellV ns (j % M)) = z at hz
    refine ⟨_, rfl, d, _, _, _, rfl, rfl, SqL.of hd, i2 _ _ _, _, _, rfl, rfl, _, rfl, d, _, _, 2, rfl, rfl, hd, rfl, ?_⟩
    refine ⟨_, rfl, d, _, _, _, rfl, rfl, SqL.of upd_same, i0 _ _ _, _, _, rfl, rfl, .inr ⟨by decide, by decide⟩, _, _, rfl, rfl, _, rfl, _, _, rfl, rfl, _, _, rfl, rfl, (by show (0 : Int) < 2147483647; decide), _, rfl, d, _, _, 0, rfl, rfl, upd_same, rfl, ?_⟩
    refine ⟨_, rfl, d, _, _, _, rfl, rfl, SqL.of upd_same, i0 _ _ _, _, _, rfl, rfl, ⟨by decide, by decide⟩, _, rfl, _, _, rfl, rfl, hm, ?_⟩
    rw [upd_upd]
    refine q _ _ (Int.emod_nonneg _ (by omega)) (Int.emod_lt_of_pos _ hm) (But.put _ _) ⟨a, ns, _, _, _, upd_same, hS.mono (TX.lst hd), h63, Int.emod_nonneg _ (by decide), by omega, hg⟩
end

/-- the works that a law draws: five names with their counts of parts -/
def WorksD (ds : List Da) : Prop := ∃ n0 n1 n2 n3 n4 m, ds = [.tup [.str n0, .int 0], .tup [.str n1, .int 0], .tup [.str n2, .int 0], .tup [.str n3, .int 1], .tup [.str n4, .int m]] ∧
  goodName n0 ∧ goodName n1 ∧ goodName n2 ∧ goodName n3 ∧ goodName n4 ∧ 1 ≤ m ∧ m ≤ 3
def spWorks (K : PySem.W.Frag) : Sp := fun vs H Q _ => ∃ (d : Addr), vs = [.ref d] ∧ DiceAt K H d ∧ ∀ l ds H', H l = none → But d H H' → DiceAt K H' d → LD H' l ds → WorksD ds → Q (.ref l) H'
theorem m_cps {n : Int} (h : 0 ≤ n) : (Txt.mul ("m" : Str) n).cps.toList = List.replicate n.toNat 109 := by
  have e : ("m" : Str).cps.toList = [109] := by decide +kernel
  rw [mul_cps h, e, flat_rep]
theorem name_made {a b : Int} {c : Nat} (h0 : 0 ≤ a) (h1 : 0 ≤ b) (h2 : a + b ≤ 5) (hc : 97 ≤ c ∧ c ≤ 122) : goodName (Txt.mul ("m" : Str) a ++ ⟨#[c]⟩ ++ Txt.mul ("m" : Str) b) := by
  have e : (Txt.mul ("m" : Str) a ++ ⟨#[c]⟩ ++ Txt.mul ("m" : Str) b).cps.toList = List.replicate a.toNat 109 ++ [c] ++ List.replicate b.toNat 109 := by
    rw [app_cps, app_cps, m_cps h0, m_cps h1]
  unfold goodName
  rw [len_cps, e]
  simp only [List.length_append, List.length_replicate, List.length_singleton]
  refine ⟨by omega, by omega, fun x hx => ?_⟩
  simp only [List.mem_append, List.mem_replicate, List.mem_singleton] at hx
  omega
theorem m_len {a : Int} (h0 : 0 ≤ a) (h1 : a ≤ 100) : (Txt.mul ("m" : Str) a).length ≤ 100 := by
  rw [len_cps, m_cps h0, List.length_replicate]
  omega
theorem five {α : Type} {l : List α} (h : l.length = 5) : ∃ a b c d e, l = [a, b, c, d, e] := by
  match l, h with
  | [a, b, c, d, e], _ => exact ⟨a, b, c, d, e, rfl⟩
theorem below3 {n : Int} (h0 : 0 ≤ n) (h1 : n < 3) : n = 0 ∨ n = 1 ∨ n = 2 := by omega
abbrev s__law_works : Stmt := top 48
theorem sc__law_works : FnScope ["_law_d", "_law_size", "_law_at", "_law_turn", "_law_names", "_law_k", "_law_sign", "_law_shared", "_law_one", "_law_many"] ["_law_d"] (defScope s__law_works) := ⟨rfl, rfl, rfl, by decide +kernel, rfl, by decide +kernel, by decide +kernel⟩
section
variable {e : Ev} (B : Bl e)
include B
theorem ok_works (A__law_works : At e "_law_works" ["_law_d"] s__law_works) (h__law_off : Has e 2 "_law_off" ["_law_d", "_law_most"] (spOff e.K)) : Has e 3 "_law_works" ["_law_d"] (spWorks e.K) := by
  refine A__law_works.ok sc__law_works (fun vs H Q E h => ?_) (fun f cdv A outer s H vs Q E hr h => ?_)
  · obtain ⟨d, rfl, _⟩ := h
    rfl
  obtain ⟨d, rfl, hD, q⟩ := h
  have nd := sc__law_works.nd
  refine ⟨_, pss_cons (ps_st 1 nd (pe_op op_add pe_int (pe_callH h__law_off hr (pa_cons (pv 0) (pa_cons pe_int pa_nil)))))
    (pss_cons (ps_st 2 nd (pe_callH h__law_off hr (pa_cons (pv 0) (pa_cons (pv 1) pa_nil))))
    (pss_cons (ps_st 3 nd (pe_callH h__law_off hr (pa_cons (pv 0) (pa_cons pe_int pa_nil))))
    (pss_cons (ps_st 4 nd (pe_lst pa_nil))
    (pss_cons (ps_for PassesOwn.never rfl (pi_range1 (by rfl) B.range (pa_cons pe_int pa_nil)) (pg_nm 5 nd)
      (pss_cons (ps_st 6 nd (pe_ix ix_str pe_str (pe_op op_mod (pe_op op_add (pv 3) (pe_op op_mul pe_int (pv 5))) pe_int) (fun _ _ => rfl)))
      (pss_one (ps_expr (pe_app (pv 4) (pa_cons (pe_op op_add_str (pe_op op_add_str (pe_op op_mulS pe_str (pv 2)) (pv 6)) (pe_op op_mulS pe_str (pe_op op_sub (pe_op op_sub (pv 1) (pv 2)) pe_int))) pa_nil))))))
    (pss_cons (ps_st 7 nd (pe_callH h__law_off hr (pa_cons (pv 0) (pa_cons pe_int pa_nil))))
    (pss_cons (ps_st 8 nd (pe_ix ix_list (pv 4) (pe_ix ix_list (pe_lst (pa_cons pe_int (pa_cons pe_int (pa_cons pe_int pa_nil)))) (pv 7) (fun _ _ => rfl)) (fun _ _ => rfl)))
    (pss_cons (ps_st 9 nd (pe_ix ix_list (pe_lst (pa_cons pe_int (pa_cons pe_int (pa_cons pe_int pa_nil)))) (pe_callH h__law_off hr (pa_cons (pv 0) (pa_cons pe_int pa_nil))) (fun _ _ => rfl)))
    (pss_one (ps_ret (pe_lst (pa_cons (pe_tup (pa_cons (pe_ix ix_list (pv 4) pe_int (fun _ _ => rfl)) (pa_cons pe_int pa_nil))) (pa_cons (pe_tup (pa_cons (pe_ix ix_list (pv 4) pe_int (fun _ _ => rfl)) (pa_cons pe_int pa_nil))) (pa_cons (pe_tup (pa_cons (pe_ix ix_list (pv 4) pe_int (fun _ _ => rfl)) (pa_cons pe_int pa_nil))) (pa_cons (pe_tup (pa_cons (pv 8) (pa_cons pe_int pa_nil))) (pa_cons (pe_tup (pa_cons (pe_ix ix_list (pe_lst (pa_cons (pe_ix ix_list (pv 4) pe_int (fun _ _ => rfl)) (pa_cons (pe_ix ix_list (pv 4) pe_int (fun _ _ => rfl)) (pa_cons (pv 8) pa_nil)))) (pv 7) (fun _ _ => rfl)) (pa_cons (pv 9) pa_nil))) pa_nil))))))))))))))), ?_⟩
  refine ⟨_, rfl, d, 6, rfl, hD, by decide, by decide, fun n1 H1 a1 b1 t1 D1 => ⟨_, _, rfl, rfl, ?_⟩⟩
  refine ⟨_, rfl, _, rfl, d, 1 + n1, rfl, D1, by omega, by omega, fun n2 H2 a2 b2 t2 D2 => ?_⟩
  refine ⟨_, rfl, d, 26, rfl, D2, by decide, by decide, fun n3 H3 a3 b3 t3 D3 => ?_⟩
  refine ⟨by show 0 ≤ sizeLine; decide, fun p hp => ?_⟩
  have T3 := (t1.trans t2).trans t3
  refine ⟨5, rfl, by decide, by decide, for_range (n := 5) (fun i σ H' => ∃ (ns : List Str) (u v : Option V), σ = [some (.ref d), some (.int (1 + n1)), some (.int n2), some (.int n3), some (.ref p), u, v, none, none, none] ∧ H' = upd H3 p (.lst (ns.map V.str)) ∧ ns.length = i ∧ ∀ z ∈ ns, goodName z)
    ⟨[], none, none, rfl, rfl, rfl, by simp⟩ ?_ ?_⟩
  · rintro i σ H' hi ⟨ns, u, v, rfl, rfl, hl, hg⟩
    obtain ⟨c, hc, hc2⟩ := abc_at (i := (n3 + 5 * (0 + (i : Int))) % 26) (Int.emod_nonneg _ (by decide)) (Int.emod_lt_of_pos _ (by decide))
    refine ⟨_, rfl, _, rfl, _, _, rfl, rfl, .inl ⟨by decide, by decide⟩, _, _, rfl, rfl, _, _, rfl, rfl, (by show (0 : Int) < 26; decide), _, _, c, rfl, rfl, by decide +kernel, hc, ?_⟩
    refine ⟨_, rfl, .inl ⟨rfl, _, SqL.of upd_same⟩, _, rfl, _, _, rfl, rfl, by decide +kernel, by omega, by omega, ?_⟩
    have l1 := m_len (a := n2) (by omega) (by omega)
    have l2 := m_len (a := 1 + n1 - n2 - 1) (by omega) (by omega)
    have l3 : (Txt.mul ("m" : Str) n2 ++ ⟨#[c]⟩).length ≤ 101 := by
      rw [len_cps, app_cps, List.length_append, ← len_cps]
      simp only [List.length_singleton]
      omega
    have hs := sizeLine_eq
    refine ⟨_, rfl, _, _, rfl, rfl, ?_, _, rfl, _, rfl, _, _, rfl, rfl, _, _, rfl, rfl, _, _, rfl, rfl, by decide +kernel, by omega, by omega, _, _, rfl, rfl, ?_, p, _, _, rfl, rfl, upd_same, ?_, ?_⟩
    · show (Txt.mul ("m" : Str) n2).length + 1 ≤ sizeLine
      omega
    · omega
    · rw [List.length_map]
      omega
    · refine ⟨ns ++ [_], _, _, rfl, by rw [upd_upd, List.map_append]; rfl, by rw [List.length_append, hl]; rfl, fun z hz => ?_⟩
      rcases List.mem_append.mp hz with hz | hz
      · exact hg z hz
      · rw [List.mem_singleton.mp hz]
        exact name_made (by omega) (by omega) (by omega) hc2
  · rintro σ H' ⟨ns, u, v, rfl, rfl, hl, hg⟩
    obtain ⟨m0, m1, m2, m3, m4, rfl⟩ := five hl
    simp only [List.mem_cons, List.not_mem_nil, or_false, forall_eq_or_imp, forall_eq] at hg
    obtain ⟨g0, g1, g2, g3, g4⟩ := hg
    obtain ⟨ys, hd3⟩ := D3.lst
    have D4 : DiceAt e.K (upd H3 p (.lst ([m0, m1, m2, m3, m4].map V.str))) d := D3.same (same_new hp _)
    refine ⟨_, rfl, d, 3, rfl, D4, by decide, by decide, fun n5 H5 a5 b5 t5 D5 => ?_⟩
    have npd : p ≠ d := (ne_of_none hd3 hp).symm
    have h5 : H5 p = some (.lst ([m0, m1, m2, m3, m4].map V.str)) := t5 _ _ npd upd_same
    have S5 : But d H H5 := T3.trans ((But.of (same_new hp _)).trans t5)
    -- names[[3, 0, 3][shared]]
    have e1 : ∃ w z, atI [V.int 3, .int 0, .int 3] n5 = some (.int w) ∧ atI ([m0, m1, m2, m3, m4].map V.str) w = some (.str z) ∧ goodName z := by
      rcases below3 a5 b5 with rfl | rfl | rfl
      · exact ⟨3, m3, rfl, rfl, g3⟩
      · exact ⟨0, m0, rfl, rfl, g0⟩
      · exact ⟨3, m3, rfl, rfl, g3⟩
    obtain ⟨w, z, e2, e3, gz⟩ := e1
    refine ⟨_, rfl, by show 3 ≤ sizeLine; decide, fun q1 hq1 => ⟨_, rfl, q1, _, _, _, rfl, rfl, SqL.of upd_same, e2, p, _, _, _, rfl, rfl, SqL.of (upd_keep h5 hq1), e3, ?_⟩⟩
    have D6 := D5.same (same_new hq1 (.lst [V.int 3, .int 0, .int 3]))
    have h6 := upd_keep (o := .lst [V.int 3, .int 0, .int 3]) h5 hq1
    have S6 := S5.trans (But.of (same_new hq1 (.lst [V.int 3, .int 0, .int 3])))
    generalize upd H5 q1 (.lst [V.int 3, .int 0, .int 3]) = H6 at D6 h6 S6
    refine ⟨by show 3 ≤ sizeLine; decide, fun q2 hq2 => ?_⟩
    have D7 := D6.same (same_new hq2 (.lst [V.int 2, .int 2, .int 3]))
    have h7 := upd_keep (o := .lst [V.int 2, .int 2, .int 3]) h6 hq2
    have S7 := S6.trans (But.of (same_new hq2 (.lst [V.int 2, .int 2, .int 3])))
    have l7 : upd H6 q2 (.lst [V.int 2, .int 2, .int 3]) q2 = some (.lst [V.int 2, .int 2, .int 3]) := upd_same
    generalize upd H6 q2 (.lst [V.int 2, .int 2, .int 3]) = H7 at D7 h7 S7 l7
    refine ⟨_, rfl, d, 3, rfl, D7, by decide, by decide, fun n8 H8 a8 b8 t8 D8 => ?_⟩
    obtain ⟨ys7, hd7⟩ := D7.lst
    have nq2 : q2 ≠ d := fun z => by
      obtain ⟨_, hd6⟩ := D6.lst
      rw [z, hd6] at hq2
      cases hq2
    have h8 := t8 _ _ npd h7
    have l8 := t8 _ _ nq2 l7
    have S8 := S7.trans t8
    have e4 : ∃ m, atI [V.int 2, .int 2, .int 3] n8 = some (.int m) ∧ (m = 2 ∨ m = 3) := by
      rcases below3 a8 b8 with rfl | rfl | rfl
      · exact ⟨2, rfl, .inl rfl⟩
      · exact ⟨2, rfl, .inl rfl⟩
      · exact ⟨3, rfl, .inr rfl⟩
    obtain ⟨m, e5, hm⟩ := e4
    refine ⟨q2, _, _, _, rfl, rfl, SqL.of l8, e5, ?_⟩
    -- the five pairs
    have e6 : ∃ z4, atI [V.str m4, .str m4, .str z] n5 = some (.str z4) ∧ goodName z4 := by
      rcases below3 a5 b5 with rfl | rfl | rfl
      · exact ⟨m4, rfl, g4⟩
      · exact ⟨m4, rfl, g4⟩
      · exact ⟨z, rfl, gz⟩
    obtain ⟨z4, e7, gz4⟩ := e6
    refine ⟨_, rfl, p, _, _, _, rfl, rfl, SqL.of h8, rfl, by show 2 ≤ sizeLine; decide, fun r0 k0 => ?_⟩
    have h9 := upd_keep (o := .tup [V.str m0, .int 0]) h8 k0
    have w0 : upd H8 r0 (.tup [V.str m0, .int 0]) r0 = some (.tup [V.str m0, .int 0]) := upd_same
    have S9 := S8.trans (But.of (same_new k0 (.tup [V.str m0, .int 0])))
    have D9 := D8.same (same_new k0 (.tup [V.str m0, .int 0]))
    refine ⟨_, rfl, p, _, _, _, rfl, rfl, SqL.of h9, rfl, by show 2 ≤ sizeLine; decide, fun r1 k1 => ?_⟩
    generalize upd H8 r0 (.tup [V.str m0, .int 0]) = H9 at h9 w0 S9 D9 k1
    have h10 := upd_keep (o := .tup [V.str m1, .int 0]) h9 k1
    have w1 : upd H9 r1 (.tup [V.str m1, .int 0]) r1 = some (.tup [V.str m1, .int 0]) := upd_same
    have w10 := upd_keep (o := .tup [V.str m1, .int 0]) w0 k1
    have S10 := S9.trans (But.of (same_new k1 (.tup [V.str m1, .int 0])))
    have D10 := D9.same (same_new k1 (.tup [V.str m1, .int 0]))
    refine ⟨_, rfl, p, _, _, _, rfl, rfl, SqL.of h10, rfl, by show 2 ≤ sizeLine; decide, fun r2 k2 => ?_⟩
    generalize upd H9 r1 (.tup [V.str m1, .int 0]) = H10 at h10 w1 w10 S10 D10 k2
    have w2 : upd H10 r2 (.tup [V.str m2, .int 0]) r2 = some (.tup [V.str m2, .int 0]) := upd_same
    have w20 := upd_keep (o := .tup [V.str m2, .int 0]) w10 k2
    have w21 := upd_keep (o := .tup [V.str m2, .int 0]) w1 k2
    have h11 := upd_keep (o := .tup [V.str m2, .int 0]) h10 k2
    have S11 := S10.trans (But.of (same_new k2 (.tup [V.str m2, .int 0])))
    have D11 := D10.same (same_new k2 (.tup [V.str m2, .int 0]))
    refine ⟨_, rfl, by show 2 ≤ sizeLine; decide, fun r3 k3 => ?_⟩
    generalize upd H10 r2 (.tup [V.str m2, .int 0]) = H11 at h11 w2 w20 w21 S11 D11 k3
    have w3 : upd H11 r3 (.tup [V.str z, .int 1]) r3 = some (.tup [V.str z, .int 1]) := upd_same
    have w30 := upd_keep (o := .tup [V.str z, .int 1]) w20 k3
    have w31 := upd_keep (o := .tup [V.str z, .int 1]) w21 k3
    have w32 := upd_keep (o := .tup [V.str z, .int 1]) w2 k3
    have h12 := upd_keep (o := .tup [V.str z, .int 1]) h11 k3
    have S12 := S11.trans (But.of (same_new k3 (.tup [V.str z, .int 1])))
    have D12 := D11.same (same_new k3 (.tup [V.str z, .int 1]))
    refine ⟨_, rfl, p, _, _, _, rfl, rfl, SqL.of h12, rfl, _, rfl, p, _, _, _, rfl, rfl, SqL.of h12, rfl, _, rfl, by show 3 ≤ sizeLine; decide, fun q3 k4 => ?_⟩
    generalize upd H11 r3 (.tup [V.str z, .int 1]) = H12 at h12 w3 w30 w31 w32 S12 D12 k4
    refine ⟨_, rfl, q3, _, _, _, rfl, rfl, SqL.of upd_same, e7, _, rfl, by show 2 ≤ sizeLine; decide, fun r4 k5 => ?_⟩
    have X13 : Same H12 (upd H12 q3 (.lst [V.str m4, .str m4, .str z])) := same_new k4 _
    generalize upd H12 q3 (.lst [V.str m4, .str m4, .str z]) = H13 at X13 k5
    have X14 := X13.trans (same_new k5 (.tup [V.str z4, .int m]))
    have w4 : upd H13 r4 (.tup [V.str z4, .int m]) r4 = some (.tup [V.str z4, .int m]) := upd_same
    generalize upd H13 r4 (.tup [V.str z4, .int m]) = H14 at X14 w4
    refine ⟨by show 5 ≤ sizeLine; decide, fun l hl2 => ?_⟩
    have X15 := same_new hl2 (.lst [V.ref r0, .ref r1, .ref r2, .ref r3, .ref r4])
    have X := X14.trans X15
    have pr : ∀ {H : Hp} {r : Addr} {x : Str} {i : Int}, H r = some (.tup [V.str x, .int i]) → DaAt H (.ref r) (.tup [.str x, .int i]) := fun h => .tup h (.cons .str (.one .int))
    refine q l [.tup [.str m0, .int 0], .tup [.str m1, .int 0], .tup [.str m2, .int 0], .tup [.str z, .int 1], .tup [.str z4, .int m]] _ ?_ (S12.trans (But.of X)) (D12.same X) ⟨_, upd_same, ?_⟩ ⟨m0, m1, m2, z, z4, m, rfl, g0, g1, g2, gz, gz4, by omega, by omega⟩
    · cases hq : H l with
      | none => rfl
      | some o =>
        by_cases hld : l = d
        · obtain ⟨_, k6⟩ := (D12.same X14).lst
          rw [hld, k6] at hl2
          cases hl2
        · have := X14 _ _ (S12 _ _ hld hq)
          rw [this] at hl2
          cases hl2
    · exact .cons (pr (X _ _ w30)) (.cons (pr (X _ _ w31)) (.cons (pr (X _ _ w32)) (.cons (pr (X _ _ w3)) (.one (pr (X15 _ _ w4))))))
end

/-- a drawn term -/
def spTerm (K : PySem.W.Frag) (n : Nat) : Sp := fun vs H Q _ => ∃ (d l : Addr) (ds : List Da) (deep : Int), vs = [.ref d, .ref l, .int deep] ∧ DiceAt K H d ∧ LD H l ds ∧ WorksD ds ∧ 0 ≤ deep ∧ deep < n ∧
  ∀ (v : V) (t : Tm) H', But d H H' → DiceAt K H' d → DaAt H' v t.da → t.good → (t.depth : Int) ≤ deep + 1 → (deep = 0 → t.count = 1) → (t.count + 1 ≤ 5 * 2 ^ deep.toNat) → Q v H'
theorem works_ne {K : PySem.W.Frag} {H : Hp} {d l : Addr} {ds : List Da} (h : DiceAt K H d) (hl : LD H l ds) (hw : WorksD ds) : l ≠ d := by
  obtain ⟨_, _, _, _, _, h1, _⟩ := h
  obtain ⟨vs, h2, h3⟩ := hl
  obtain ⟨_, _, _, _, _, _, rfl, _⟩ := hw
  obtain ⟨v, r, rfl, h4, _⟩ := h3.cons_inv
  obtain ⟨a, _, rfl, _, _⟩ := h4.tup_inv
  intro z
  subst z
  rw [h1] at h2
  have := Option.some.inj h2
  simp at this
theorem LD.but {K : PySem.W.Frag} {H H' : Hp} {d l : Addr} {ds : List Da} (b : But d H H') (h : DiceAt K H d) (n : l ≠ d) (hl : LD H l ds) : LD H' l ds := by
  obtain ⟨vs, h2, h3⟩ := hl
  exact ⟨vs, b _ _ n h2, h3.mono (b.tx h)⟩
theorem works_at {ds : List Da} (hw : WorksD ds) {i : Int} (h0 : 0 ≤ i) (h1 : i < 5) : ∃ nm m, atI ds i = some (.tup [.str nm, .int m]) ∧ goodName nm ∧ (i < 3 → m = 0) ∧ 0 ≤ m ∧ m ≤ 3 := by
  obtain ⟨n0, n1, n2, n3, n4, m, rfl, g0, g1, g2, g3, g4, hm⟩ := hw
  have : i = 0 ∨ i = 1 ∨ i = 2 ∨ i = 3 ∨ i = 4 := by omega
  rcases this with rfl | rfl | rfl | rfl | rfl
  · exact ⟨n0, 0, rfl, g0, fun _ => rfl, by omega, by omega⟩
  · exact ⟨n1, 0, rfl, g1, fun _ => rfl, by omega, by omega⟩
  · exact ⟨n2, 0, rfl, g2, fun _ => rfl, by omega, by omega⟩
  · exact ⟨n3, 1, rfl, g3, fun h => absurd h (by omega), by omega, by omega⟩
  · exact ⟨n4, m, rfl, g4, fun h => absurd h (by omega), by omega, by omega⟩
theorem Tm.counts_le {B : Nat} : ∀ {l : List Tm}, (∀ t ∈ l, t.count ≤ B) → Tm.counts l ≤ l.length * B
  | [], _ => by simp [Tm.counts]
  | t :: r, h => by
    have h1 := h t (by simp)
    have h2 := Tm.counts_le (l := r) fun x hx => h x (by simp [hx])
    simp only [Tm.counts, List.length_cons, Nat.add_mul, Nat.one_mul]
    omega
abbrev s__law_term : Stmt := top 49
theorem sc__law_term : FnScope ["_law_d", "_law_works_here", "_law_deep", "_law_name", "_law_many", "_law_k"] ["_law_d", "_law_works_here", "_law_deep"] (defScope s__law_term) := ⟨rfl, rfl, rfl, by decide +kernel, rfl, by decide +kernel, by decide +kernel⟩
section
variable {e : Ev} (B : Bl e)
include B
theorem ok_term (A__law_term : At e "_law_term" ["_law_d", "_law_works_here", "_law_deep"] s__law_term) (h__law_off : Has e 2 "_law_off" ["_law_d", "_law_most"] (spOff e.K)) : ∀ n : Nat, Has e (n + 2) "_law_term" ["_law_d", "_law_works_here", "_law_deep"] (spTerm e.K n)
  | 0 => (A__law_term.zero (fun vs H Q E h => by obtain ⟨_, _, _, _, _, _, _, _, h0, h1, _⟩ := h; omega)).mono (by omega)
  | n + 1 => by
    have h__law_term := ok_term A__law_term h__law_off n
    refine A__law_term.ok sc__law_term (fun vs H Q E h => ?_) (fun f cdv A outer s H vs Q E hr h => ?_)
    · obtain ⟨d, l, ds, deep, rfl, _⟩ := h
      rfl
    obtain ⟨d, l, ds, deep, rfl, hD, hL, hW, h0, h1, q⟩ := h
    have nd := sc__law_term.nd
    have hls := sizeLine_eq
    refine ⟨_, pss_cons (ps_asg (pe_ix ix_listD (pv 1) (pe_callH h__law_off hr (pa_cons (pv 0) (pa_cons (pe_ix ix_list (pe_lst (pa_cons pe_int (pa_cons pe_int pa_nil))) (pe_ty call_int1 B.int (pa_cons (pe_cmpR op_gt (pv 2) pe_int (nomark _)) pa_nil)) (fun _ _ => rfl)) pa_nil))) (fun _ _ => rfl)) (pg_tup (by rfl) (pgs_cons (pg_nm 3 nd) (pgs_cons (pg_nm 4 nd) pgs_nil))))
    (pss_cons (ps_cut (ps_if (pt_cmpR op_eq (pv 4) pe_int (nomark _))
      (pss_one (ps_st 2 nd pe_int))
      (pss_nil)))
    (pss_one (ps_ret (pe_op op_catD (pe_tup (pa_cons (pv 3) pa_nil)) (pe_ty call_tupL B.tuple (pa_cons (pe_lc (own := [("_law_k", 5)]) (by rfl) nd (pi_range1 (by rfl) B.range (pa_cons (pv 4) pa_nil)) (blkOk_by (N := ["_law_d", "_law_works_here", "_law_deep", "_law_name", "_law_many", "_law_k"]) (sc := defScope s__law_term) (by decide +kernel)) (fun _ _ _ _ _ => pg_nm 5 nd) (fun _ _ _ _ _ => pts_nil) (fun _ _ _ _ _ => pe_callH h__law_term hr (pa_cons (pv 0) (pa_cons (pv 1) (pa_cons (pe_op op_sub (pv 2) pe_int) pa_nil))))) pa_nil)))))), ?_⟩
    have ndl := works_ne hD hL hW
    -- the name and how many parts
    have e1 : ∃ k, atI [V.int 3, .int 5] (if decide (deep > 0) = true then 1 else 0) = some (.int k) ∧ 0 < k ∧ k ≤ 5 ∧ (deep = 0 → k = 3) := by
      by_cases c : deep > 0
      · rw [decide_eq_true c]
        exact ⟨5, rfl, by omega, by omega, fun z => by omega⟩
      · rw [decide_eq_false c]
        exact ⟨3, rfl, by omega, by omega, fun _ => rfl⟩
    obtain ⟨k, e2, k0, k5, k3⟩ := e1
    refine ⟨_, rfl, _, rfl, by show 2 ≤ sizeLine; decide, fun p hp => ⟨_, rfl, _, _, rfl, rfl, .inr ⟨_, rfl, ?_⟩⟩⟩
    have S1 := same_new hp (.lst [V.int 3, .int 5])
    refine ⟨p, _, _, _, rfl, rfl, SqL.of upd_same, e2, d, k, rfl, hD.same S1, k0, by omega, fun i H2 i0 i1 t2 D2 => ?_⟩
    have T2 : But d H H2 := (But.of S1).trans t2
    have L2 : LD H2 l ds := LD.but T2 hD ndl hL
    obtain ⟨nm, m, e3, gn, m3, m0, mm⟩ := works_at hW i0 (by omega)
    refine ⟨l, ds, i, _, rfl, L2, rfl, e3, fun v hv => ?_⟩
    obtain ⟨a, vs, rfl, hv1, hv2⟩ := hv.tup_inv
    obtain ⟨v1, r1, rfl, hn1, hr1⟩ := hv2.cons_inv
    obtain ⟨v2, r2, rfl, hn2, hr2⟩ := hr1.cons_inv
    obtain rfl := hn1.str_inv
    obtain rfl := hn2.int_inv
    obtain rfl := hr2.nil_inv
    refine ⟨a, _, rfl, SqT.of hv1, rfl, _, _, rfl, _, _, rfl, rfl, ?_⟩
    -- the rest, however deep
    have hdeep : m ≠ 0 → 0 < deep := fun hm => by
      by_cases z : deep = 0
      · have := k3 z
        exact absurd (m3 (by omega)) hm
      · omega
    refine ⟨fun σ' H' => ∃ dp : Int, σ' = [some (.ref d), some (.ref l), some (.int dp), some (.str nm), some (.int m), none] ∧ H2 = H' ∧ (m ≠ 0 → 0 < dp ∧ dp ≤ deep) ∧ (m = 3 → dp = 1), ⟨_, rfl, rfl, _, rfl, ?_⟩, ?_⟩
    · refine ite2 (fun c => ?_) (fun c => ?_)
      · exact ⟨1, rfl, rfl, fun hm => ⟨by omega, hdeep hm⟩, fun _ => rfl⟩
      · have c' : ¬ V.int m = V.int 3 := of_decide_eq_false (Bool.eq_false_iff.mpr c)
        exact ⟨deep, rfl, rfl, fun hm => ⟨hdeep hm, Int.le_refl _⟩, fun z => absurd (by rw [z]) c'⟩
    · rintro σ' H' ⟨dp, rfl, rfl, hdp, hdp3⟩
      refine ⟨_, rfl, by show 1 ≤ sizeLine; decide, fun p3 hp3 => ?_⟩
      have S3 := same_new hp3 (.tup [V.str nm])
      have w3 : upd H2 p3 (.tup [V.str nm]) p3 = some (.tup [V.str nm]) := upd_same
      have D3 := D2.same S3
      have L3 := L2.mono S3
      have T3 : But d H _ := T2.trans (But.of S3)
      generalize upd H2 p3 (.tup [V.str nm]) = H3 at S3 w3 D3 L3 T3
      refine ⟨_, rfl, m, rfl, by omega, by omega, fun R hR => lc_range (n := m.toNat) (fun i H' => ∃ (acc : List V) (ts : List Tm), H' R = some (.lst acc) ∧ But d H3 H' ∧ DiceAt e.K H' d ∧ DasAt H' acc (ts.map Tm.da) ∧ ts.length = i ∧ Tm.goods ts ∧
        (∀ t ∈ ts, (t.depth : Int) ≤ dp ∧ (dp = 1 → t.count = 1) ∧ t.count + 1 ≤ 5 * 2 ^ (dp - 1).toNat)) ?_ ?_ ?_⟩
      · have S4 := same_new hR (.lst [])
        exact ⟨[], [], upd_same, But.of S4, D3.same S4, .nil, rfl, by simp [Tm.goods], by simp⟩
      · rintro i H' hi ⟨acc, ts, hRl, T, D, hA, hl, hg, hb⟩
        have hm1 : m ≠ 0 := by omega
        obtain ⟨d0, d1⟩ := hdp hm1
        refine ⟨rfl, _, rfl, _, rfl, _, rfl, _, _, rfl, rfl, d, l, ds, dp - 1, rfl, D, LD.but T D3 ndl L3, hW, by omega, by omega, fun v t H'' T' D' hv g1 g2 g3 g4 => ?_⟩
        have nRd : R ≠ d := fun z => by
          obtain ⟨_, hd3⟩ := D3.lst
          rw [z, hd3] at hR
          cases hR
        have hR' := T' _ _ nRd hRl
        have X := TX.lst (o := .lst (acc ++ [v])) hR'
        refine ⟨acc, hR', ?_, acc ++ [v], ts ++ [t], upd_same, ?_, ?_, ?_, ?_, ?_, ?_⟩
        · rw [hA.length, List.length_map]
          omega
        · exact fun b o nb hb' => by
            have h2 := T' _ _ nb (T _ _ nb hb')
            rw [upd_ne (ne_of_none hb' hR)]
            exact h2
        · exact D'.tx X (upd_ne nRd.symm)
        · rw [List.map_append]
          exact ((hA.mono (T'.tx D)).append (.one hv)).mono X
        · rw [List.length_append, hl]; rfl
        · rw [Tm.goods_iff] at hg ⊢
          intro t' ht'
          rcases List.mem_append.mp ht' with z | z
          · exact hg t' z
          · rw [List.mem_singleton.mp z]; exact g1
        · intro t' ht'
          rcases List.mem_append.mp ht' with z | z
          · exact hb t' z
          · rw [List.mem_singleton.mp z]
            exact ⟨by omega, fun z => g3 (by omega), g4⟩
      · rintro H' ⟨acc, ts, hRl, T, D, hA, hl, hg, hb⟩
        refine ⟨R, ts.map Tm.da, rfl, ⟨acc, hRl, hA⟩, fun v2 H'' S2 hv2 => ?_⟩
        have w4 : H'' p3 = some (.tup [V.str nm]) := S2 _ _ ((T.tx D3).tup w3)
        refine ⟨[.str nm], ts.map Tm.da, .tup w4 (.one .str), hv2, by rw [List.length_map, List.length_singleton]; omega, fun v5 H5 S5 hv5 => ?_⟩
        have et : (Tm.mk nm ts).da = .tup ([.str nm] ++ ts.map Tm.da) := by rw [Tm.da_eq]; rfl
        refine q v5 (.mk nm ts) H5 (T3.trans (T.trans ((But.of S2).trans (But.of S5)))) ((D.same S2).same S5) (by rw [et]; exact hv5) ⟨gn, by omega, hg⟩ ?_ ?_ ?_
        · by_cases hm1 : m = 0
          · have : ts = [] := List.length_eq_zero_iff.mp (by omega)
            subst this
            simp only [Tm.depth, Tm.depths]
            omega
          · obtain ⟨d0, d1⟩ := hdp hm1
            have : Tm.depths ts ≤ dp.toNat := Tm.depths_le.mpr fun t ht => by have := (hb t ht).1; omega
            simp only [Tm.depth]
            omega
        · intro z
          have hm1 : m = 0 := by
            have := k3 z
            exact m3 (by omega)
          have : ts = [] := List.length_eq_zero_iff.mp (by omega)
          subst this
          rfl
        · by_cases hm1 : m = 0
          · have : ts = [] := List.length_eq_zero_iff.mp (by omega)
            subst this
            have : 1 ≤ 2 ^ deep.toNat := Nat.one_le_two_pow
            simp only [Tm.count, Tm.counts]
            omega
          · obtain ⟨d0, d1⟩ := hdp hm1
            have e4 : deep.toNat = (deep - 1).toNat + 1 := by omega
            have p1 : 1 ≤ 2 ^ (deep - 1).toNat := Nat.one_le_two_pow
            rw [e4, Nat.pow_succ]
            by_cases hm3 : m = 3
            · have c1 : Tm.counts ts ≤ ts.length * 1 := Tm.counts_le fun t ht => by have := (hb t ht).2.1 (hdp3 hm3); omega
              simp only [Tm.count]
              omega
            · have p2 : 2 ^ (dp - 1).toNat ≤ 2 ^ (deep - 1).toNat := Nat.pow_le_pow_right (by omega) (by omega)
              have c1 : Tm.counts ts ≤ ts.length * (5 * 2 ^ (deep - 1).toNat - 1) := Tm.counts_le fun t ht => by have := (hb t ht).2.2; omega
              have c2 : ts.length ≤ 2 := by omega
              have c3 : ts.length * (5 * 2 ^ (deep - 1).toNat - 1) ≤ 2 * (5 * 2 ^ (deep - 1).toNat - 1) := Nat.mul_le_mul_right _ c2
              simp only [Tm.count]
              omega
end

abbrev s_parts_of : Stmt := top 18
theorem sc_parts_of : FnScope ["term", "found", "part", "inner"] ["term"] (defScope s_parts_of) := ⟨rfl, rfl, rfl, by decide +kernel, rfl, by decide +kernel, by decide +kernel⟩
section
variable {e : Ev} (B : Bl e)
theorem ok_parts (A_parts_of : At e "parts_of" ["term"] s_parts_of) : ∀ n : Nat, Has e n "parts_of" ["term"] (spParts n)
  | 0 => A_parts_of.zero fun vs H Q E h => by
    obtain ⟨_, t, _, _, _, h, _⟩ := h
    cases t with
    | mk n ps => simp only [Tm.depth] at h; omega
  | n + 1 => by
    have h_parts_of := ok_parts A_parts_of n
    refine A_parts_of.ok sc_parts_of (fun vs H Q E h => ?_) (fun f cdv A outer s H vs Q E hr h => ?_)
    · obtain ⟨v, t, rfl, _⟩ := h
      rfl
    obtain ⟨v, t, rfl, hv, hk, hn, q⟩ := h
    have nd := sc_parts_of.nd
    have hls := sizeLine_eq
    refine ⟨_, pss_cons (ps_st 1 nd (pe_lst pa_nil))
    (pss_cons (ps_for PassesOwn.never rfl (pi_tup (pe_slice sl_tupD (pv 0) (po_some pe_int) po_none)) (pg_nm 2 nd)
      (pss_one (ps_for PassesOwn.never rfl (pi_list (pe_callH h_parts_of hr (pa_cons (pv 2) pa_nil))) (pg_nm 3 nd)
        (pss_one (ps_if (pt_cmpR (op_notInDa (hu65 hr)) (pv 3) (pv 1) (by rfl))
          (pss_one (ps_expr (pe_app (pv 1) (pa_cons (pv 3) pa_nil))))
          (pss_nil))))))
    (pss_cons (ps_expr (pe_app (pv 1) (pa_cons (pv 0) pa_nil)))
    (pss_one (ps_ret (pv 1))))), ?_⟩
    refine ⟨by show 0 ≤ sizeLine; decide, fun F hF => ?_⟩
    have S1 := same_new hF (.lst [])
    have w1 : upd H F (.lst []) F = some (.lst []) := upd_same
    generalize upd H F (.lst []) = H1 at S1 w1
    have hv1 := hv.mono (TX.of_same S1)
    have hv1' := hv1
    rw [Tm.da_eq] at hv1'
    refine ⟨v, rfl, 1, rfl, _, hv1', fun v2 H2 S2 hv2 => ?_⟩
    rw [cutD_tail] at hv2
    refine for_tupD hv2 (fun i σ H' => ∃ (acc : List V) (a b : Option V), σ = [some v, some (.ref F), a, b] ∧ Same H H' ∧ TX H2 H' ∧ H' F = some (.lst acc) ∧ DasAt H' acc ((Tm.subss [] (t.parts.take i)).map Tm.da))
      ⟨[], none, none, rfl, S1.trans S2, TX.refl _, S2 _ _ w1, .nil⟩ (fun i σ H' h => let ⟨_, _, _, _, _, h, _⟩ := h; h) ?_ ?_
    · rintro i x d σ H' hi hx ⟨acc, a, b, rfl, S, T, hF', hA⟩
      obtain ⟨p, hp, rfl⟩ := map_get hi
      have hpm := List.mem_of_getElem? hp
      have hkp := hk.part hpm
      refine ⟨_, rfl, x, p, rfl, hx, hkp, by have := Tm.parts_depth hpm; omega, fun R H3 hR S3 hL => ?_⟩
      have nRF : R ≠ F := (ne_of_none hF' hR).symm
      refine ⟨R, rfl, for_listD hL (fun j σ H' => ∃ (acc : List V) (b : Option V), σ = [some v, some (.ref F), some x, b] ∧ Same H H' ∧ TX H3 H' ∧ H' R = H3 R ∧ H' F = some (.lst acc) ∧ DasAt H' acc ((dd (Tm.subss [] (t.parts.take i)) (p.subs.take j)).map Tm.da))
        ⟨acc, b, rfl, S.trans S3, TX.refl _, rfl, S3 _ _ hF', hA.mono (TX.of_same S3)⟩ (fun j σ H' h => let ⟨_, _, _, _, h1, h2, _⟩ := h; ⟨h1, h2⟩) ?_ ?_⟩
      · rintro j y d' σ H4 hj hy ⟨acc, b, rfl, S, T', hR4, hF4, hA4⟩
        obtain ⟨u, hu, rfl⟩ := map_get hj
        have hum := List.mem_of_getElem? hu
        have okA : okL ((dd (Tm.subss [] (t.parts.take i)) (p.subs.take j)).map Tm.da) := okL_map fun z hz => by
          rcases (dd_mem _ _ _).mp hz with hz | hz
          · have h1 : Tm.oks (t.parts.take i) = true := Tm.oks_iff.mpr fun z hz => Tm.parts_ok hk.ok (List.mem_of_mem_take hz)
            have h2 := Tm.subss_ok _ _ z h1 hz
            have h3 := Tm.subss_depth _ _ z hz
            simp only [List.not_mem_nil, false_or] at h2 h3
            have h4 : Tm.depths (t.parts.take i) ≤ 50 := Tm.depths_le.mpr fun z hz => Nat.le_trans (Nat.le_of_lt (Tm.parts_depth (List.mem_of_mem_take hz))) hk.dp
            exact ⟨by rw [Tm.da_ok]; exact h2, by rw [Tm.da_depth]; omega⟩
          · exact hkp.subs (List.mem_of_mem_take hz)
        refine ⟨_, rfl, _, rfl, u.da, F, _, hy, rfl, ⟨acc, hF4, hA4⟩, hkp.subs hum, okA, _, rfl, ?_⟩
        have el := take_snoc hu
        refine ite2 (fun c => ?_) (fun c => ?_)
        · have c' : ¬ u.da ∈ (dd (Tm.subss [] (t.parts.take i)) (p.subs.take j)).map Tm.da := by simpa using c
          have c2 : ¬ u ∈ dd (Tm.subss [] (t.parts.take i)) (p.subs.take j) := fun z => c' (mem_das.mpr z)
          refine ⟨_, rfl, .inl ⟨rfl, _, SqL.of hF4⟩, _, rfl, F, acc, y, rfl, rfl, hF4, ?_, ?_⟩
          · have h1 := dd_len (p.subs.take j) (Tm.subss [] (t.parts.take i))
            have h2 := Tm.subss_len (t.parts.take i) []
            have h3 := Tm.subs_len p
            have h4 : Tm.counts (t.parts.take i) ≤ 100000 := by
              refine Nat.le_trans (Nat.le_trans ?_ (show Tm.counts t.parts ≤ t.count by cases t with | mk n ps => simp only [Tm.parts, Tm.count]; omega)) hk.ct
              have : ∀ (l : List Tm) (i : Nat), Tm.counts (l.take i) ≤ Tm.counts l := by
                intro l
                induction l with
                | nil => intro i; simp
                | cons z r ih =>
                  intro i
                  cases i with
                  | zero => simp [Tm.counts]
                  | succ i =>
                    have := ih i
                    simp only [List.take_succ_cons, Tm.counts]
                    omega
              exact this _ _
            have h5 := hkp.ct
            have h6 : (p.subs.take j).length ≤ p.subs.length := by rw [List.length_take]; omega
            rw [hA4.length, List.length_map]
            simp only [List.length_nil] at h2
            omega
          · have X := TX.lst (o := .lst (acc ++ [y])) hF4
            refine ⟨acc ++ [y], _, rfl, same_put S hF _, T'.trans X, by rw [upd_ne nRF]; exact hR4, upd_same, ?_⟩
            rw [el, dd_snoc, if_neg c2, List.map_append]
            exact (hA4.append (.one hy)).mono X
        · have c' : u.da ∈ (dd (Tm.subss [] (t.parts.take i)) (p.subs.take j)).map Tm.da := by simpa using c
          refine ⟨acc, _, rfl, S, T', hR4, hF4, ?_⟩
          rw [el, dd_snoc, if_pos (mem_das.mp c')]
          exact hA4
      · rintro σ H4 ⟨acc, b, rfl, S, T', hR4, hF4, hA4⟩
        rw [List.length_map, List.take_length] at hA4
        refine ⟨acc, _, _, rfl, S, (T.trans (TX.of_same S3)).trans T', hF4, ?_⟩
        rw [take_snoc hp, Tm.subss_snoc]
        exact hA4
    · rintro σ H' ⟨acc, a, b, rfl, S, T, hF', hA⟩
      rw [List.length_map, List.take_length] at hA
      have hvE := hv.mono (TX.of_same S)
      have X := TX.lst (o := .lst (acc ++ [v])) hF'
      refine ⟨_, rfl, .inl ⟨rfl, _, SqL.of hF'⟩, _, rfl, F, acc, v, rfl, rfl, hF', ?_, _, rfl, q F _ hF (same_put S hF _) ⟨acc ++ [v], upd_same, ?_⟩⟩
      · have h1 := Tm.subs_len t
        have h2 := hk.ct
        have h3 : (Tm.subss [] t.parts).length + 1 = t.subs.length := by
          cases t with
          | mk n ps => simp only [Tm.subs, Tm.parts, List.length_append, List.length_singleton]
        rw [hA.length, List.length_map]
        omega
      · have e1 : t.subs = Tm.subss [] t.parts ++ [t] := by
          cases t with
          | mk n ps => rfl
        rw [e1, List.map_append]
        exact (hA.append (.one hvE)).mono X
end

abbrev s_is_name : Stmt := top 14
theorem sc_is_name : FnScope ["text", "sign"] ["text"] (defScope s_is_name) := ⟨rfl, rfl, rfl, by decide +kernel, rfl, by decide +kernel, by decide +kernel⟩
section
variable {e : Ev} (B : Bl e)
include B
theorem ok_is_name (A_is_name : At e "is_name" ["text"] s_is_name) (k_LETTERS : Cst e "LETTERS" (.str "abcdefghijklmnopqrstuvwxyz")) (k_MOST_LETTERS : Cst e "MOST_LETTERS" (.int 6)) : Has e 1 "is_name" ["text"] spIsName := by
  refine A_is_name.ok sc_is_name (fun vs H Q E h => ?_) (fun f cdv A outer s H vs Q E hr h => ?_)
  · obtain ⟨z, rfl, _⟩ := h
    rfl
  obtain ⟨z, rfl, hz, q⟩ := h
  have nd := sc_is_name.nd
  have hls := sizeLine_eq
  refine ⟨_, pss_cons (ps_for PassesOwn.never rfl (pi_str (pv 0)) (pg_nm 1 nd)
      (pss_one (ps_if (pt_cmpR op_notIn_sign (pv 1) (pe_cst k_LETTERS) (by rfl))
        (pss_one (ps_ret pe_bl))
        (pss_nil))))
    (pss_one (ps_ret (pe_chain op_le op_le pe_int (pe_b call_len_str B.len (pa_cons (pv 0) pa_nil)) (pe_cst k_MOST_LETTERS)))), ?_⟩
  refine ⟨_, rfl, z, rfl, for_it walk_str (fun i σ H' => (∃ a, σ = [some (.str z), a]) ∧ H' = H ∧ ∀ c ∈ z.cps.toList.take i, letter c = true) ⟨⟨_, rfl⟩, rfl, by simp⟩ (fun _ _ _ _ _ => trivial) ?_ ?_⟩
  · rintro i x σ _ H2 hi ⟨⟨a, rfl⟩, rfl, hp⟩ ⟨rfl, c, hc, rfl⟩
    refine ⟨_, rfl, c, _, rfl, rfl, _, rfl, ?_⟩
    have hc' : z.cps.toList[i]? = some c := by simpa using hc
    rw [abc_dec]
    cases hl : letter c with
    | false =>
      have e1 : nameB z = false := by
        unfold nameB
        rw [Bool.and_eq_false_iff]
        left
        rw [List.all_eq_false]
        exact ⟨c, List.mem_of_getElem? hc', by rw [hl]; decide⟩
      rw [e1] at q
      exact q
    | true =>
      refine ⟨⟨_, rfl⟩, rfl, fun c2 h2 => ?_⟩
      rw [take_snoc hc'] at h2
      rcases List.mem_append.mp h2 with h2 | h2
      · exact hp c2 h2
      · rw [List.mem_singleton.mp h2]; exact hl
  · rintro σ _ ⟨⟨a, rfl⟩, rfl, hp⟩
    refine ⟨_, rfl, z, rfl, by omega, _, _, rfl, rfl, _, rfl, ?_⟩
    have hall : z.cps.toList.all letter = true := List.all_eq_true.mpr fun c hc => hp c (by rw [show z.cps.size = z.cps.toList.length by simp, List.take_length]; exact hc)
    have e1 : nameB z = (decide (1 ≤ z.length) && decide (z.length ≤ 6)) := by unfold nameB; rw [hall]; rfl
    rw [e1] at q
    by_cases h1 : 1 ≤ z.length
    · have h1' : (1 : Int) ≤ ((z.length : Nat) : Int) := by omega
      have e2 : decide ((1 : Int) ≤ ((z.length : Nat) : Int)) = true := decide_eq_true h1'
      rw [e2]
      refine ⟨_, _, rfl, rfl, ?_⟩
      have e3 : decide (((z.length : Nat) : Int) ≤ 6) = decide (z.length ≤ 6) := by
        by_cases h2 : z.length ≤ 6
        · rw [decide_eq_true h2]; exact decide_eq_true (by omega)
        · rw [decide_eq_false h2]; exact decide_eq_false (by omega)
      show Q (.bl (decide (((z.length : Nat) : Int) ≤ 6))) _
      rw [e3]
      rw [decide_eq_true h1, Bool.true_and] at q
      exact q
    · have e2 : decide ((1 : Int) ≤ ((z.length : Nat) : Int)) = false := decide_eq_false (by omega)
      rw [e2]
      rw [decide_eq_false h1, Bool.false_and] at q
      exact q
end

abbrev s_names_in : Stmt := top 15
theorem sc_names_in : FnScope ["term", "part"] ["term"] (defScope s_names_in) := ⟨rfl, rfl, rfl, by decide +kernel, rfl, by decide +kernel, by decide +kernel⟩
section
variable {e : Ev} (B : Bl e)
include B
theorem ok_names_in (A_names_in : At e "names_in" ["term"] s_names_in) : ∀ n : Nat, Has e n "names_in" ["term"] (spNames n)
  | 0 => A_names_in.zero fun vs H Q E h => by
    obtain ⟨_, t, _, _, _, h, _⟩ := h
    have := t.depth_pos
    omega
  | n + 1 => by
    have h_names_in := ok_names_in A_names_in n
    refine A_names_in.ok sc_names_in (fun vs H Q E h => ?_) (fun f cdv A outer s H vs Q E hr h => ?_)
    · obtain ⟨v, t, rfl, _⟩ := h
      rfl
    obtain ⟨v, t, rfl, hv, hs, hn, q⟩ := h
    have nd := sc_names_in.nd
    refine ⟨_, pss_one (ps_ret (pe_op op_add pe_int (pe_b (cr_sum rfl) B.sum (pa_cons (pe_lc (own := [("part", 1)]) (by rfl) nd (pi_tup (pe_slice sl_tupD (pv 0) (po_some pe_int) po_none)) (blkOk_by (N := ["term", "part"]) (sc := defScope s_names_in) (by decide +kernel)) (fun _ _ _ _ _ => pg_nm 1 nd) (fun _ _ _ _ _ => pts_nil) (fun _ _ _ _ _ => pe_callH h_names_in hr (pa_cons (pv 1) pa_nil))) pa_nil)))), ?_⟩
    rw [Tm.da_eq] at hv
    refine ⟨v, rfl, 1, rfl, _, hv, fun v2 H2 S2 hv2 => ?_⟩
    rw [cutD_tail] at hv2
    refine lc_tupD (F := fun t : Tm => .int t.count) hv2 (Nat.le_trans (Tm.short_len hs) (by decide)) (fun x p H3 hp hx S3 Q' N k => ?_) (fun D H3 hD S3 ⟨ws, h3, hw⟩ => ?_)
    · refine ⟨rfl, _, rfl, x, p, rfl, hx, Tm.short_part hs hp, by have := Tm.parts_depth hp; omega, fun H4 S4 => k _ _ S4 .int⟩
    · have hw' : DasAt H3 ws ((t.parts.map fun t => (t.count : Int)).map Da.int) := by rw [List.map_map]; exact hw
      have ew := das_ints hw'
      subst ew
      refine ⟨D, _, rfl, SqL.of h3, _, _, rfl, rfl, ?_⟩
      have e1 : (1 : Int) + (t.parts.map fun t => (t.count : Int)).sum = (t.count : Int) := by
        rw [counts_sum]
        have := Tm.counts_parts t
        omega
      show Q (.int (1 + (t.parts.map fun t => (t.count : Int)).sum)) H3
      rw [e1]
      exact q _ (S2.trans S3)
end

abbrev s_is_term : Stmt := top 16
theorem sc_is_term : FnScope ["term", "part"] ["term"] (defScope s_is_term) := ⟨rfl, rfl, rfl, by decide +kernel, rfl, by decide +kernel, by decide +kernel⟩
abbrev s_need_term : Stmt := top 17
theorem sc_need_term : FnScope ["term"] ["term"] (defScope s_need_term) := ⟨rfl, rfl, rfl, by decide +kernel, rfl, by decide +kernel, by decide +kernel⟩
section
variable {e : Ev} (B : Bl e)
include B
theorem ok_is_term (A_is_term : At e "is_term" ["term"] s_is_term) (h_is_name : Has e 1 "is_name" ["text"] spIsName) (k_MOST_PARTS : Cst e "MOST_PARTS" (.int 3)) : ∀ n : Nat, Has e (n + 1) "is_term" ["term"] (spIsTerm n)
  | 0 => (A_is_term.zero fun vs H Q E h => by
    obtain ⟨_, t, _, _, _, h, _⟩ := h
    have := t.depth_pos
    omega).mono (by omega)
  | n + 1 => by
    have h_is_term := ok_is_term A_is_term h_is_name k_MOST_PARTS n
    refine A_is_term.ok sc_is_term (fun vs H Q E h => ?_) (fun f cdv A outer s H vs Q E hr h => ?_)
    · obtain ⟨v, t, rfl, _⟩ := h
      rfl
    obtain ⟨v, t, rfl, hv, hs, hn, q⟩ := h
    have nd := sc_is_term.nd
    refine ⟨_, pss_cons (ps_if (PW.pt (pw_or (pt_not (pt_val (pe_callH h_is_name hr (pa_cons (pe_ix ix_tupD (pv 0) pe_int (fun _ _ => rfl)) pa_nil)))) (pw_or1 (pt_cmpR op_gt (pe_op op_sub (pe_b call_lenT B.len (pa_cons (pv 0) pa_nil)) pe_int) (pe_cst k_MOST_PARTS) (nomark _)))))
      (pss_one (ps_ret pe_bl))
      (pss_nil))
    (pss_cons (ps_for PassesOwn.never rfl (pi_tup (pe_slice sl_tupD (pv 0) (po_some pe_int) po_none)) (pg_nm 1 nd)
      (pss_one (ps_if (pt_not (pt_val (pe_callH h_is_term hr (pa_cons (pv 1) pa_nil))))
        (pss_one (ps_ret pe_bl))
        (pss_nil))))
    (pss_one (ps_ret pe_bl))), ?_⟩
    rw [Tm.da_eq] at hv
    have eg : t.goodB = ((nameB t.name && decide (t.parts.length ≤ 3)) && Tm.goodsB t.parts) := by cases t with | mk n ps => rfl
    refine ⟨_, rfl, _, 0, _, hv, rfl, at0, fun w hw => ?_⟩
    obtain rfl := hw.str_inv
    refine ⟨t.name, rfl, Nat.le_trans (Tm.short_name hs) (by decide), _, rfl, ?_⟩
    cases h1 : nameB t.name with
    | false =>
      rw [h1] at eg
      simp only [Bool.false_and] at eg
      rw [eg] at q
      exact q _ (Same.refl _)
    | true =>
      refine ⟨_, rfl, v, _, rfl, hv, _, _, rfl, rfl, _, _, rfl, rfl, _, rfl, ?_⟩
      rw [h1, Bool.true_and] at eg
      have el : ((Da.str t.name :: t.parts.map Tm.da).length : Int) - 1 = (t.parts.length : Int) := by simp
      rw [el]
      by_cases h2 : t.parts.length ≤ 3
      · have e2 : decide ((3 : Int) < (t.parts.length : Int)) = false := decide_eq_false (by omega)
        rw [e2]
        rw [decide_eq_true h2, Bool.true_and] at eg
        refine ⟨v, rfl, 1, rfl, _, hv, fun v2 H2 S2 hv2 => ?_⟩
        rw [cutD_tail] at hv2
        refine for_tupD hv2 (fun i σ H' => (∃ a, σ = [some v, a]) ∧ Same H H' ∧ Same H2 H' ∧ Tm.goodsB (t.parts.take i) = true) ⟨⟨_, rfl⟩, S2, Same.refl _, rfl⟩ (fun i σ H' h => TX.of_same h.2.2.1) ?_ ?_
        · rintro i x d σ H' hi hx ⟨⟨a, rfl⟩, S, T, hg⟩
          obtain ⟨p, hp, rfl⟩ := map_get hi
          have hpm := List.mem_of_getElem? hp
          refine ⟨_, rfl, x, p, rfl, hx, Tm.short_part hs hpm, by have := Tm.parts_depth hpm; omega, fun H3 S3 => ⟨_, rfl, ?_⟩⟩
          cases h3 : p.goodB with
          | true => exact ⟨⟨_, rfl⟩, S.trans S3, T.trans S3, by rw [goodsB_take hp, hg, h3]; rfl⟩
          | false =>
            rw [goodsB_mem hpm h3] at eg
            rw [eg] at q
            exact q _ (S.trans S3)
        · rintro σ H' ⟨⟨a, rfl⟩, S, T, hg⟩
          rw [List.length_map, List.take_length] at hg
          rw [hg] at eg
          rw [eg] at q
          exact q _ S
      · have e2 : decide ((3 : Int) < (t.parts.length : Int)) = true := decide_eq_true (by omega)
        rw [e2]
        rw [decide_eq_false h2, Bool.false_and] at eg
        rw [eg] at q
        exact q _ (Same.refl _)
theorem ok_need (A_need_term : At e "need_term" ["term"] s_need_term) {C : Addr} (n : Nat) (h_is_term : Has e (n + 1) "is_term" ["term"] (spIsTerm n)) (h_names_in : Has e n "names_in" ["term"] (spNames n)) (k_MOST_NAMES : Cst e "MOST_NAMES" (.int 40)) (k_NoTerm : ExK e "NoTerm" C) :
    Has e (n + 2) "need_term" ["term"] (spNeed n C) := by
  refine A_need_term.okX sc_need_term (fun vs H Q E h => ?_) (fun f cdv A outer s H vs Q E hr h => ?_)
  · obtain ⟨v, t, rfl, _⟩ := h
    rfl
  obtain ⟨v, t, rfl, hv, hs, hn, q, qx⟩ := h
  have nd := sc_need_term.nd
  refine ⟨_, pss_one (ps_if (PW.pt (pw_or (pt_not (pt_val (pe_callH h_is_term hr (pa_cons (pv 0) pa_nil)))) (pw_or1 (pt_cmpR op_gt (pe_callH h_names_in hr (pa_cons (pv 0) pa_nil)) (pe_cst k_MOST_NAMES) (nomark _)))))
      (pss_one (ps_raiseE k_NoTerm (takes_of rfl rfl rfl rfl)))
      (pss_nil)), ?_⟩
  refine ⟨_, rfl, v, t, rfl, hv, hs, hn, fun H2 S2 => ⟨_, rfl, ?_⟩⟩
  cases h1 : t.goodB with
  | false => exact qx (fun z => by rw [Tm.goodB_iff.mpr z.1] at h1; cases h1) _ S2
  | true =>
    refine ⟨_, rfl, v, t, rfl, hv.mono (TX.of_same S2), hs, hn, fun H3 S3 => ⟨_, _, rfl, rfl, _, rfl, ?_⟩⟩
    by_cases h2 : t.count ≤ 40
    · have e2 : decide ((40 : Int) < (t.count : Int)) = false := decide_eq_false (by omega)
      rw [e2]
      exact q ⟨Tm.goodB_iff.mp h1, h2⟩ _ (S2.trans S3)
    · have e2 : decide ((40 : Int) < (t.count : Int)) = true := decide_eq_true (by omega)
      rw [e2]
      exact qx (fun z => h2 z.2) _ (S2.trans S3)
end

abbrev s_shown : Stmt := top 19
theorem sc_shown : FnScope ["term", "part"] ["term"] (defScope s_shown) := ⟨rfl, rfl, rfl, by decide +kernel, rfl, by decide +kernel, by decide +kernel⟩
section
variable {e : Ev} (B : Bl e)
include B
theorem ok_shown (A_shown : At e "shown" ["term"] s_shown) : ∀ n : Nat, Has e n "shown" ["term"] (spShown n)
  | 0 => A_shown.zero fun vs H Q E h => by
    obtain ⟨_, t, _, _, _, h, _⟩ := h
    have := t.depth_pos
    omega
  | n + 1 => by
    have h_shown := ok_shown A_shown n
    refine A_shown.ok sc_shown (fun vs H Q E h => ?_) (fun f cdv A outer s H vs Q E hr h => ?_)
    · obtain ⟨v, t, rfl, _⟩ := h
      rfl
    obtain ⟨v, t, rfl, hv, hs, hn, hl, q⟩ := h
    have nd := sc_shown.nd
    have hls := sizeLine_eq
    refine ⟨_, pss_cons (ps_if (pt_cmpR op_eq (pe_b call_lenT B.len (pa_cons (pv 0) pa_nil)) pe_int (nomark _))
      (pss_one (ps_ret (pe_ix ix_tupD (pv 0) pe_int (fun _ _ => rfl))))
      (pss_nil))
    (pss_one (ps_ret (pe_op op_add_str (pe_op op_add_str (pe_op op_add_str (pe_ix ix_tupD (pv 0) pe_int (fun _ _ => rfl)) pe_str) (pe_join pe_str (pe_lc (own := [("part", 1)]) (by rfl) nd (pi_tup (pe_slice sl_tupD (pv 0) (po_some pe_int) po_none)) (blkOk_by (N := ["term", "part"]) (sc := defScope s_shown) (by decide +kernel)) (fun _ _ _ _ _ => pg_nm 1 nd) (fun _ _ _ _ _ => pts_nil) (fun _ _ _ _ _ => pe_callH h_shown hr (pa_cons (pv 1) pa_nil))))) pe_str))), ?_⟩
    have hv' := hv
    rw [Tm.da_eq] at hv
    refine ⟨_, rfl, v, _, rfl, hv, rfl, _, rfl, ?_⟩
    refine ite2 (fun c => ?_) (fun c => ?_)
    · have c' : V.int ((Da.str t.name :: t.parts.map Tm.da).length : Nat) = V.int 1 := of_decide_eq_true c
      have c2 : (((Da.str t.name :: t.parts.map Tm.da).length : Nat) : Int) = 1 := by injection c'
      have c3 : t.parts = [] := List.length_eq_zero_iff.mp (by simp only [List.length_cons, List.length_map] at c2; omega)
      refine ⟨_, rfl, _, 0, _, hv, rfl, at0, fun w hw => ?_⟩
      obtain rfl := hw.str_inv
      have e1 : t.text = t.name := by
        cases t with
        | mk n ps =>
          obtain rfl : ps = [] := c3
          refine str_ext ?_
          rw [text_cps, Tm.codes_nil]
          rfl
      rw [e1] at q
      exact q _ (Same.refl _)
    · have c' : ¬ V.int ((Da.str t.name :: t.parts.map Tm.da).length : Nat) = V.int 1 := of_decide_eq_false (Bool.eq_false_iff.mpr c)
      have c3 : t.parts ≠ [] := fun z => c' (by rw [z]; rfl)
      refine ⟨_, rfl, _, 0, _, hv, rfl, at0, fun w hw => ?_⟩
      obtain rfl := hw.str_inv
      have hn2 := Tm.short_name hs
      refine ⟨_, _, rfl, rfl, ?_, ⟨_, rfl⟩, v, rfl, 1, rfl, _, hv, fun v2 H2 S2 hv2 => ?_⟩
      · have : ("(" : Str).length = 1 := by decide +kernel
        omega
      rw [cutD_tail] at hv2
      refine lc_tupD (F := fun t : Tm => .str t.text) hv2 (Nat.le_trans (Tm.short_len hs) (by decide)) (fun x p H3 hp hx S3 Q' N k => ?_) (fun D H3 hD S3 ⟨ws, h3, hw⟩ => ?_)
      · exact ⟨rfl, _, rfl, x, p, rfl, hx, Tm.short_part hs hp, by have := Tm.parts_depth hp; omega, by have := codes_part hp; omega, fun H4 S4 => k _ _ S4 .str⟩
      · have ew := das_texts hw
        subst ew
        obtain ⟨p, ps, ep⟩ : ∃ p ps, t.parts = p :: ps := by
          cases h : t.parts with
          | nil => exact absurd h c3
          | cons p ps => exact ⟨p, ps, rfl⟩
        have ej : (Txt.join ("," : Str) (t.parts.map Tm.text)).cps.toList = Tm.codess p ps := by rw [ep]; exact join_texts p ps
        have et : t.codes = t.name.cps.toList ++ 40 :: (Tm.codess p ps ++ [41]) := by
          cases t with
          | mk n qs =>
            obtain rfl : qs = p :: ps := ep
            rw [Tm.codes_cons]
            rfl
        have el : t.codes.length = t.name.length + 1 + (Tm.codess p ps).length + 1 := by
          rw [et, len_cps]
          simp only [List.length_append, List.length_cons, List.length_nil]
          omega
        have e1 : ("(" : Str).cps.toList = [40] := by decide +kernel
        have e2 : (")" : Str).cps.toList = [41] := by decide +kernel
        have e3 : ("," : Str).length = 1 := by decide +kernel
        have hA : (t.name ++ ("(" : Str)).length = t.name.length + 1 := by rw [len_cps, app_cps, e1, List.length_append, ← len_cps]; rfl
        have hJ : (Txt.join ("," : Str) (t.parts.map Tm.text)).length = (Tm.codess p ps).length := by rw [len_cps, ej]
        have hB : (t.name ++ ("(" : Str) ++ Txt.join ("," : Str) (t.parts.map Tm.text)).length = t.name.length + 1 + (Tm.codess p ps).length := by
          rw [len_cps, app_cps, List.length_append, ← len_cps, ← len_cps, hA, hJ]
        have hC : (")" : Str).length = 1 := by decide +kernel
        refine ⟨",", D, t.parts.map Tm.text, rfl, rfl, .inl (SqL.of h3), ?_, _, _, rfl, rfl, ?_, _, _, rfl, rfl, ?_, ?_⟩
        · have s1 := codess_len p ps
          rw [ep, List.map_map, e3]
          have s2 : ((p :: ps).map ((fun x => x.length) ∘ Tm.text)) = (p :: ps).map fun t => t.codes.length := List.map_congr_left fun x _ => text_len x
          rw [s2, List.length_map, List.length_cons]
          omega
        · rw [hA, hJ]
          omega
        · rw [hB, hC]
          omega
        · have fin : t.name ++ ("(" : Str) ++ Txt.join ("," : Str) (t.parts.map Tm.text) ++ (")" : Str) = t.text := by
            refine str_ext ?_
            rw [app_cps, app_cps, app_cps, ej, text_cps, et, e1, e2]
            simp
          rw [fin]
          exact q _ (S2.trans S3)
end

abbrev s__law_text : Stmt := top 59
theorem sc__law_text : FnScope ["_law_term_here", "_law_part"] ["_law_term_here"] (defScope s__law_text) := ⟨rfl, rfl, rfl, by decide +kernel, rfl, by decide +kernel, by decide +kernel⟩
section
variable {e : Ev} (B : Bl e)
include B
theorem ok__law_text (A__law_text : At e "_law_text" ["_law_term_here"] s__law_text) : ∀ n : Nat, Has e n "_law_text" ["_law_term_here"] (spShown n)
  | 0 => A__law_text.zero fun vs H Q E h => by
    obtain ⟨_, t, _, _, _, h, _⟩ := h
    have := t.depth_pos
    omega
  | n + 1 => by
    have h__law_text := ok__law_text A__law_text n
    refine A__law_text.ok sc__law_text (fun vs H Q E h => ?_) (fun f cdv A outer s H vs Q E hr h => ?_)
    · obtain ⟨v, t, rfl, _⟩ := h
      rfl
    obtain ⟨v, t, rfl, hv, hs, hn, hl, q⟩ := h
    have nd := sc__law_text.nd
    have hls := sizeLine_eq
    refine ⟨_, pss_cons (ps_if (pt_cmpR op_eq (pe_b call_lenT B.len (pa_cons (pv 0) pa_nil)) pe_int (nomark _))
      (pss_one (ps_ret (pe_ix ix_tupD (pv 0) pe_int (fun _ _ => rfl))))
      (pss_nil))
    (pss_one (ps_ret (pe_op op_add_str (pe_op op_add_str (pe_op op_add_str (pe_ix ix_tupD (pv 0) pe_int (fun _ _ => rfl)) pe_str) (pe_join pe_str (pe_lc (own := [("_law_part", 1)]) (by rfl) nd (pi_tup (pe_slice sl_tupD (pv 0) (po_some pe_int) po_none)) (blkOk_by (N := ["_law_term_here", "_law_part"]) (sc := defScope s__law_text) (by decide +kernel)) (fun _ _ _ _ _ => pg_nm 1 nd) (fun _ _ _ _ _ => pts_nil) (fun _ _ _ _ _ => pe_callH h__law_text hr (pa_cons (pv 1) pa_nil))))) pe_str))), ?_⟩
    have hv' := hv
    rw [Tm.da_eq] at hv
    refine ⟨_, rfl, v, _, rfl, hv, rfl, _, rfl, ?_⟩
    refine ite2 (fun c => ?_) (fun c => ?_)
    · have c' : V.int ((Da.str t.name :: t.parts.map Tm.da).length : Nat) = V.int 1 := of_decide_eq_true c
      have c2 : (((Da.str t.name :: t.parts.map Tm.da).length : Nat) : Int) = 1 := by injection c'
      have c3 : t.parts = [] := List.length_eq_zero_iff.mp (by simp only [List.length_cons, List.length_map] at c2; omega)
      refine ⟨_, rfl, _, 0, _, hv, rfl, at0, fun w hw => ?_⟩
      obtain rfl := hw.str_inv
      have e1 : t.text = t.name := by
        cases t with
        | mk n ps =>
          obtain rfl : ps = [] := c3
          refine str_ext ?_
          rw [text_cps, Tm.codes_nil]
          rfl
      rw [e1] at q
      exact q _ (Same.refl _)
    · have c' : ¬ V.int ((Da.str t.name :: t.parts.map Tm.da).length : Nat) = V.int 1 := of_decide_eq_false (Bool.eq_false_iff.mpr c)
      have c3 : t.parts ≠ [] := fun z => c' (by rw [z]; rfl)
      refine ⟨_, rfl, _, 0, _, hv, rfl, at0, fun w hw => ?_⟩
      obtain rfl := hw.str_inv
      have hn2 := Tm.short_name hs
      refine ⟨_, _, rfl, rfl, ?_, ⟨_, rfl⟩, v, rfl, 1, rfl, _, hv, fun v2 H2 S2 hv2 => ?_⟩
      · have : ("(" : Str).length = 1 := by decide +kernel
        omega
      rw [cutD_tail] at hv2
      refine lc_tupD (F := fun t : Tm => .str t.text) hv2 (Nat.le_trans (Tm.short_len hs) (by decide)) (fun x p H3 hp hx S3 Q' N k => ?_) (fun D H3 hD S3 ⟨ws, h3, hw⟩ => ?_)
      · exact ⟨rfl, _, rfl, x, p, rfl, hx, Tm.short_part hs hp, by have := Tm.parts_depth hp; omega, by have := codes_part hp; omega, fun H4 S4 => k _ _ S4 .str⟩
      · have ew := das_texts hw
        subst ew
        obtain ⟨p, ps, ep⟩ : ∃ p ps, t.parts = p :: ps := by
          cases h : t.parts with
          | nil => exact absurd h c3
          | cons p ps => exact ⟨p, ps, rfl⟩
        have ej : (Txt.join ("," : Str) (t.parts.map Tm.text)).cps.toList = Tm.codess p ps := by rw [ep]; exact join_texts p ps
        have et : t.codes = t.name.cps.toList ++ 40 :: (Tm.codess p ps ++ [41]) := by
          cases t with
          | mk n qs =>
            obtain rfl : qs = p :: ps := ep
            rw [Tm.codes_cons]
            rfl
        have el : t.codes.length = t.name.length + 1 + (Tm.codess p ps).length + 1 := by
          rw [et, len_cps]
          simp only [List.length_append, List.length_cons, List.length_nil]
          omega
        have e1 : ("(" : Str).cps.toList = [40] := by decide +kernel
        have e2 : (")" : Str).cps.toList = [41] := by decide +kernel
        have e3 : ("," : Str).length = 1 := by decide +kernel
        have hA : (t.name ++ ("(" : Str)).length = t.name.length + 1 := by rw [len_cps, app_cps, e1, List.length_append, ← len_cps]; rfl
        have hJ : (Txt.join ("," : Str) (t.parts.map Tm.text)).length = (Tm.codess p ps).length := by rw [len_cps, ej]
        have hB : (t.name ++ ("(" : Str) ++ Txt.join ("," : Str) (t.parts.map Tm.text)).length = t.name.length + 1 + (Tm.codess p ps).length := by
          rw [len_cps, app_cps, List.length_append, ← len_cps, ← len_cps, hA, hJ]
        have hC : (")" : Str).length = 1 := by decide +kernel
        refine ⟨",", D, t.parts.map Tm.text, rfl, rfl, .inl (SqL.of h3), ?_, _, _, rfl, rfl, ?_, _, _, rfl, rfl, ?_, ?_⟩
        · have s1 := codess_len p ps
          rw [ep, List.map_map, e3]
          have s2 : ((p :: ps).map ((fun x => x.length) ∘ Tm.text)) = (p :: ps).map fun t => t.codes.length := List.map_congr_left fun x _ => text_len x
          rw [s2, List.length_map, List.length_cons]
          omega
        · rw [hA, hJ]
          omega
        · rw [hB, hC]
          omega
        · have fin : t.name ++ ("(" : Str) ++ Txt.join ("," : Str) (t.parts.map Tm.text) ++ (")" : Str) = t.text := by
            refine str_ext ?_
            rw [app_cps, app_cps, app_cps, ej, text_cps, et, e1, e2]
            simp
          rw [fin]
          exact q _ (S2.trans S3)
end

abbrev s_Reader___init__ : Stmt := inClass (top 20) 0
theorem sc_Reader___init__ : FnScope ["self", "text"] ["self", "text"] (defScope s_Reader___init__) := ⟨rfl, rfl, rfl, by decide +kernel, rfl, by decide +kernel, by decide +kernel⟩
abbrev s_Reader_sign : Stmt := inClass (top 20) 1
theorem sc_Reader_sign : FnScope ["self"] ["self"] (defScope s_Reader_sign) := ⟨rfl, rfl, rfl, by decide +kernel, rfl, by decide +kernel, by decide +kernel⟩
abbrev s_Reader_term : Stmt := inClass (top 20) 2
theorem sc_Reader_term : FnScope ["self", "begin", "name"] ["self"] (defScope s_Reader_term) := ⟨rfl, rfl, rfl, by decide +kernel, rfl, by decide +kernel, by decide +kernel⟩
abbrev s_Reader_parts : Stmt := inClass (top 20) 3
theorem sc_Reader_parts : FnScope ["self", "found"] ["self"] (defScope s_Reader_parts) := ⟨rfl, rfl, rfl, by decide +kernel, rfl, by decide +kernel, by decide +kernel⟩
abbrev s_read : Stmt := top 21
theorem sc_read : FnScope ["text", "reader", "found"] ["text"] (defScope s_read) := ⟨rfl, rfl, rfl, by decide +kernel, rfl, by decide +kernel, by decide +kernel⟩
structure RdC (e : Ev) (C : Addr) : Prop where
  mg : e.mg "Reader" = some (.ref C)
  cl : Cls e.K C
  text : NoAttr e.K C "text"
  at_ : NoAttr e.K C "at"
/-- a reader of z, at the sign i -/
def RdAt (C : Addr) (H : Hp) (x dx : Addr) (z : Str) (i : Nat) : Prop := H x = some (.ins C dx [("text", .str z), ("at", .int i)])
def sgn (z : Str) (i : Nat) : Str := ⟨((z.cps.toList.drop i).take 1).toArray⟩
theorem sgn_nil {z : Str} {i : Nat} (h : z.cps.toList.drop i = []) : sgn z i = "" := by unfold sgn; rw [h]; rfl
theorem sgn_cons {z : Str} {i c : Nat} {r : List Nat} (h : z.cps.toList.drop i = c :: r) : sgn z i = ⟨#[c]⟩ := by unfold sgn; rw [h]; rfl
theorem drop_add {z : Str} {i j : Nat} : z.cps.toList.drop (i + j) = (z.cps.toList.drop i).drop j := by rw [List.drop_drop]
theorem cut_nat {z : Str} {i j : Nat} (h : i ≤ j) : cutS z (some (i : Int)) (some (j : Int)) = ⟨((z.cps.toList.drop i).take (j - i)).toArray⟩ := by
  unfold cutS
  rw [HT.sIx_nat, HT.sIx_nat, len_cps]
  by_cases h1 : i ≤ z.cps.toList.length
  · rw [Nat.min_eq_left h1]
    by_cases h2 : j ≤ z.cps.toList.length
    · rw [Nat.min_eq_left h2]
    · rw [Nat.min_eq_right (by omega)]
      have e1 : (z.cps.toList.drop i).length = z.cps.toList.length - i := List.length_drop
      rw [List.take_of_length_le (by omega), List.take_of_length_le (by omega)]
  · rw [Nat.min_eq_right (by omega), Nat.min_eq_right (by omega), List.drop_of_length_le (Nat.le_refl _), List.drop_of_length_le (by omega)]
    simp
theorem sgn_ne {z : Str} {i : Nat} {c : Nat} {r : List Nat} (h : z.cps.toList.drop i = c :: r) : V.str (sgn z i) ≠ V.str "" := fun z0 => by
  rw [sgn_cons h] at z0
  injection z0 with z0
  have e0 : ("" : Str).cps.toList = [] := by decide +kernel
  have : [c] = ("" : Str).cps.toList := congrArg (fun s : Str => s.cps.toList) z0
  rw [e0] at this
  cases this
theorem sgn_is {z : Str} {i : Nat} {c d : Nat} {r : List Nat} {s : Str} (hs : s.cps.toList = [d]) (h : z.cps.toList.drop i = c :: r) : V.str (sgn z i) = V.str s ↔ c = d := by
  rw [sgn_cons h]
  constructor
  · intro z0
    injection z0 with z0
    have := congrArg (fun s : Str => s.cps.toList) z0
    rw [hs] at this
    simpa using this
  · rintro rfl
    refine congrArg V.str (str_ext ?_)
    rw [hs]
theorem sgn_not {z : Str} {i : Nat} {d : Nat} {s : Str} (hs : s.cps.toList = [d]) (h : z.cps.toList.drop i = []) : V.str (sgn z i) ≠ V.str s := by
  rw [sgn_nil h]
  intro z0
  injection z0 with z0
  have e0 : ("" : Str).cps.toList = [] := by decide +kernel
  have : ("" : Str).cps.toList = s.cps.toList := congrArg (fun s : Str => s.cps.toList) z0
  rw [e0, hs] at this
  cases this
theorem dropWhile_head {p : Nat → Bool} : ∀ {l : List Nat} {c : Nat} {r : List Nat}, l.dropWhile p = c :: r → p c = false
  | [], _, _, h => by simp at h
  | x :: l, c, r, h => by
    rw [List.dropWhile_cons] at h
    split at h
    · exact dropWhile_head h
    · rename_i hx
      injection h with h _
      subst h
      simpa using hx
def spRInit (C : Addr) : Sp := fun vs H Q _ => ∃ (x dx : Addr) (z : Str), vs = [.ref x, .str z] ∧ H x = some (.ins C dx []) ∧ ∀ H', But x H H' → RdAt C H' x dx z 0 → Q .non H'
def spSign (C : Addr) : Sp := fun vs H Q _ => ∃ (x dx : Addr) (z : Str) (i : Nat), vs = [.ref x] ∧ RdAt C H x dx z i ∧ z.length ≤ 1000 ∧ Q (.str (sgn z i)) H
def spRTerm (C Cb : Addr) (n : Nat) : Sp := fun vs H Q E => ∃ (x dx : Addr) (z : Str) (i : Nat), vs = [.ref x] ∧ RdAt C H x dx z i ∧ z.length ≤ 1000 ∧ (z.cps.toList.drop i).count 40 < n ∧ n ≤ 60 ∧
  (∀ t r, pT n (z.cps.toList.drop i) = some (t, r) → ∀ v H' j, But x H H' → RdAt C H' x dx z j → z.cps.toList.drop j = r → DaAt H' v t.da → Q v H') ∧
  (pT n (z.cps.toList.drop i) = none → ∀ H', But x H H' → E (.ref Cb) none H')
def spRParts (C Cb : Addr) (n : Nat) : Sp := fun vs H Q E => ∃ (x dx : Addr) (z : Str) (i : Nat) (r : List Nat), vs = [.ref x] ∧ RdAt C H x dx z i ∧ z.length ≤ 1000 ∧ z.cps.toList.drop i = 40 :: r ∧ r.count 40 < n ∧ n ≤ 60 ∧
  (∀ ps q, pLa (pT n) (r.length + 1) [] r = some (ps, 41 :: q) → ps.length ≤ 3 → ∀ p H' j, But x H H' → H p = none → RdAt C H' x dx z j → z.cps.toList.drop j = q → LD H' p (ps.map Tm.da) → Q (.ref p) H') ∧
  ((∀ ps q, pLa (pT n) (r.length + 1) [] r = some (ps, 41 :: q) → ¬ ps.length ≤ 3) → ∀ H', But x H H' → E (.ref Cb) none H')
theorem RdAt.tx {C : Addr} {H H' : Hp} {x dx : Addr} {z : Str} {i : Nat} (h : RdAt C H x dx z i) (b : But x H H') : TX H H' := fun a o i e => b a _ (ne_of e h (fun z => by subst z; exact i)) e
section
variable {e : Ev} {Cb : Addr} (B : Bl e)
include B
theorem ok_rinit (A_Reader___init__ : AtI e C_Reader "Reader.__init__" ["self", "text"] s_Reader___init__) (c_Reader : RdC e C_Reader) : HasI e 1 C_Reader ["self", "text"] (spRInit C_Reader) := by
  refine A_Reader___init__.ok sc_Reader___init__ (fun vs H Q E h => ?_) (fun f cdv A outer s H vs Q E hr h => ?_)
  · obtain ⟨x, dx, z, rfl, _⟩ := h
    rfl
  obtain ⟨x, dx, z, rfl, h0, q⟩ := h
  have nd := sc_Reader___init__.nd
  refine ⟨_, pss_cons (ps_fld (pv 0) (pv 1) rfl)
    (pss_one (ps_fld (pv 0) pe_int rfl)), ?_⟩
  refine ⟨_, rfl, _, rfl, x, C_Reader, dx, [], rfl, h0, c_Reader.cl, c_Reader.text, by decide, ?_⟩
  refine ⟨_, rfl, x, C_Reader, dx, _, rfl, upd_same, c_Reader.cl, c_Reader.at_, (by show (1 : Nat) < 1000; decide), ?_⟩
  refine q _ ((But.put _ _).trans (But.put _ _)) ?_
  unfold RdAt
  rw [upd_same]
  rfl
theorem ok_sign (A_Reader_sign : AtM e C_Reader "sign" "Reader.sign" ["self"] s_Reader_sign) (c_Reader : RdC e C_Reader) : HasM e 1 C_Reader "sign" ["self"] (spSign C_Reader) := by
  refine A_Reader_sign.ok sc_Reader_sign (fun vs H Q E h => ?_) (fun f cdv A outer s H vs Q E hr h => ?_)
  · obtain ⟨x, dx, z, i, rfl, _⟩ := h
    rfl
  obtain ⟨x, dx, z, i, rfl, h0, hz, q⟩ := h
  have hls := sizeLine_eq
  refine ⟨_, pss_one (ps_ret (pe_slice sl_str (pe_fldE (e := e) (pv 0) rfl) (po_some (pe_fldE (e := e) (pv 0) rfl)) (po_some (pe_op op_add (pe_fldE (e := e) (pv 0) rfl) pe_int)))), ?_⟩
  refine ⟨_, rfl, x, C_Reader, dx, _, _, rfl, h0, c_Reader.cl, c_Reader.text, rfl, ?_⟩
  refine ⟨_, rfl, x, C_Reader, dx, _, _, rfl, h0, c_Reader.cl, c_Reader.at_, by rfl, _, rfl, ?_⟩
  refine ⟨_, rfl, x, C_Reader, dx, _, _, rfl, h0, c_Reader.cl, c_Reader.at_, by rfl, _, _, rfl, rfl, _, rfl, z, rfl, by omega, ?_⟩
  have e1 : ((i : Nat) : Int) + 1 = ((i + 1 : Nat) : Int) := by omega
  rw [e1, cut_nat (by omega), Nat.add_sub_cancel_left]
  exact q
theorem ok_rterm_succ (A_Reader_term : AtM e C_Reader "term" "Reader.term" ["self"] s_Reader_term) (c_Reader : RdC e C_Reader) (h_is_name : Has e 1 "is_name" ["text"] spIsName) (k_LETTERS : Cst e "LETTERS" (.str "abcdefghijklmnopqrstuvwxyz")) (k_BadText : ExK e "BadText" Cb)
    (h_Reader_sign : HasM e 1 C_Reader "sign" ["self"] (spSign C_Reader)) (n : Nat) (h_Reader_parts : HasM e (2 * n + 3) C_Reader "parts" ["self"] (spRParts C_Reader Cb n)) : HasM e (2 * (n + 1) + 2) C_Reader "term" ["self"] (spRTerm C_Reader Cb (n + 1)) := by
  refine A_Reader_term.okX (k := 2 * (n + 1) + 1) sc_Reader_term (fun vs H Q E h => ?_) (fun f cdv A outer s H vs Q E hr h => ?_)
  · obtain ⟨x, dx, z, i, rfl, _⟩ := h
    rfl
  obtain ⟨x, dx, z, i, rfl, h0, hz, hc', hn, q, qx⟩ := h
  have nd := sc_Reader_term.nd
  have hls := sizeLine_eq
  refine ⟨_, pss_cons (ps_st 1 nd (pe_fldE (e := e) (pv 0) rfl))
    (pss_cons (ps_cut (ps_while (passes_of rfl) (PW.pt (pw_and (pt_cmpR op_ne (pe_methH0 h_Reader_sign hr c_Reader.cl (pv 0)) pe_str (nomark _)) (pw_and1 (pt_cmpR op_in_sign (pe_methH0 h_Reader_sign hr c_Reader.cl (pv 0)) (pe_cst k_LETTERS) (by rfl)))))
      (pss_one (ps_fld (pv 0) (pe_op op_add (pe_fldE (e := e) (pv 0) rfl) pe_int) rfl))))
    (pss_cons (ps_st 2 nd (pe_slice sl_str (pe_fldE (e := e) (pv 0) rfl) (po_some (pv 1)) (po_some (pe_fldE (e := e) (pv 0) rfl))))
    (pss_cons (ps_if (pt_not (pt_val (pe_callH h_is_name hr (pa_cons (pv 2) pa_nil))))
      (pss_one (ps_raiseE k_BadText (takes_of rfl rfl rfl rfl)))
      (pss_nil))
    (pss_cons (ps_if (pt_cmpR op_ne (pe_methH0 h_Reader_sign hr c_Reader.cl (pv 0)) pe_str (nomark _))
      (pss_one (ps_ret (pe_tupD (pa_cons (pv 2) pa_nil))))
      (pss_nil))
    (pss_one (ps_ret (pe_op op_catD (pe_tupD (pa_cons (pv 2) pa_nil)) (pe_ty call_tupL B.tuple (pa_cons (pe_methX0 h_Reader_parts hr (takes_of rfl rfl rfl rfl) c_Reader.cl (pv 0)) pa_nil))))))))), ?_⟩
  refine ⟨_, rfl, x, C_Reader, dx, _, _, rfl, h0, c_Reader.cl, c_Reader.at_, by rfl, ?_⟩
  have esp : z.cps.toList.drop i = (z.cps.toList.drop i).takeWhile letter ++ (z.cps.toList.drop i).dropWhile letter := List.takeWhile_append_dropWhile.symm
  obtain ⟨tw, etw⟩ : ∃ tw, tw = (z.cps.toList.drop i).takeWhile letter := ⟨_, rfl⟩
  obtain ⟨dw, edw⟩ : ∃ dw, dw = (z.cps.toList.drop i).dropWhile letter := ⟨_, rfl⟩
  rw [← etw, ← edw] at esp
  have edrop : ∀ k, k ≤ tw.length → z.cps.toList.drop (i + k) = tw.drop k ++ dw := fun k hk => by
    rw [drop_add, esp, List.drop_append_of_le_length hk]
  refine ⟨fun σ H' => σ = [some (.ref x), some (.int i), none] ∧ But x H H' ∧ RdAt C_Reader H' x dx z (i + tw.length), ?_, ?_⟩
  · refine ⟨fun m σ H' => ∃ k, m = tw.length - k ∧ k ≤ tw.length ∧ σ = [some (.ref x), some (.int i), none] ∧ But x H H' ∧ RdAt C_Reader H' x dx z (i + k), ⟨_, 0, rfl, Nat.zero_le _, rfl, But.refl _, h0⟩, ?_⟩
    rintro m σ H' ⟨k, rfl, hk, rfl, b1, h1⟩
    refine ⟨_, rfl, x, dx, _, rfl, h1, by rfl, x, dx, z, i + k, rfl, h1, hz, rfl, _, rfl, ?_⟩
    have hd := edrop k hk
    by_cases hkl : k < tw.length
    · have hd2 : z.cps.toList.drop (i + k) = tw[k] :: (tw.drop (k + 1) ++ dw) := by rw [hd, List.drop_eq_getElem_cons hkl]; rfl
      have hlt : letter tw[k] = true := takeWhile_all (z.cps.toList.drop i) _ (by rw [← etw]; exact List.getElem_mem hkl)
      refine ite2 (fun c => ?_) (fun c => absurd (decide_eq_true (sgn_ne hd2)) (by simpa using c))
      refine ⟨_, rfl, x, dx, _, rfl, h1, by rfl, x, dx, z, i + k, rfl, h1, hz, tw[k], _, by rw [sgn_cons hd2], rfl, _, rfl, ?_⟩
      rw [abc_dec, hlt]
      refine ⟨fun σ H' => σ = [some (.ref x), some (.int i), none] ∧ But x H H' ∧ RdAt C_Reader H' x dx z (i + (k + 1)), fun σ' H'' ⟨e1, b2, h2⟩ => ⟨_, ?_, k + 1, rfl, hkl, e1, b2, h2⟩, ?_⟩
      · omega
      refine ⟨_, rfl, x, C_Reader, dx, _, _, rfl, h1, c_Reader.cl, c_Reader.at_, by rfl, _, _, rfl, rfl, _, rfl, x, C_Reader, dx, _, rfl, h1, c_Reader.cl, c_Reader.at_, by simp, rfl, b1.trans (But.put _ _), ?_⟩
      unfold RdAt
      rw [upd_same]
      rfl
    · obtain rfl : k = tw.length := by omega
      rw [List.drop_length, List.nil_append] at hd
      cases hdw : dw with
      | nil =>
        rw [hdw] at hd
        refine ite2 (fun c => ?_) (fun c => ⟨rfl, b1, h1⟩)
        rw [sgn_nil hd] at c
        exact absurd c (by decide +kernel)
      | cons c r =>
        rw [hdw] at hd
        refine ite2 (fun _ => ?_) (fun c => absurd (decide_eq_true (sgn_ne hd)) (by simpa using c))
        refine ⟨_, rfl, x, dx, _, rfl, h1, by rfl, x, dx, z, _, rfl, h1, hz, c, _, by rw [sgn_cons hd], rfl, _, rfl, ?_⟩
        have hl : letter c = false := by
          have := edw.symm.trans hdw
          exact dropWhile_head this
        rw [abc_dec, hl]
        exact ⟨rfl, b1, h1⟩
  · rintro σ H1 ⟨rfl, b1, h1⟩
    have hw : tw.length ≤ z.length := by
      have := congrArg List.length esp
      rw [List.length_drop, List.length_append] at this
      rw [len_cps]
      omega
    have ecut : cutS z (some (i : Int)) (some ((i + tw.length : Nat) : Int)) = ⟨tw.toArray⟩ := by
      rw [cut_nat (by omega), esp, Nat.add_sub_cancel_left, List.take_left]
    refine ⟨_, rfl, x, C_Reader, dx, _, _, rfl, h1, c_Reader.cl, c_Reader.text, by rfl, _, rfl, _, rfl, ?_⟩
    refine ⟨_, rfl, x, C_Reader, dx, _, _, rfl, h1, c_Reader.cl, c_Reader.at_, by rfl, _, rfl, z, rfl, by omega, ?_⟩
    rw [ecut]
    have hd := edrop tw.length (Nat.le_refl _)
    rw [List.drop_length, List.nil_append] at hd
    have hnl : (⟨tw.toArray⟩ : Str).length = tw.length := by rw [len_cps]
    have hnm : nameB ⟨tw.toArray⟩ = (decide (1 ≤ tw.length) && decide (tw.length ≤ 6)) := by
      unfold nameB
      rw [hnl, List.all_eq_true.mpr fun c hc => takeWhile_all (z.cps.toList.drop i) c (by rw [← etw]; simpa using hc)]
      rfl
    refine ⟨_, rfl, ⟨tw.toArray⟩, rfl, by rw [hnl]; omega, _, rfl, ?_⟩
    have epT : pT (n + 1) (z.cps.toList.drop i) = pT (n + 1) (z.cps.toList.drop i) := rfl
    conv at epT =>
      rhs
      rw [pT, ← etw, ← edw]
    by_cases hb : 1 ≤ tw.length ∧ tw.length ≤ 6
    · rw [hnm, decide_eq_true hb.1, decide_eq_true hb.2]
      rw [if_pos hb] at epT
      refine ⟨_, rfl, x, dx, _, rfl, h1, by rfl, x, dx, z, _, rfl, h1, hz, rfl, _, rfl, ?_⟩
      cases hdw : dw with
      | nil =>
        rw [hdw] at hd epT
        refine ite2 (fun _ => ?_) (fun c => absurd (decide_eq_true (sgn_not (d := 40) (s := "(") (by decide +kernel) hd)) (by simpa using c))
        refine ⟨_, rfl, [.str ⟨tw.toArray⟩], .one .str, by simp, fun v H2 S2 hv => ?_⟩
        exact q _ _ epT _ _ _ (b1.trans (But.of S2)) (S2 _ _ h1) hd (by rw [Tm.da_eq]; exact hv)
      | cons c r =>
        rw [hdw] at hd epT
        simp only at epT
        by_cases hc : c = 40
        · subst hc
          rw [if_pos rfl] at epT
          refine ite2 (fun z0 => ?_) (fun _ => ?_)
          · rw [decide_eq_true ((sgn_is (by decide +kernel) hd).mpr rfl)] at z0
            cases z0
          refine ⟨_, rfl, [.str ⟨tw.toArray⟩], .one .str, by simp, fun v H2 S2 hv => ?_⟩
          have h2 : RdAt C_Reader H2 x dx z (i + tw.length) := S2 _ _ h1
          refine ⟨_, rfl, x, dx, _, rfl, h2, by rfl, x, dx, z, _, r, rfl, h2, hz, hd, ?_, by omega, ?_, ?_⟩
          · rw [esp, hdw, List.count_append, List.count_cons_self] at hc'
            omega
          · intro ps q' e1 e2 p H3 j b3 hp h3 hj hl
            rw [e1] at epT
            simp only [true_and, e2, if_true] at epT
            have t3 : TX H2 H3 := h2.tx b3
            refine ⟨p, _, rfl, hl, fun v4 H4 S4 hv4 => ⟨_, _, (hv.mono t3).mono (TX.of_same S4), hv4, by simp only [List.length_map, List.length_cons, List.length_nil]; omega, fun v5 H5 S5 hv5 => ?_⟩⟩
            exact q _ _ epT _ _ _ (((b1.trans (But.of S2)).trans b3).trans ((But.of S4).trans (But.of S5))) (S5 _ _ (S4 _ _ h3)) hj (by rw [Tm.da_eq]; exact hv5)
          · intro e1 H3 b3
            refine qx ?_ _ ((b1.trans (But.of S2)).trans b3)
            rw [epT]
            cases hL : pLa (pT n) (r.length + 1) [] r with
            | none => rfl
            | some pq =>
              obtain ⟨ps, q'⟩ := pq
              cases q' with
              | nil => rfl
              | cons d q2 =>
                show (if d = 41 ∧ ps.length ≤ 3 then _ else none) = none
                rw [if_neg]
                rintro ⟨rfl, h3⟩
                exact e1 _ _ hL h3
        · rw [if_neg hc] at epT
          refine ite2 (fun _ => ?_) (fun z0 => ?_)
          · refine ⟨_, rfl, [.str ⟨tw.toArray⟩], .one .str, by simp, fun v H2 S2 hv => ?_⟩
            exact q _ _ epT _ _ _ (b1.trans (But.of S2)) (S2 _ _ h1) hd (by rw [Tm.da_eq]; exact hv)
          · have : ¬ V.str (sgn z (i + tw.length)) = V.str "(" := fun z1 => hc ((sgn_is (by decide +kernel) hd).mp z1)
            rw [decide_eq_false this] at z0
            exact absurd rfl z0
    · have hb' : (decide (1 ≤ tw.length) && decide (tw.length ≤ 6)) = false := by
        rw [Bool.and_eq_false_iff]
        rcases Nat.lt_or_ge tw.length 1 with h | h
        · exact .inl (decide_eq_false (by omega))
        · exact .inr (decide_eq_false (by omega))
      rw [hnm, hb']
      rw [if_neg hb] at epT
      exact qx epT _ b1
theorem ok_rparts (A_Reader_parts : AtM e C_Reader "parts" "Reader.parts" ["self"] s_Reader_parts) (c_Reader : RdC e C_Reader) (k_MOST_PARTS : Cst e "MOST_PARTS" (.int 3)) (k_BadText : ExK e "BadText" Cb)
    (h_Reader_sign : HasM e 1 C_Reader "sign" ["self"] (spSign C_Reader)) (n : Nat) (h_Reader_term : HasM e (2 * n + 2) C_Reader "term" ["self"] (spRTerm C_Reader Cb n)) : HasM e (2 * n + 3) C_Reader "parts" ["self"] (spRParts C_Reader Cb n) := by
  refine A_Reader_parts.okX (k := 2 * n + 2) sc_Reader_parts (fun vs H Q E h => ?_) (fun f cdv A outer s H vs Q E hr h => ?_)
  · obtain ⟨x, dx, z, i, r, rfl, _⟩ := h
    rfl
  obtain ⟨x, dx, z, i, r, rfl, h0, hz, hd0, hc, hn, q, qx⟩ := h
  have nd := sc_Reader_parts.nd
  have hls := sizeLine_eq
  refine ⟨_, pss_cons (ps_st 1 nd (pe_lstA pa_nil))
    (pss_cons (ps_cut (ps_while (passes_of rfl) (PW.pt (pw_or (pt_cmpR (op_eqNil (hu64 hr)) (pv 1) (pe_lstA pa_nil) (nomark _)) (pw_or1 (pt_cmpR op_eq (pe_methH0 h_Reader_sign hr c_Reader.cl (pv 0)) pe_str (nomark _)))))
      (pss_cons (ps_fld (pv 0) (pe_op op_add (pe_fldE (e := e) (pv 0) rfl) pe_int) rfl)
      (pss_one (ps_expr (pe_app (pv 1) (pa_cons (pe_methX0 h_Reader_term hr (takes_of rfl rfl rfl rfl) c_Reader.cl (pv 0)) pa_nil)))))))
    (pss_cons (ps_if (PW.pt (pw_or (pt_cmpR op_ne (pe_methH0 h_Reader_sign hr c_Reader.cl (pv 0)) pe_str (nomark _)) (pw_or1 (pt_cmpR op_gt (pe_b call_lenL B.len (pa_cons (pv 1) pa_nil)) (pe_cst k_MOST_PARTS) (nomark _)))))
      (pss_one (ps_raiseE k_BadText (takes_of rfl rfl rfl rfl)))
      (pss_nil))
    (pss_cons (ps_fld (pv 0) (pe_op op_add (pe_fldE (e := e) (pv 0) rfl) pe_int) rfl)
    (pss_one (ps_ret (pv 1)))))), ?_⟩
  refine ⟨by simp, fun F H0 hF S0 hF0 => ?_⟩
  obtain ⟨R, eR⟩ : ∃ R, R = pLa (pT n) (r.length + 1) [] r := ⟨_, rfl⟩
  rw [← eR] at q qx
  have hlen : ∀ j, (z.cps.toList.drop j).length = z.cps.toList.length - j := fun j => List.length_drop
  have hxF : x ≠ F := ne_of_none h0 hF
  refine ⟨fun σ H' => ∃ acc vs j, σ = [some (.ref x), some (.ref F)] ∧ H' F = some (.lst vs) ∧ DasAt H' vs (acc.map Tm.da) ∧ But x H H' ∧ RdAt C_Reader H' x dx z j ∧ acc ≠ [] ∧ (∀ c q, z.cps.toList.drop j = c :: q → c ≠ 44) ∧ R = some (acc, z.cps.toList.drop j), ?_, ?_⟩
  · refine ⟨fun m σ H' => ∃ acc vs j, m = (z.cps.toList.drop j).length ∧ σ = [some (.ref x), some (.ref F)] ∧ H' F = some (.lst vs) ∧ DasAt H' vs (acc.map Tm.da) ∧ But x H H' ∧ RdAt C_Reader H' x dx z j ∧ acc.length + (z.cps.toList.drop j).length ≤ 2000 ∧
      (((acc = [] ∨ ∃ r2, z.cps.toList.drop j = 44 :: r2) ∧ ∃ cs k, z.cps.toList.drop (j + 1) = cs ∧ R = pLa (pT n) k acc cs ∧ cs.length < k ∧ cs.count 40 < n ∧ z.cps.toList.drop j ≠ []) ∨ (acc ≠ [] ∧ (∀ c q, z.cps.toList.drop j = c :: q → c ≠ 44) ∧ R = some (acc, z.cps.toList.drop j))), ?_, ?_⟩
    · refine ⟨_, [], [], i, rfl, rfl, hF0, .nil, But.of S0, S0 _ _ h0, ?_, .inl ⟨.inl rfl, r, _, ?_, eR, Nat.lt_succ_self _, hc, by rw [hd0]; simp⟩⟩
      · rw [hlen, ← len_cps]
        simp only [List.length_nil]
        omega
      · rw [drop_add, hd0]
        rfl
    · rintro m σ H' ⟨acc, vs, j, rfl, rfl, h1, hv, b1, h2, hz2, hcase⟩
      rcases hcase with ⟨hopen, cs, k, hcs, hR, hk, hcc, hjne⟩ | ⟨hne, h3, h4⟩
      · have key : ∀ P : Bool → Hp → Prop, (∀ H2, Same H' H2 → P true H2) → tOr (tTest (tOp (rEqNil e.K false) (tVar 1) (tLstA tNil))) (tTest (tOp rEq (tMeth C_Reader "sign" (spSign C_Reader) [] E0 (tVar 0) tNil) (tC (.str ",")))) [some (.ref x), some (.ref F)] H' P := by
          intro P k
          refine ⟨_, rfl, by simp, fun p H2 hp S2 hp2 => ⟨F, p, vs, rfl, rfl, SqL.of (S2 _ _ h1), hp2, _, rfl, ?_⟩⟩
          rcases hopen with rfl | ⟨r2, hr2⟩
          · obtain rfl := hv.nil_inv
            exact k _ S2
          · cases hve : vs.isEmpty with
            | true => exact k _ S2
            | false =>
              refine ⟨_, rfl, x, dx, _, rfl, S2 _ _ h2, by rfl, x, dx, z, j, rfl, S2 _ _ h2, hz, rfl, _, rfl, ?_⟩
              rw [decide_eq_true ((sgn_is (d := 44) (s := ",") (by decide +kernel) hr2).mpr rfl)]
              exact k _ S2
        refine key _ fun H2 S2 => ?_
        have h2' : RdAt C_Reader H2 x dx z j := S2 _ _ h2
        refine ⟨_, fun σ' H' q => q, ?_⟩
        refine ⟨_, rfl, x, C_Reader, dx, _, _, rfl, h2', c_Reader.cl, c_Reader.at_, by rfl, _, _, rfl, rfl, _, rfl, x, C_Reader, dx, _, rfl, h2', c_Reader.cl, c_Reader.at_, by simp, ?_⟩
        obtain ⟨H3, eH3⟩ : ∃ H3, H3 = upd H2 x (.ins C_Reader dx (putF "at" (.int (((j : Nat) : Int) + 1)) [("text", .str z), ("at", .int j)])) := ⟨_, rfl⟩
        rw [← eH3]
        have h3 : RdAt C_Reader H3 x dx z (j + 1) := by
          rw [eH3]
          unfold RdAt
          rw [upd_same]
          rfl
        have b3 : But x H2 H3 := by rw [eH3]; exact But.put _ _
        have hF3 : H3 F = some (.lst vs) := b3 _ _ (Ne.symm hxF) (S2 _ _ h1)
        have t3 : TX H2 H3 := h2'.tx b3
        refine ⟨_, rfl, .inl ⟨rfl, vs, SqL.of hF3⟩, _, rfl, x, dx, _, rfl, h3, by rfl, x, dx, z, j + 1, rfl, h3, hz, by rw [hcs]; exact hcc, hn, ?_, ?_⟩
        · intro t r3 e1 v H4 j2 b4 h4 hj2 hv2
          rw [hcs] at e1
          obtain ⟨-, pp, ep, hpp⟩ := pT_tail n cs t r3 e1
          have hF4 : H4 F = some (.lst vs) := b4 _ _ (Ne.symm hxF) hF3
          have hlj : cs.length + 1 = (z.cps.toList.drop j).length := by
            rw [← hcs, hlen, hlen]
            have : 0 < (z.cps.toList.drop j).length := List.length_pos_iff.mpr hjne
            rw [hlen] at this
            omega
          have hlr : r3.length < cs.length := by
            have := List.length_pos_iff.mpr hpp
            rw [ep, List.length_append]
            omega
          have t4 : TX H3 H4 := h3.tx b4
          have hvl := hv.length
          rw [List.length_map] at hvl
          have hva : DasAt (upd H4 F (.lst (vs ++ [v]))) (vs ++ [v]) ((acc ++ [t]).map Tm.da) := by
            rw [List.map_append]
            exact ((((hv.mono (TX.of_same S2)).mono t3).mono t4).append (.one hv2)).mono (TX.lst hF4)
          have ba : But x H (upd H4 F (.lst (vs ++ [v]))) := fun a o i e => by
            rw [upd_ne (ne_of_none e hF)]
            exact (((b1.trans (But.of S2)).trans b3).trans b4) a o i e
          have ha : RdAt C_Reader (upd H4 F (.lst (vs ++ [v]))) x dx z j2 := by
            unfold RdAt
            rw [upd_ne hxF]
            exact h4
          refine ⟨F, vs, v, rfl, rfl, hF4, by omega, (z.cps.toList.drop j2).length, by rw [hj2]; omega, acc ++ [t], vs ++ [v], j2, rfl, rfl, upd_same, hva, ba, ha, by rw [hj2, List.length_append, List.length_singleton]; omega, ?_⟩
          obtain ⟨k', rfl⟩ : ∃ k', k = k' + 1 := ⟨k - 1, by omega⟩
          rw [pLa, e1] at hR
          cases r3 with
          | nil => exact .inr ⟨by simp, fun c q z => by (rw [hj2] at z; cases z), by rw [hj2]; exact hR⟩
          | cons c r2 =>
            simp only at hR
            by_cases hc44 : c = 44
            · subst hc44
              rw [if_pos rfl] at hR
              refine .inl ⟨.inr ⟨r2, hj2⟩, r2, k', by rw [drop_add, hj2]; rfl, hR, by simp only [List.length_cons] at hlr; omega, ?_, by rw [hj2]; simp⟩
              rw [ep, List.count_append, List.count_cons] at hcc
              omega
            · rw [if_neg hc44] at hR
              exact .inr ⟨by simp, fun c' q z => by (rw [hj2] at z; cases z; exact hc44), by rw [hj2]; exact hR⟩
        · intro e1 H4 b4
          rw [hcs] at e1
          refine qx ?_ _ (((b1.trans (But.of S2)).trans b3).trans b4)
          obtain ⟨k', rfl⟩ : ∃ k', k = k' + 1 := ⟨k - 1, by omega⟩
          rw [pLa, e1] at hR
          intro ps q' z
          rw [hR] at z
          cases z
      · refine ⟨_, rfl, by simp, fun p H2 hp S2 hp2 => ⟨F, p, vs, rfl, rfl, SqL.of (S2 _ _ h1), hp2, _, rfl, ?_⟩⟩
        have hve : vs.isEmpty = false := by
          cases vs with
          | nil =>
            have := hv.length
            rw [List.length_map] at this
            exact absurd (List.length_eq_zero_iff.mp this.symm) hne
          | cons _ _ => rfl
        rw [hve]
        refine ⟨_, rfl, x, dx, _, rfl, S2 _ _ h2, by rfl, x, dx, z, j, rfl, S2 _ _ h2, hz, rfl, _, rfl, ?_⟩
        have hs : decide (V.str (sgn z j) = V.str ",") = false := by
          refine decide_eq_false fun z0 => ?_
          cases hdj : z.cps.toList.drop j with
          | nil => exact sgn_not (d := 44) (s := ",") (by decide +kernel) hdj z0
          | cons c q' => exact h3 _ _ hdj ((sgn_is (d := 44) (by decide +kernel) hdj).mp z0)
        rw [hs]
        exact ⟨acc, vs, j, rfl, S2 _ _ h1, hv.mono (TX.of_same S2), b1.trans (But.of S2), S2 _ _ h2, hne, h3, h4⟩
  · rintro σ H' ⟨acc, vs, j, rfl, h1, hv, b1, h2, hne, h3, h4⟩
    refine ⟨_, rfl, x, dx, _, rfl, h2, by rfl, x, dx, z, j, rfl, h2, hz, rfl, _, rfl, ?_⟩
    cases hdj : z.cps.toList.drop j with
    | nil =>
      refine ite2 (fun _ => ?_) (fun c => absurd (decide_eq_true (sgn_not (d := 41) (s := ")") (by decide +kernel) hdj)) (by simpa using c))
      refine qx (fun ps q' z0 => ?_) _ b1
      rw [h4, hdj] at z0
      cases z0
    | cons c q' =>
      by_cases hc41 : c = 41
      · subst hc41
        refine ite2 (fun z0 => ?_) (fun _ => ?_)
        · rw [decide_eq_true ((sgn_is (d := 41) (s := ")") (by decide +kernel) hdj).mpr rfl)] at z0
          cases z0
        refine ⟨_, rfl, F, _, rfl, SqL.of h1, _, _, rfl, rfl, _, rfl, ?_⟩
        have hvl := hv.length
        rw [List.length_map] at hvl
        by_cases hl3 : acc.length ≤ 3
        · rw [decide_eq_false (by omega)]
          refine ⟨_, rfl, x, C_Reader, dx, _, _, rfl, h2, c_Reader.cl, c_Reader.at_, by rfl, _, _, rfl, rfl, _, rfl, x, C_Reader, dx, _, rfl, h2, c_Reader.cl, c_Reader.at_, by simp, _, rfl, ?_⟩
          have b2 : But x H' (upd H' x (.ins C_Reader dx (putF "at" (.int (((j : Nat) : Int) + 1)) [("text", .str z), ("at", .int j)]))) := But.put _ _
          refine q acc q' (by rw [h4, hdj]) hl3 F _ (j + 1) (b1.trans b2) hF ?_ (by rw [drop_add, hdj]; rfl) ⟨vs, ?_, hv.mono (h2.tx b2)⟩
          · unfold RdAt
            rw [upd_same]
            rfl
          · exact b2 _ _ (Ne.symm hxF) h1
        · rw [decide_eq_true (by omega)]
          refine qx (fun ps q'' z0 => ?_) _ b1
          rw [h4] at z0
          injection z0 with z0
          injection z0 with z1 z2
          rw [← z1]
          exact hl3
      · refine ite2 (fun _ => ?_) (fun z0 => ?_)
        · refine qx (fun ps q'' z0 => ?_) _ b1
          rw [h4, hdj] at z0
          cases z0
          exact absurd rfl hc41
        · have : ¬ V.str (sgn z j) = V.str ")" := fun z1 => hc41 ((sgn_is (by decide +kernel) hdj).mp z1)
          rw [decide_eq_false this] at z0
          exact absurd rfl z0
theorem ok_rterm (A_Reader_term : AtM e C_Reader "term" "Reader.term" ["self"] s_Reader_term) (A_Reader_parts : AtM e C_Reader "parts" "Reader.parts" ["self"] s_Reader_parts) (c_Reader : RdC e C_Reader) (h_is_name : Has e 1 "is_name" ["text"] spIsName) (k_LETTERS : Cst e "LETTERS" (.str "abcdefghijklmnopqrstuvwxyz")) (k_MOST_PARTS : Cst e "MOST_PARTS" (.int 3)) (k_BadText : ExK e "BadText" Cb)
    (h_Reader_sign : HasM e 1 C_Reader "sign" ["self"] (spSign C_Reader)) : ∀ n : Nat, HasM e (2 * n + 2) C_Reader "term" ["self"] (spRTerm C_Reader Cb n)
  | 0 => (A_Reader_term.zero fun vs H Q E h => by
    obtain ⟨x, dx, z, i, _, _, _, h, _⟩ := h
    omega).mono (by omega)
  | n + 1 => ok_rterm_succ B A_Reader_term c_Reader h_is_name k_LETTERS k_BadText h_Reader_sign n (ok_rparts B A_Reader_parts c_Reader k_MOST_PARTS k_BadText h_Reader_sign n (ok_rterm A_Reader_term A_Reader_parts c_Reader h_is_name k_LETTERS k_MOST_PARTS k_BadText h_Reader_sign n))
def spRead (Cb : Addr) (n : Nat) : Sp := fun vs H Q E => ∃ z : Str, vs = [.str z] ∧ z.length ≤ 1000000 ∧ (z.length ≤ 320 → z.cps.toList.count 40 < n) ∧ n ≤ 60 ∧
  (∀ t, readR n z = some t → ∀ v H', Same H H' → DaAt H' v t.da → Q v H') ∧ (readR n z = none → ∀ H', Same H H' → E (.ref Cb) none H')
theorem ok_read (A_read : At e "read" ["text"] s_read) (c_Reader : RdC e C_Reader) (h_Reader___init__ : HasI e 1 C_Reader ["self", "text"] (spRInit C_Reader)) (k_MOST_NAMES : Cst e "MOST_NAMES" (.int 40)) (k_MOST_LETTERS : Cst e "MOST_LETTERS" (.int 6)) (k_BadText : ExK e "BadText" Cb)
    (h_Reader_sign : HasM e 1 C_Reader "sign" ["self"] (spSign C_Reader)) (n : Nat) (h_Reader_term : HasM e (2 * n + 2) C_Reader "term" ["self"] (spRTerm C_Reader Cb n)) (h_names_in : Has e n "names_in" ["term"] (spNames n)) :
    Has e (2 * n + 3) "read" ["text"] (spRead Cb n) := by
  refine A_read.okX (k := 2 * n + 2) sc_read (fun vs H Q E h => ?_) (fun f cdv A outer s H vs Q E hr h => ?_)
  · obtain ⟨z, rfl, _⟩ := h
    rfl
  obtain ⟨z, rfl, hz, hc, hn, q, qx⟩ := h
  have nd := sc_read.nd
  have hls := sizeLine_eq
  refine ⟨_, pss_cons (ps_if (pt_cmpR op_gt (pe_b call_len_str B.len (pa_cons (pv 0) pa_nil)) (pe_op op_mul (pe_cst k_MOST_NAMES) (pe_op op_add (pe_cst k_MOST_LETTERS) pe_int)) (nomark _))
      (pss_one (ps_raiseE k_BadText (takes_of rfl rfl rfl rfl)))
      (pss_nil))
    (pss_cons (ps_st 1 nd (pe_makeH h_Reader___init__ c_Reader.mg hr (pa_cons (pv 0) pa_nil)))
    (pss_cons (ps_st 2 nd (pe_methX0 h_Reader_term hr (takes_of rfl rfl rfl rfl) c_Reader.cl (pv 1)))
    (pss_cons (ps_if (PW.pt (pw_or (pt_cmpR op_ne (pe_methH0 h_Reader_sign hr c_Reader.cl (pv 1)) pe_str (nomark _)) (pw_or1 (pt_cmpR op_gt (pe_callH h_names_in hr (pa_cons (pv 2) pa_nil)) (pe_cst k_MOST_NAMES) (nomark _)))))
      (pss_one (ps_raiseE k_BadText (takes_of rfl rfl rfl rfl)))
      (pss_nil))
    (pss_one (ps_ret (pv 2)))))), ?_⟩
  refine ⟨_, rfl, z, rfl, by omega, _, _, rfl, rfl, _, _, rfl, rfl, .inl ⟨by decide, by decide⟩, _, _, rfl, rfl, _, rfl, ?_⟩
  by_cases hl : z.length ≤ 320
  · rw [show decide ((40 : Int) * (6 + 2) < (z.length : Int)) = false from decide_eq_false (by omega)]
    refine ⟨_, rfl, fun x dx hx hdx hne => ⟨x, dx, z, rfl, upd_same, fun H1 b1 h1 => ⟨rfl, ?_⟩⟩⟩
    have S1 : Same H H1 := But.same b1 (same_put (same_new hdx _) hx _) hx
    have hz2 : z.length ≤ 1000 := by omega
    have eR : readR n z = match pT n z.cps.toList with
      | some (t, []) => if t.count ≤ 40 then some t else none
      | _ => none := if_pos hl
    refine ⟨_, rfl, x, dx, _, rfl, h1, by rfl, x, dx, z, 0, rfl, h1, hz2, hc hl, hn, ?_, ?_⟩
    · intro t r e1 v H2 j b2 h2 hj hv
      have e1 : pT n z.cps.toList = some (t, r) := e1
      rw [e1] at eR
      have hg := (pT_tail n _ _ _ e1).1
      have S2 : Same H H2 := But.same b2 S1 hx
      refine ⟨_, rfl, x, dx, _, rfl, h2, by rfl, x, dx, z, j, rfl, h2, hz2, rfl, _, rfl, ?_⟩
      cases r with
      | nil =>
        simp only at eR
        refine ite2 (fun z0 => ?_) (fun _ => ?_)
        · rw [sgn_nil hj] at z0
          exact absurd z0 (by decide +kernel)
        refine ⟨_, rfl, v, t, rfl, hv, Tm.good_short hg.1, hg.2, fun H3 S3 => ⟨_, _, rfl, rfl, _, rfl, ?_⟩⟩
        by_cases hk : t.count ≤ 40
        · rw [show decide ((40 : Int) < (t.count : Int)) = false from decide_eq_false (by omega)]
          rw [if_pos hk] at eR
          exact ⟨_, rfl, q t eR _ _ (S2.trans S3) (hv.mono (TX.of_same S3))⟩
        · rw [show decide ((40 : Int) < (t.count : Int)) = true from decide_eq_true (by omega)]
          rw [if_neg hk] at eR
          exact qx eR _ (S2.trans S3)
      | cons c r =>
        refine ite2 (fun _ => ?_) (fun z0 => absurd (decide_eq_true (sgn_ne hj)) (by simpa using z0))
        exact qx eR _ S2
    · intro e1 H2 b2
      have e1 : pT n z.cps.toList = none := e1
      rw [e1] at eR
      exact qx eR _ (But.same b2 S1 hx)
  · rw [show decide ((40 : Int) * (6 + 2) < (z.length : Int)) = true from decide_eq_true (by omega)]
    exact qx (by unfold readR; rw [if_neg hl]) _ (Same.refl _)
end

/-- a fact that there must be: a word of the four and two terms -/
def spNeedF (n : Nat) (Cn Cf : Addr) : Sp := fun vs H Q E => ∃ (v : V) (z : Str) (ts : List Tm), vs = [v] ∧ DaAt H v (.tup (.str z :: ts.map Tm.da)) ∧ (∀ t ∈ ts, t.short ∧ t.depth ≤ n) ∧ ts.length ≤ 1000 ∧
  (∀ (w : Wd) (a b : Tm), z = w.name → ts = [a, b] → a.fine → b.fine → ∀ H', Same H H' → Q .non H') ∧
  ((¬ z ∈ signsK.map (·.1) ∨ ts.length ≠ 2) → ∀ H', Same H H' → E (.ref Cf) none H') ∧
  (∀ (w : Wd) (a b : Tm), z = w.name → ts = [a, b] → ¬ (a.fine ∧ b.fine) → ∀ H', Same H H' → E (.ref Cn) none H')
def spOpp : Sp := fun vs H Q _ => ∃ (v : V) (f : Fc), vs = [v] ∧ DaAt H v f.da ∧ ∀ v' H', Same H H' → DaAt H' v' f.opp.da → Q v' H'
def Fc.shown (n : Nat) (f : Fc) : Prop := f.l.short ∧ f.r.short ∧ f.l.depth ≤ n ∧ f.r.depth ≤ n ∧ f.l.codes.length ≤ 100000 ∧ f.r.codes.length ≤ 100000
def spShownF (n : Nat) : Sp := fun vs H Q _ => ∃ (v : V) (f : Fc), vs = [v] ∧ DaAt H v f.da ∧ f.shown n ∧ ∀ H', Same H H' → Q (.str f.text) H'
def spReadF (Cb : Addr) (n : Nat) : Sp := fun vs H Q E => ∃ z : Str, vs = [.str z] ∧ z.length ≤ 1000000 ∧ (∀ p ∈ Txt.split z " ", p.length ≤ 1000000 ∧ (p.length ≤ 320 → p.cps.toList.count 40 < n)) ∧ n ≤ 60 ∧
  (∀ f, readF n z = some f → ∀ v H', Same H H' → DaAt H' v f.da → Q v H') ∧ (readF n z = none → ∀ H', Same H H' → E (.ref Cb) none H')

abbrev s_need_fact : Stmt := top 28
theorem sc_need_fact : FnScope ["fact"] ["fact"] (defScope s_need_fact) := ⟨rfl, rfl, rfl, by decide +kernel, rfl, by decide +kernel, by decide +kernel⟩
section
variable {e : Ev} (B : Bl e) {d1 d2 : Addr}
include B
theorem ok_needf (A_need_fact : At e "need_fact" ["fact"] s_need_fact) {Cn Cf : Addr} (n : Nat) (h_need_term : Has e (n + 2) "need_term" ["term"] (spNeed n Cn)) (k_SIGNS : TabAt e "SIGNS" d1 signsK) (k_NoFact : ExK e "NoFact" Cf) : Has e (n + 3) "need_fact" ["fact"] (spNeedF n Cn Cf) := by
  refine A_need_fact.okX (k := n + 2) sc_need_fact (fun vs H Q E h => ?_) (fun f cdv A outer s H vs Q E hr h => ?_)
  · obtain ⟨v, z, ts, rfl, _⟩ := h
    rfl
  obtain ⟨v, z, ts, rfl, hv, hsh, hl, q, qf, qn⟩ := h
  have nd := sc_need_fact.nd
  refine ⟨_, pss_cons (ps_if (PW.pt (pw_or (pt_cmpR op_ne (pe_b call_lenT B.len (pa_cons (pv 0) pa_nil)) pe_int (nomark _)) (pw_or1 (pt_cmpR (op_notInTab k_SIGNS) (pe_ix ix_tupD (pv 0) pe_int (fun _ _ => rfl)) (pe_tab k_SIGNS) (by rfl)))))
      (pss_one (ps_raiseE k_NoFact (takes_of rfl rfl rfl rfl)))
      (pss_nil))
    (pss_cons (ps_expr (pe_callX h_need_term hr (takes_of rfl rfl rfl rfl) (pa_cons (pe_ix ix_tupD (pv 0) pe_int (fun _ _ => rfl)) pa_nil)))
    (pss_one (ps_expr (pe_callX h_need_term hr (takes_of rfl rfl rfl rfl) (pa_cons (pe_ix ix_tupD (pv 0) pe_int (fun _ _ => rfl)) pa_nil))))), ?_⟩
  refine ⟨_, rfl, v, _, rfl, hv, rfl, _, rfl, ?_⟩
  refine ite2 (fun c => ?_) (fun c => ?_)
  · have c' : ¬ V.int ((Da.str z :: ts.map Tm.da).length : Nat) = V.int 3 := by simpa using c
    refine qf (.inr fun z0 => c' ?_) _ (Same.refl _)
    rw [List.length_cons, List.length_map, z0]
    rfl
  · have c' : V.int ((Da.str z :: ts.map Tm.da).length : Nat) = V.int 3 := by simpa using c
    have hl2 : ts.length = 2 := by
      injection c' with c'
      rw [List.length_cons, List.length_map] at c'
      omega
    obtain ⟨a, b, rfl⟩ : ∃ a b, ts = [a, b] := by
      match ts, hl2 with
      | [a, b], _ => exact ⟨a, b, rfl⟩
    refine ⟨_, rfl, _, 0, .str z, hv, rfl, at0, fun w hw => ?_⟩
    obtain rfl := hw.str_inv
    refine ⟨z, rfl, rfl, _, rfl, ?_⟩
    refine ite2 (fun c2 => ?_) (fun c2 => ?_)
    · exact qf (.inl (by simpa using c2)) _ (Same.refl _)
    · have hz : z ∈ signsK.map (·.1) := by simpa using c2
      obtain ⟨w, rfl⟩ := Wd.of_name hz
      refine ⟨_, rfl, _, 1, a.da, hv, rfl, at1, fun v1 h1 => ⟨v1, a, rfl, h1, (hsh a (by simp)).1, (hsh a (by simp)).2, fun fa H1 S1 => ?_, fun fa H1 S1 => qn w a b rfl rfl (fun z => fa z.1) _ S1⟩⟩
      have hv1 := hv.mono (TX.of_same S1)
      refine ⟨_, rfl, _, 2, b.da, hv1, rfl, at2, fun v2 h2 => ⟨v2, b, rfl, h2, (hsh b (by simp)).1, (hsh b (by simp)).2, fun fb H2 S2 => ?_, fun fb H2 S2 => qn w a b rfl rfl (fun z => fb z.2) _ (S1.trans S2)⟩⟩
      exact q w a b rfl rfl fa fb _ (S1.trans S2)
end

abbrev s_shown_fact : Stmt := top 29
theorem sc_shown_fact : FnScope ["fact"] ["fact"] (defScope s_shown_fact) := ⟨rfl, rfl, rfl, by decide +kernel, rfl, by decide +kernel, by decide +kernel⟩
section
variable {e : Ev} (B : Bl e) {d1 d2 : Addr}
include B
theorem ok_shownf (A_shown_fact : At e "shown_fact" ["fact"] s_shown_fact) (n : Nat) (h_shown : Has e n "shown" ["term"] (spShown n)) (k_SIGNS : TabAt e "SIGNS" d1 signsK) : Has e (n + 1) "shown_fact" ["fact"] (spShownF n) := by
  refine A_shown_fact.ok sc_shown_fact (fun vs H Q E h => ?_) (fun f cdv A outer s H vs Q E hr h => ?_)
  · obtain ⟨v, f, rfl, _⟩ := h
    rfl
  obtain ⟨v, f, rfl, hv, ⟨s1, s2, s3, s4, s5, s6⟩, q⟩ := h
  have nd := sc_shown_fact.nd
  have hls := sizeLine_eq
  refine ⟨_, pss_one (ps_ret (pe_op op_add_str (pe_op op_add_str (pe_op op_add_str (pe_op op_add_str (pe_callH h_shown hr (pa_cons (pe_ix ix_tupD (pv 0) pe_int (fun _ _ => rfl)) pa_nil)) pe_str) (pe_ix (ix_tab k_SIGNS) (pe_tab k_SIGNS) (pe_ix ix_tupD (pv 0) pe_int (fun _ _ => rfl)) (fun _ _ => rfl))) pe_str) (pe_callH h_shown hr (pa_cons (pe_ix ix_tupD (pv 0) pe_int (fun _ _ => rfl)) pa_nil)))), ?_⟩
  refine ⟨_, rfl, _, 1, _, hv, rfl, at1, fun v1 h1 => ⟨v1, f.l, rfl, h1, s1, s3, by omega, fun H1 S1 => ?_⟩⟩
  have hv1 := hv.mono (TX.of_same S1)
  have e1 : (" " : Str).length = 1 := by decide +kernel
  have l1 := text_len f.l
  have l2 := text_len f.r
  have l3 := f.w.sign_len
  refine ⟨_, _, rfl, rfl, by omega, _, rfl, _, 0, _, hv1, rfl, at0, fun w hw => ?_⟩
  obtain rfl := hw.str_inv
  refine ⟨_, _, rfl, rfl, f.w.in_signs, _, _, rfl, rfl, ?_, _, _, rfl, rfl, ?_, _, rfl, _, 2, _, hv1, rfl, at2, fun v2 h2 => ⟨v2, f.r, rfl, h2, s2, s4, by omega, fun H2 S2 => ⟨_, _, rfl, rfl, ?_, q _ (S1.trans S2)⟩⟩⟩
  all_goals simp only [len_cps, app_cps, List.length_append] at *; omega
end

abbrev s_read_fact : Stmt := top 30
theorem sc_read_fact : FnScope ["text", "words", "word"] ["text"] (defScope s_read_fact) := ⟨rfl, rfl, rfl, by decide +kernel, rfl, by decide +kernel, by decide +kernel⟩
section
variable {e : Ev} (B : Bl e) {d1 d2 : Addr}
include B
theorem ok_readf (A_read_fact : At e "read_fact" ["text"] s_read_fact) {Cb : Addr} (n : Nat) (h_read : Has e (2 * n + 3) "read" ["text"] (spRead Cb n)) (k_SIGNS : TabAt e "SIGNS" d1 signsK) (k_BadText : ExK e "BadText" Cb) : Has e (2 * n + 4) "read_fact" ["text"] (spReadF Cb n) := by
  refine A_read_fact.okX (k := 2 * n + 3) sc_read_fact (fun vs H Q E h => ?_) (fun f cdv A outer s H vs Q E hr h => ?_)
  · obtain ⟨z, rfl, _⟩ := h
    rfl
  obtain ⟨z, rfl, hz, hp, hn, q, qx⟩ := h
  have nd := sc_read_fact.nd
  have hls := sizeLine_eq
  refine ⟨_, pss_cons (ps_st 1 nd (pe_split (pv 0) pe_str))
    (pss_cons (ps_if (pt_cmpR op_ne (pe_b call_lenL B.len (pa_cons (pv 1) pa_nil)) pe_int (nomark _))
      (pss_one (ps_raiseE k_BadText (takes_of rfl rfl rfl rfl)))
      (pss_nil))
    (pss_cons (ps_for (passes_of rfl) rfl (pi_tab k_SIGNS (pe_tab k_SIGNS)) (pg_nm 2 nd)
      (pss_one (ps_if (pt_cmpR op_eq (pe_ix (ix_tab k_SIGNS) (pe_tab k_SIGNS) (pv 2) (fun _ _ => rfl)) (pe_ix ix_list (pv 1) pe_int (fun _ _ => rfl)) (nomark _))
        (pss_one (ps_ret (pe_tupD (pa_cons (pv 2) (pa_cons (pe_callX h_read hr (takes_of rfl rfl rfl rfl) (pa_cons (pe_ix ix_list (pv 1) pe_int (fun _ _ => rfl)) pa_nil)) (pa_cons (pe_callX h_read hr (takes_of rfl rfl rfl rfl) (pa_cons (pe_ix ix_list (pv 1) pe_int (fun _ _ => rfl)) pa_nil)) pa_nil))))))
        (pss_nil))))
    (pss_one (ps_raiseE k_BadText (takes_of rfl rfl rfl rfl))))), ?_⟩
  refine ⟨_, rfl, ⟨z, rfl⟩, z, " ", rfl, rfl, by decide +kernel, by omega, fun p hp0 => ?_⟩
  obtain ⟨H1, eH1⟩ : ∃ H1, H1 = upd H p (.lst ((Txt.split z " ").map V.str)) := ⟨_, rfl⟩
  rw [← eH1]
  have S1 : Same H H1 := by rw [eH1]; exact same_new hp0 _
  have hw : H1 p = some (.lst ((Txt.split z " ").map V.str)) := by rw [eH1]; exact upd_same
  clear eH1
  refine ⟨_, rfl, p, _, rfl, SqL.of hw, rfl, _, rfl, ?_⟩
  have eF : readF n z = readW n (Txt.split z " ") := rfl
  refine ite2 (fun c => ?_) (fun c => ?_)
  · have c' : ¬ V.int (((Txt.split z " ").map V.str).length : Nat) = V.int 3 := by simpa using c
    refine qx ?_ _ S1
    rw [eF]
    match h : Txt.split z " " with
    | [] => rfl
    | [_] => rfl
    | [_, _] => rfl
    | [_, _, _] => rw [h] at c'; exact absurd rfl c'
    | _ :: _ :: _ :: _ :: _ => rfl
  · have c' : V.int (((Txt.split z " ").map V.str).length : Nat) = V.int 3 := by simpa using c
    obtain ⟨a, s0, b, eS⟩ : ∃ a s0 b, Txt.split z " " = [a, s0, b] := by
      match h : Txt.split z " " with
      | [] => rw [h] at c'; cases c'
      | [_] => rw [h] at c'; cases c'
      | [_, _] => rw [h] at c'; cases c'
      | [a, s0, b] => exact ⟨a, s0, b, rfl⟩
      | _ :: _ :: _ :: _ :: r =>
        rw [h] at c'
        injection c' with c'
        simp only [List.length_map, List.length_cons] at c'
        omega
    rw [eS] at hw hp eF
    refine ⟨rfl, for_it walk_keysR (fun i σ H' => (∃ u, σ = [some (.str z), some (.ref p), u]) ∧ H1 = H' ∧ ∀ w : Wd, ∀ j, j < i → signsK[j]? = some (w.name, .str w.sign) → w.sign ≠ s0) ⟨⟨_, rfl⟩, rfl, fun _ _ h => absurd h (by omega)⟩ (fun _ _ _ _ _ => trivial) ?_ ?_⟩
    · rintro i x σ _ H2 hi ⟨⟨u, rfl⟩, rfl, hno⟩ ⟨rfl, hx⟩
      obtain ⟨w, hi2, rfl⟩ : ∃ w : Wd, signsK[i]? = some (w.name, .str w.sign) ∧ x = .str w.name := by
        have : i = 0 ∨ i = 1 ∨ i = 2 ∨ i = 3 := by simp only [signsK, List.length_map, List.length_cons, List.length_nil] at hi; omega
        rcases this with rfl | rfl | rfl | rfl
        · exact ⟨.alike, rfl, (Option.some.inj hx).symm⟩
        · exact ⟨.unlike, rfl, (Option.some.inj hx).symm⟩
        · exact ⟨.most, rfl, (Option.some.inj hx).symm⟩
        · exact ⟨.over, rfl, (Option.some.inj hx).symm⟩
      refine ⟨_, rfl, _, _, rfl, rfl, w.in_signs, _, rfl, p, _, 1, .str s0, rfl, rfl, SqL.of hw, at1, rfl, _, rfl, ?_⟩
      refine ite2 (fun c2 => ?_) (fun c2 => ?_)
      · have e1 : w.sign = s0 := by
          have := of_decide_eq_true c2
          injection this
        subst e1
        have ha := hp a (by simp)
        have hb := hp b (by simp)
        refine ⟨_, rfl, _, rfl, p, _, 0, .str a, rfl, rfl, SqL.of hw, at0, a, rfl, ha.1, ha.2, hn, fun t et v1 H2 S2 h1 => ?_, fun ea H2 S2 => qx ?_ _ (S1.trans S2)⟩
        · refine ⟨_, rfl, p, _, 2, .str b, rfl, rfl, SqL.of (S2 _ _ hw), at2, b, rfl, hb.1, hb.2, hn, fun t2 et2 v2 H3 S3 h2 => ?_, fun eb H3 S3 => qx ?_ _ ((S1.trans S2).trans S3)⟩
          · refine ⟨_, .cons .str (.cons (h1.mono (TX.of_same S3)) (.one h2)), by simp, fun v3 H4 S4 h3 => q ⟨w, t, t2⟩ ?_ _ _ (((S1.trans S2).trans S3).trans S4) h3⟩
            rw [eF]
            simp only [readW, Wd.of_sign, et, et2]
          · rw [eF]
            simp only [readW, Wd.of_sign, et, eb]
        · rw [eF]
          simp only [readW, Wd.of_sign, ea]
      · have e1 : w.sign ≠ s0 := fun z0 => c2 (decide_eq_true (by rw [z0]))
        refine ⟨⟨_, rfl⟩, rfl, fun w2 j hj h2 => ?_⟩
        rcases Nat.lt_or_ge j i with h | h
        · exact hno w2 j h h2
        · obtain rfl : j = i := by omega
          rw [hi2] at h2
          injection h2 with h2
          have := congrArg Prod.fst h2
          rw [← Wd.name_inj this]
          exact e1
    · rintro σ _ ⟨⟨u, rfl⟩, rfl, hno⟩
      refine qx ?_ _ S1
      rw [eF]
      simp only [readW]
      cases hof : Wd.of s0 with
      | none => rfl
      | some w =>
        have e1 := Wd.of_some hof
        exfalso
        cases w with
        | alike => exact hno .alike 0 (by decide) rfl e1.symm
        | unlike => exact hno .unlike 1 (by decide) rfl e1.symm
        | most => exact hno .most 2 (by decide) rfl e1.symm
        | over => exact hno .over 3 (by decide) rfl e1.symm
end

abbrev s__law_fact : Stmt := top 50
theorem sc__law_fact : FnScope ["_law_d", "_law_works_here", "_law_deep", "_law_word_here", "_law_one"] ["_law_d", "_law_works_here", "_law_deep"] (defScope s__law_fact) := ⟨rfl, rfl, rfl, by decide +kernel, rfl, by decide +kernel, by decide +kernel⟩
/-- a drawn fact -/
def spFact (K : PySem.W.Frag) (n : Nat) : Sp := fun vs H Q _ => ∃ (d l : Addr) (ds : List Da) (deep : Int), vs = [.ref d, .ref l, .int deep] ∧ DiceAt K H d ∧ LD H l ds ∧ WorksD ds ∧ 0 ≤ deep ∧ deep < n ∧
  ∀ (v : V) (f : Fc) H', But d H H' → DiceAt K H' d → DaAt H' v f.da → f.good → (f.l.depth : Int) ≤ deep + 1 → (f.r.depth : Int) ≤ deep + 1 → (f.l.count + 1 ≤ 5 * 2 ^ deep.toNat) → (f.r.count + 1 ≤ 5 * 2 ^ deep.toNat) → Q v H'
section
variable {e : Ev} (B : Bl e)
include B
theorem ok_fact (A__law_fact : At e "_law_fact" ["_law_d", "_law_works_here", "_law_deep"] s__law_fact) (n : Nat) (h__law_off : Has e 2 "_law_off" ["_law_d", "_law_most"] (spOff e.K)) (h__law_term : Has e (n + 2) "_law_term" ["_law_d", "_law_works_here", "_law_deep"] (spTerm e.K n)) : Has e (n + 3) "_law_fact" ["_law_d", "_law_works_here", "_law_deep"] (spFact e.K n) := by
  refine A__law_fact.ok (k := n + 2) sc__law_fact (fun vs H Q E h => ?_) (fun f cdv A outer s H vs Q E hr h => ?_)
  · obtain ⟨d, l, ds, deep, rfl, _⟩ := h
    rfl
  obtain ⟨d, l, ds, deep, rfl, hD, hL, hW, h0, h1, q⟩ := h
  have nd := sc__law_fact.nd
  have hls := sizeLine_eq
  refine ⟨_, pss_cons (ps_st 3 nd (pe_ix ix_list (pe_lstA (pa_cons pe_str (pa_cons pe_str (pa_cons pe_str (pa_cons pe_str (pa_cons pe_str (pa_cons pe_str pa_nil))))))) (pe_callH h__law_off hr (pa_cons (pv 0) (pa_cons pe_int pa_nil))) (fun _ _ => rfl)))
    (pss_cons (ps_st 4 nd (pe_callH h__law_term hr (pa_cons (pv 0) (pa_cons (pv 1) (pa_cons (pv 2) pa_nil)))))
    (pss_one (ps_ret (pe_tupD (pa_cons (pv 3) (pa_cons (pv 4) (pa_cons (pe_callH h__law_term hr (pa_cons (pv 0) (pa_cons (pv 1) (pa_cons (pv 2) pa_nil)))) pa_nil))))))), ?_⟩
  refine ⟨by simp only [List.length_cons, List.length_nil]; omega, fun p H1 hp S1 hp1 => ⟨_, rfl, d, 6, rfl, hD.same S1, by decide, by decide, fun m H2 m0 m1 B2 D2 => ?_⟩⟩
  have hpd : p ≠ d := by
    obtain ⟨_, h⟩ := hD.lst
    exact (ne_of_none h hp).symm
  have hw : ∃ w : Wd, atI ([V.str "alike", V.str "alike", V.str "unlike", V.str "most", V.str "most", V.str "over"]) m = some (.str w.name) := by
    have : m = 0 ∨ m = 1 ∨ m = 2 ∨ m = 3 ∨ m = 4 ∨ m = 5 := by omega
    rcases this with rfl | rfl | rfl | rfl | rfl | rfl
    · exact ⟨.alike, rfl⟩
    · exact ⟨.alike, rfl⟩
    · exact ⟨.unlike, rfl⟩
    · exact ⟨.most, rfl⟩
    · exact ⟨.most, rfl⟩
    · exact ⟨.over, rfl⟩
  obtain ⟨w, hw⟩ := hw
  refine ⟨p, _, m, _, rfl, rfl, SqL.of (B2 _ _ hpd hp1), hw, ?_⟩
  have B2' : But d H H2 := (But.of S1).trans B2
  have hL2 := hL.but B2' hD (works_ne hD hL hW)
  refine ⟨_, rfl, _, rfl, _, rfl, d, l, ds, deep, rfl, D2, hL2, hW, h0, h1, fun v1 t1 H3 B3 D3 hv1 g1 c1 _ n1 => ?_⟩
  have hL3 := hL2.but B3 D2 (works_ne D2 hL2 hW)
  refine ⟨_, rfl, _, rfl, _, rfl, _, rfl, _, rfl, d, l, ds, deep, rfl, D3, hL3, hW, h0, h1, fun v2 t2 H4 B4 D4 hv2 g2 c2 _ n2 => ?_⟩
  refine ⟨_, .cons .str (.cons (hv1.mono (B4.tx D3)) (.one hv2)), by simp, fun v3 H5 S5 hv3 => ?_⟩
  exact q v3 ⟨w, t1, t2⟩ H5 (((B2'.trans B3).trans B4).trans (But.of S5)) (D4.same S5) hv3 ⟨g1, g2⟩ c1 c2 n1 n2
end

def Wd.spaced : Wd → Str
  | .alike => " = " | .unlike => " != " | .most => " <= " | .over => " > "
theorem Wd.spaced_cps (w : Wd) : w.spaced.cps.toList = 32 :: (w.sign.cps.toList ++ [32]) := by cases w <;> decide +kernel
theorem Wd.spaced_len (w : Wd) : w.spaced.length ≤ 4 := by cases w <;> decide +kernel
theorem Fc.spaced (f : Fc) : f.l.text ++ f.w.spaced ++ f.r.text = f.text := by
  have e1 : (" " : Str).cps.toList = [32] := by decide +kernel
  refine str_ext ?_
  simp only [Fc.text, app_cps, f.w.spaced_cps, e1]
  simp
def spacedK : List (Key × V) := [(.inr "alike", .str " = "), (.inr "unlike", .str " != "), (.inr "most", .str " <= "), (.inr "over", .str " > ")]
theorem Wd.in_spaced (w : Wd) : valV (mergeK [] spacedK) (.inr w.name) = some (V.str w.spaced) := by cases w <;> decide +kernel

abbrev s_Closing_join : Stmt := inClass (top 23) 1
theorem sc_Closing_join : FnScope ["self", "one", "other", "low", "high", "term"] ["self", "one", "other"] (defScope s_Closing_join) := ⟨rfl, rfl, rfl, by decide +kernel, rfl, by decide +kernel, by decide +kernel⟩
abbrev s_Closing_key : Stmt := inClass (top 23) 2
theorem sc_Closing_key : FnScope ["self", "term", "part"] ["self", "term"] (defScope s_Closing_key) := ⟨rfl, rfl, rfl, by decide +kernel, rfl, by decide +kernel, by decide +kernel⟩
abbrev s_Closing_stands : Stmt := inClass (top 23) 6
theorem sc_Closing_stands : FnScope ["self", "fact"] ["self"] (defScope s_Closing_stands) := ⟨rfl, rfl, rfl, by decide +kernel, rfl, by decide +kernel, by decide +kernel⟩
structure ClC (e : Ev) (C : Addr) : Prop where
  mg : e.mg "Closing" = some (.ref C)
  cl : Cls e.K C
  given : NoAttr e.K C "given"
  terms : NoAttr e.K C "terms"
  group : NoAttr e.K C "group"
  changed : NoAttr e.K C "changed"
/-- the terms of a closing: each once, with all parts -/
structure TsOk (ts : List Tm) : Prop where
  nd : ts.Nodup
  len : ts.length ≤ 100000
  deep : ∀ t ∈ ts, t.depth ≤ 7
  short : ∀ t ∈ ts, t.short
  parts : ∀ t ∈ ts, ∀ p ∈ t.parts, p ∈ ts
/-- a closing at x -/
structure ClS (e : Ev) (C : Addr) (H : Hp) (x dx G T D : Addr) (F : List Fc) (ts : List Tm) (g : Tm → Int) (ch : Bool) : Prop where
  obj : H x = some (.ins C dx [("given", .ref G), ("terms", .ref T), ("group", .ref D), ("changed", .bl ch)])
  terms : LD H T (ts.map Tm.da)
  group : GrpAt e.P e.w H D ts g
  given : LD H G (F.map Fc.da)
theorem But2.tx {P : Program} {w : World} {H H' : Hp} {x D C dx : Addr} {fs : List (Str × V)} {ts : List Tm} {g : Tm → Int} (b : But2 x D H H') (hx : H x = some (.ins C dx fs)) (hD : GrpAt P w H D ts g) : TX H H' := fun a o i e => by
  obtain ⟨kvs, hk, _⟩ := hD
  exact b a _ (ne_of e hx (fun z => by subst z; exact i)) (ne_of e hk.at_ (fun z => by subst z; exact i)) e
theorem ClS.tx {e : Ev} {C : Addr} {H H' : Hp} {x dx G T D : Addr} {F : List Fc} {ts : List Tm} {g : Tm → Int} {ch : Bool} (h : ClS e C H x dx G T D F ts g ch) (b : But2 x D H H') : TX H H' := b.tx h.obj h.group
theorem LD.but2 {P : Program} {w : World} {H H' : Hp} {x D C dx l : Addr} {fs : List (Str × V)} {ts : List Tm} {g : Tm → Int} {ds : List Da} (b : But2 x D H H') (hx : H x = some (.ins C dx fs)) (hD : GrpAt P w H D ts g) (h : LD H l ds) : LD H' l ds ∧ H' l = H l := by
  obtain ⟨vs, h1, h2⟩ := h
  have t := b.tx hx hD
  obtain ⟨kvs, hk, _⟩ := hD
  have e := b l _ (ne_of h1 hx (fun z => by cases z)) (ne_of h1 hk.at_ (fun z => by cases z)) h1
  exact ⟨⟨vs, e, h2.mono t⟩, e.trans h1.symm⟩
theorem ClS.xD {e : Ev} {C : Addr} {H : Hp} {x dx G T D : Addr} {F : List Fc} {ts : List Tm} {g : Tm → Int} {ch : Bool} (h : ClS e C H x dx G T D F ts g ch) : x ≠ D := by
  obtain ⟨kvs, hk, _⟩ := h.group
  exact ne_of h.obj hk.at_ (fun z => by cases z)
theorem ClS.same {e : Ev} {C : Addr} {H H' : Hp} {x dx G T D : Addr} {F : List Fc} {ts : List Tm} {g : Tm → Int} {ch : Bool} (h : ClS e C H x dx G T D F ts g ch) (s : Same H H') : ClS e C H' x dx G T D F ts g ch :=
  ⟨s _ _ h.obj, h.terms.mono s, h.group.same s, h.given.mono s⟩
theorem ClS.move {e : Ev} {C : Addr} {H H' : Hp} {x dx G T D : Addr} {F : List Fc} {ts : List Tm} {g g' : Tm → Int} {ch ch' : Bool} (h : ClS e C H x dx G T D F ts g ch) (b : But2 x D H H')
    (ho : H' x = some (.ins C dx [("given", .ref G), ("terms", .ref T), ("group", .ref D), ("changed", .bl ch')])) (hg : GrpAt e.P e.w H' D ts g') : ClS e C H' x dx G T D F ts g' ch' :=
  ⟨ho, (h.terms.but2 b h.obj h.group).1, hg, (h.given.but2 b h.obj h.group).1⟩
theorem ClS.congr {e : Ev} {C : Addr} {H : Hp} {x dx G T D : Addr} {F : List Fc} {ts : List Tm} {g g' : Tm → Int} {ch : Bool} (h : ClS e C H x dx G T D F ts g ch) (q : ∀ t ∈ ts, g' t = g t) : ClS e C H x dx G T D F ts g' ch :=
  ⟨h.obj, h.terms, h.group.congr q, h.given⟩
theorem take_nd {α : Type} : ∀ {l : List α} {i : Nat} {x : α}, l.Nodup → l[i]? = some x → ¬ x ∈ l.take i
  | [], _, _, _, h => by simp at h
  | y :: l, 0, x, _, h => by simp
  | y :: l, i + 1, x, hn, h => by
    rw [List.nodup_cons] at hn
    rw [List.getElem?_cons_succ] at h
    rw [List.take_succ_cons, List.mem_cons]
    rintro (rfl | hm)
    · exact hn.1 (List.mem_of_getElem? h)
    · exact take_nd hn.2 h hm
def spJoin (e : Ev) (C : Addr) : Sp := fun vs H Q _ => ∃ (x dx G T D : Addr) (F : List Fc) (ts : List Tm) (g : Tm → Int) (ch : Bool) (v1 v2 : V) (s t : Tm), vs = [.ref x, v1, v2] ∧ ClS e C H x dx G T D F ts g ch ∧ TsOk ts ∧ DaAt H v1 s.da ∧ DaAt H v2 t.da ∧ s ∈ ts ∧ t ∈ ts ∧
  ∀ H', But2 x D H H' → ClS e C H' x dx G T D F ts (joinG g s t) (ch || decide (g s ≠ g t)) → Q .non H'
def spKey (e : Ev) (C : Addr) : Sp := fun vs H Q _ => ∃ (x dx G T D : Addr) (F : List Fc) (ts : List Tm) (g : Tm → Int) (ch : Bool) (v : V) (t : Tm), vs = [.ref x, v] ∧ ClS e C H x dx G T D F ts g ch ∧ TsOk ts ∧ DaAt H v t.da ∧ t ∈ ts ∧
  ∀ v' H', Same H H' → DaAt H' v' (keyD g t) → Q v' H'
theorem das_two {H : Hp} {v : V} {a b : Str} (h : DaAt H v (.tup [.str a, .str b])) : ∃ p, v = .ref p ∧ H p = some (.tup [.str a, .str b]) := by
  obtain ⟨p, vs, rfl, h1, h2⟩ := h.tup_inv
  obtain ⟨x, r, rfl, h3, h2⟩ := h2.cons_inv
  obtain ⟨y, r, rfl, h4, h2⟩ := h2.cons_inv
  obtain rfl := h2.nil_inv
  obtain rfl := h3.str_inv
  obtain rfl := h4.str_inv
  exact ⟨p, rfl, h1⟩
/-- does it stand, by these groups -/
def standsB (F : List Fc) (g : Tm → Int) : Bool := F.all fun f => !((f.w == .unlike || f.w == .over) && decide (g f.l = g f.r))
def FsOk (F : List Fc) (ts : List Tm) : Prop := ∀ f ∈ F, f.l ∈ ts ∧ f.r ∈ ts
def spStands (e : Ev) (C : Addr) : Sp := fun vs H Q _ => ∃ (x dx G T D : Addr) (F : List Fc) (ts : List Tm) (g : Tm → Int) (ch : Bool), vs = [.ref x] ∧ ClS e C H x dx G T D F ts g ch ∧ TsOk ts ∧ FsOk F ts ∧ ∀ H', Same H H' → Q (.bl (standsB F g)) H'
section
variable {e : Ev} (B : Bl e)
include B
theorem ok_join (A_Closing_join : AtM e C_Closing "join" "Closing.join" ["self", "one", "other"] s_Closing_join) (c_Closing : ClC e C_Closing) : HasM e 1 C_Closing "join" ["self", "one", "other"] (spJoin e C_Closing) := by
  refine A_Closing_join.ok sc_Closing_join (fun vs H Q E h => ?_) (fun f cdv A outer s H vs Q E hr h => ?_)
  · obtain ⟨_, _, _, _, _, _, _, _, _, _, _, _, _, rfl, _⟩ := h
    rfl
  obtain ⟨x, dx, G, T, D, F, ts, g, ch, v1, v2, s1, t1, rfl, hc, ok, h1, h2, m1, m2, q⟩ := h
  have nd := sc_Closing_join.nd
  have hls := sizeLine_eq
  refine ⟨_, pss_cons (ps_st 3 nd (pe_b (call_min2 rfl) B.min (pa_cons (pe_ix (ix_ky (e := e) (hu65 hr)) (pe_fldE (e := e) (pv 0) rfl) (pv 1) (fun _ _ => rfl)) (pa_cons (pe_ix (ix_ky (e := e) (hu65 hr)) (pe_fldE (e := e) (pv 0) rfl) (pv 2) (fun _ _ => rfl)) pa_nil))))
    (pss_cons (ps_st 4 nd (pe_b (call_max2 rfl) B.max (pa_cons (pe_ix (ix_ky (e := e) (hu65 hr)) (pe_fldE (e := e) (pv 0) rfl) (pv 1) (fun _ _ => rfl)) (pa_cons (pe_ix (ix_ky (e := e) (hu65 hr)) (pe_fldE (e := e) (pv 0) rfl) (pv 2) (fun _ _ => rfl)) pa_nil))))
    (pss_cons (ps_if (pt_cmpR op_eq (pv 3) (pv 4) (nomark _))
      (pss_one (ps_retN))
      (pss_nil))
    (pss_cons (ps_fld (pv 0) pe_bl rfl)
    (pss_one (ps_for PassesOwn.never rfl (pi_list (pe_fldE (e := e) (pv 0) rfl)) (pg_nm 5 nd)
      (pss_one (ps_if (pt_cmpR op_eq (pe_ix (ix_ky (e := e) (hu65 hr)) (pe_fldE (e := e) (pv 0) rfl) (pv 5) (fun _ _ => rfl)) (pv 4) (nomark _))
        (pss_one (ps_kyput (e := e) (hu65 hr) (pe_fldE (e := e) (pv 0) rfl) (pv 5) (pv 3)))
        (pss_nil)))))))), ?_⟩
  obtain ⟨kvs, hk, hks, hkl⟩ := id hc.group
  have d1 : (Da.tup (.str s1.name :: s1.parts.map Tm.da)).depth ≤ 8 := by rw [← Tm.da_eq, Tm.da_depth]; have := ok.deep _ m1; omega
  have d2 : (Da.tup (.str t1.name :: t1.parts.map Tm.da)).depth ≤ 8 := by rw [← Tm.da_eq, Tm.da_depth]; have := ok.deep _ m2; omega
  have h1' := h1
  have h2' := h2
  rw [Tm.da_eq] at h1' h2'
  have k1 := hkl _ m1
  have k2 := hkl _ m2
  rw [Tm.da_eq] at k1 k2
  have o := hc.obj
  -- the lower
  refine ⟨_, rfl, x, C_Closing, dx, _, _, rfl, o, c_Closing.cl, c_Closing.group, by rfl, _, rfl, D, kvs, _, _, rfl, hk, h1', d1, k1, ?_⟩
  refine ⟨_, rfl, x, C_Closing, dx, _, _, rfl, o, c_Closing.cl, c_Closing.group, by rfl, _, rfl, D, kvs, _, _, rfl, hk, h2', d2, k2, _, _, rfl, ?_⟩
  -- the higher
  refine ⟨_, rfl, x, C_Closing, dx, _, _, rfl, o, c_Closing.cl, c_Closing.group, by rfl, _, rfl, D, kvs, _, _, rfl, hk, h1', d1, k1, ?_⟩
  refine ⟨_, rfl, x, C_Closing, dx, _, _, rfl, o, c_Closing.cl, c_Closing.group, by rfl, _, rfl, D, kvs, _, _, rfl, hk, h2', d2, k2, _, _, rfl, ?_⟩
  refine ⟨_, rfl, _, rfl, rfl, _, rfl, ?_⟩
  show (if decide (V.int (loG g s1 t1) = V.int (hiG g s1 t1)) = true then _ else _)
  have hi := hiG_is g s1 t1
  have lo := loG_is g s1 t1
  refine ite2 (fun c => ?_) (fun c => ?_)
  · have c' : loG g s1 t1 = hiG g s1 t1 := by
      have := of_decide_eq_true c
      injection this
    have e1 : g s1 = g t1 := by omega
    refine q _ (But2.refl _) ?_
    rw [show decide (g s1 ≠ g t1) = false from decide_eq_false (fun z => z e1), Bool.or_false]
    exact hc.congr fun u _ => joinG_eq e1 u
  have c' : ¬ loG g s1 t1 = hiG g s1 t1 := fun z => c (decide_eq_true (by rw [z]))
  have e1 : g s1 ≠ g t1 := fun z => c' (by omega)
  rw [show decide (g s1 ≠ g t1) = true from decide_eq_true e1, Bool.or_true] at q
  refine ⟨_, rfl, x, C_Closing, dx, _, rfl, o, c_Closing.cl, c_Closing.changed, by simp, ?_⟩
  generalize hH : upd H x (.ins C_Closing dx (putF "changed" (.bl true) [("given", .ref G), ("terms", .ref T), ("group", .ref D), ("changed", .bl ch)])) = H1
  have o1 : H1 x = some (.ins C_Closing dx [("given", .ref G), ("terms", .ref T), ("group", .ref D), ("changed", .bl true)]) := by rw [← hH, upd_same]; rfl
  have b1 : But2 x D H H1 := by rw [← hH]; exact But2.putx _ _
  have hxD := hc.xD
  have eD : H1 D = H D := by rw [← hH, upd_ne hxD.symm]
  clear hH
  have hc1 := hc.move b1 o1 (hc.group.mono eD (hc.tx b1))
  refine ⟨_, rfl, x, C_Closing, dx, _, _, rfl, o1, c_Closing.cl, c_Closing.terms, by rfl, T, rfl, for_listD hc1.terms (fun i σ H' => (∃ u, σ = [some (.ref x), some v1, some v2, some (.int (loG g s1 t1)), some (.int (hiG g s1 t1)), u]) ∧ But2 x D H1 H' ∧
    ClS e C_Closing H' x dx G T D F ts (fun u => if u ∈ ts.take i ∧ g u = hiG g s1 t1 then loG g s1 t1 else g u) true) ⟨⟨_, rfl⟩, But2.refl _, hc1.congr fun u _ => if_neg (fun z => by simpa using z.1)⟩
    (fun i σ H' h => ⟨hc1.tx h.2.1, (hc1.terms.but2 h.2.1 hc1.obj hc1.group).2⟩) ?_ ?_⟩
  · rintro i y d' σ H' hi hy ⟨⟨u, rfl⟩, b2, hc2⟩
    obtain ⟨t, ht, rfl⟩ := map_get hi
    have htm := List.mem_of_getElem? ht
    have hnt : ¬ t ∈ ts.take i := take_nd ok.nd ht
    obtain ⟨kvs2, hk2, hks2, hkl2⟩ := id hc2.group
    have hy' := hy
    rw [Tm.da_eq] at hy'
    have k3 : kyLook kvs2 t.da = some (V.int (if t ∈ ts.take i ∧ g t = hiG g s1 t1 then loG g s1 t1 else g t)) := hkl2 _ htm
    rw [if_neg (fun z => hnt z.1), Tm.da_eq] at k3
    have d3 : (Da.tup (.str t.name :: t.parts.map Tm.da)).depth ≤ 8 := by rw [← Tm.da_eq, Tm.da_depth]; have := ok.deep _ htm; omega
    have o2 := hc2.obj
    refine ⟨_, rfl, x, C_Closing, dx, _, _, rfl, o2, c_Closing.cl, c_Closing.group, by rfl, _, rfl, D, kvs2, _, _, rfl, hk2, hy', d3, k3, _, rfl, rfl, _, rfl, ?_⟩
    refine ite2 (fun c => ?_) (fun c => ?_)
    · have e2 : g t = hiG g s1 t1 := by
        have := of_decide_eq_true c
        injection this
      refine ⟨_, rfl, _, rfl, x, C_Closing, dx, _, _, rfl, o2, c_Closing.cl, c_Closing.group, by rfl, _, rfl, D, kvs2, _, rfl, hk2, hy', d3, ?_, fun a ea hkp => ?_⟩
      · have := congrArg List.length hks2
        rw [List.length_map, List.length_map] at this
        have := ok.len
        omega
      · have b3 : But2 x D H' (upd H' D (kyO e.P e.w D (kyPut kvs2 (.tup (.str t.name :: t.parts.map Tm.da)) a (.int (loG g s1 t1))))) := But2.putD _ _
        refine ⟨⟨_, rfl⟩, b2.trans b3, ?_⟩
        rw [← Tm.da_eq] at hkp b3 ⊢
        refine ClS.congr (hc2.move b3 (by rw [upd_ne hxD]; exact o2) (GrpAt.put kvs2 hks2 hkl2 htm hkp)) fun u hu => ?_
        show (if u ∈ ts.take (i + 1) ∧ g u = hiG g s1 t1 then loG g s1 t1 else g u) = (if u = t then loG g s1 t1 else if u ∈ ts.take i ∧ g u = hiG g s1 t1 then loG g s1 t1 else g u)
        by_cases eu : u = t
        · subst eu
          rw [if_pos rfl, if_pos ⟨by rw [take_snoc ht]; simp, e2⟩]
        · rw [if_neg eu]
          have : u ∈ ts.take (i + 1) ↔ u ∈ ts.take i := by rw [take_snoc ht]; simp [eu]
          simp only [this]
    · have e2 : ¬ g t = hiG g s1 t1 := fun z => c (decide_eq_true (by rw [z]))
      refine ⟨⟨_, rfl⟩, b2, hc2.congr fun u hu => ?_⟩
      by_cases eu : u = t
      · subst eu
        rw [if_neg (fun z => e2 z.2), if_neg (fun z => e2 z.2)]
      · have : u ∈ ts.take (i + 1) ↔ u ∈ ts.take i := by rw [take_snoc ht]; simp [eu]
        simp only [this]
  · rintro σ H' ⟨⟨u, rfl⟩, b2, hc2⟩
    refine q _ (b1.trans b2) (hc2.congr fun u hu => ?_)
    rw [List.length_map, List.take_length]
    show joinG g s1 t1 u = _
    unfold joinG
    by_cases eu : g u = hiG g s1 t1
    · rw [if_pos eu, if_pos ⟨hu, eu⟩]
    · rw [if_neg eu, if_neg (fun z => eu z.2)]
theorem ok_key (A_Closing_key : AtM e C_Closing "key" "Closing.key" ["self", "term"] s_Closing_key) (c_Closing : ClC e C_Closing) : HasM e 1 C_Closing "key" ["self", "term"] (spKey e C_Closing) := by
  refine A_Closing_key.ok sc_Closing_key (fun vs H Q E h => ?_) (fun f cdv A outer s H vs Q E hr h => ?_)
  · obtain ⟨_, _, _, _, _, _, _, _, _, _, _, rfl, _⟩ := h
    rfl
  obtain ⟨x, dx, G, T, D, F, ts, g, ch, v, t, rfl, hc, ok, hv, hm, q⟩ := h
  have nd := sc_Closing_key.nd
  have hls := sizeLine_eq
  refine ⟨_, pss_one (ps_ret (pe_op op_catD (pe_tupD (pa_cons (pe_ix ix_tupD (pv 1) pe_int (fun _ _ => rfl)) pa_nil)) (pe_ty call_tupL B.tuple (pa_cons (pe_lc (own := [("part", 2)]) (by rfl) nd (pi_tup (pe_slice sl_tupD (pv 1) (po_some pe_int) po_none)) (blkOk_by (N := ["self", "term", "part"]) (sc := defScope s_Closing_key) (by decide +kernel)) (fun _ _ _ _ _ => pg_nm 2 nd) (fun _ _ _ _ _ => pts_nil) (fun _ _ _ _ _ => pe_ix (ix_ky (e := e) (hu65 hr)) (pe_fldE (e := e) (pv 0) rfl) (pv 2) (fun _ _ => rfl))) pa_nil)))), ?_⟩
  have hv' := hv
  rw [Tm.da_eq] at hv'
  have hsl := Tm.short_len (ok.short _ hm)
  refine ⟨_, rfl, _, 0, _, hv', rfl, at0, fun w hw => ⟨_, .one hw, by simp, fun v1 H1 S1 h1 => ?_⟩⟩
  refine ⟨_, rfl, 1, rfl, _, hv'.mono (TX.of_same S1), fun v2 H2 S2 hv2 => ?_⟩
  rw [cutD_tail] at hv2
  refine lc_tupD (F := fun p : Tm => .int (g p)) hv2 (Nat.le_trans hsl (by decide)) (fun y p H3 hp hy S3 Q' N k => ?_) (fun L H3 hL S3 LL => ?_)
  · have hpm := ok.parts _ hm _ hp
    have hc3 := hc.same ((S1.trans S2).trans S3)
    obtain ⟨kvs, hk, hks, hkl⟩ := id hc3.group
    have k1 := hkl _ hpm
    rw [Tm.da_eq] at k1 hy
    have d3 : (Da.tup (.str p.name :: p.parts.map Tm.da)).depth ≤ 8 := by rw [← Tm.da_eq, Tm.da_depth]; have := ok.deep _ hpm; omega
    exact ⟨rfl, _, rfl, x, C_Closing, dx, _, _, rfl, hc3.obj, c_Closing.cl, c_Closing.group, by rfl, _, rfl, D, kvs, _, _, rfl, hk, hy, d3, k1, k _ _ (Same.refl _) .int⟩
  · refine ⟨L, _, rfl, LL, fun v4 H4 S4 h4 => ⟨_, _, ((h1.mono (TX.of_same S2)).mono (TX.of_same S3)).mono (TX.of_same S4), h4, by simp only [List.length_map, List.length_cons, List.length_nil]; omega, fun v5 H5 S5 h5 => ?_⟩⟩
    exact q _ _ ((((S1.trans S2).trans S3).trans S4).trans S5) h5
theorem ok_stands (A_Closing_stands : AtM e C_Closing "stands" "Closing.stands" ["self"] s_Closing_stands) (c_Closing : ClC e C_Closing) : HasM e 1 C_Closing "stands" ["self"] (spStands e C_Closing) := by
  refine A_Closing_stands.ok sc_Closing_stands (fun vs H Q E h => ?_) (fun f cdv A outer s H vs Q E hr h => ?_)
  · obtain ⟨_, _, _, _, _, _, _, _, _, rfl, _⟩ := h
    rfl
  obtain ⟨x, dx, G, T, D, F, ts, g, ch, rfl, hc, ok, fok, q⟩ := h
  have nd := sc_Closing_stands.nd
  have hls := sizeLine_eq
  refine ⟨_, pss_cons (ps_for PassesOwn.never rfl (pi_list (pe_fldE (e := e) (pv 0) rfl)) (pg_nm 1 nd)
      (pss_one (ps_if (PW.pt (pw_and (pt_cmpR op_in_seq (pe_ix ix_tupD (pv 1) pe_int (fun _ _ => rfl)) (pe_tupD (pa_cons pe_str (pa_cons pe_str pa_nil))) (by rfl)) (pw_and1 (pt_cmpR op_eq (pe_ix (ix_ky (e := e) (hu65 hr)) (pe_fldE (e := e) (pv 0) rfl) (pe_ix ix_tupD (pv 1) pe_int (fun _ _ => rfl)) (fun _ _ => rfl)) (pe_ix (ix_ky (e := e) (hu65 hr)) (pe_fldE (e := e) (pv 0) rfl) (pe_ix ix_tupD (pv 1) pe_int (fun _ _ => rfl)) (fun _ _ => rfl)) (nomark _)))))
        (pss_one (ps_ret pe_bl))
        (pss_nil))))
    (pss_one (ps_ret pe_bl)), ?_⟩
  refine ⟨_, rfl, x, C_Closing, dx, _, _, rfl, hc.obj, c_Closing.cl, c_Closing.given, by rfl, G, rfl, for_listD hc.given (fun i σ H' => (∃ u, σ = [some (.ref x), u]) ∧ Same H H' ∧ standsB (F.take i) g = true) ⟨⟨_, rfl⟩, Same.refl _, rfl⟩
    (fun i σ H' h => ⟨TX.of_same h.2.1, by obtain ⟨vs, h1, _⟩ := hc.given; rw [h.2.1 _ _ h1, h1]⟩) ?_ ?_⟩
  · rintro i y d' σ H' hi hy ⟨⟨u, rfl⟩, S1, hst⟩
    obtain ⟨f0, hf, rfl⟩ : ∃ f0, F[i]? = some f0 ∧ d' = f0.da := by
      rw [List.getElem?_map] at hi
      cases e1 : F[i]? with
      | none => rw [e1] at hi; cases hi
      | some z => rw [e1] at hi; exact ⟨z, rfl, (Option.some.inj hi).symm⟩
    have hfm := List.mem_of_getElem? hf
    obtain ⟨fl, fr⟩ := fok _ hfm
    have hy0 : DaAt H' y (.tup [.str f0.w.name, f0.l.da, f0.r.da]) := hy
    refine ⟨_, rfl, _, 0, _, hy0, rfl, at0, fun w hw => ?_⟩
    obtain rfl := hw.str_inv
    refine ⟨[.str "unlike", .str "over"], .cons .str (.one .str), by simp, fun v1 H1 S2 h1 => ?_⟩
    obtain ⟨p, hp⟩ := das_two h1
    obtain ⟨rfl, hp⟩ := hp
    refine ⟨p, _, rfl, .inr (SqT.of hp), rfl, rfl, _, rfl, ?_⟩
    have e1 : inV (V.str f0.w.name) [V.str "unlike", V.str "over"] = (f0.w == .unlike || f0.w == .over) := by cases f0.w <;> decide +kernel
    rw [e1]
    have S12 := S1.trans S2
    have hc1 := hc.same S12
    have estep : standsB (F.take (i + 1)) g = (standsB (F.take i) g && !((f0.w == .unlike || f0.w == .over) && decide (g f0.l = g f0.r))) := by
      unfold standsB
      rw [take_snoc hf, List.all_append]
      simp
    cases hwd : (f0.w == .unlike || f0.w == .over) with
    | false => exact ⟨⟨_, rfl⟩, S12, by rw [estep, hst, hwd]; rfl⟩
    | true =>
      obtain ⟨kvs, hk, hks, hkl⟩ := id hc1.group
      have k1 := hkl _ fl
      have k2 := hkl _ fr
      have d1 : (Da.tup (.str f0.l.name :: f0.l.parts.map Tm.da)).depth ≤ 8 := by rw [← Tm.da_eq, Tm.da_depth]; have := ok.deep _ fl; omega
      have d2 : (Da.tup (.str f0.r.name :: f0.r.parts.map Tm.da)).depth ≤ 8 := by rw [← Tm.da_eq, Tm.da_depth]; have := ok.deep _ fr; omega
      have hy1 := hy0.mono (TX.of_same S2)
      rw [Tm.da_eq] at k1 k2
      refine ⟨_, rfl, x, C_Closing, dx, _, _, rfl, hc1.obj, c_Closing.cl, c_Closing.group, by rfl, _, rfl, _, 1, _, hy1, rfl, at1, fun w1 h1 => ?_⟩
      rw [Tm.da_eq] at h1
      refine ⟨D, kvs, _, _, rfl, hk, h1, d1, k1, ?_⟩
      refine ⟨_, rfl, x, C_Closing, dx, _, _, rfl, hc1.obj, c_Closing.cl, c_Closing.group, by rfl, _, rfl, _, 2, _, hy1, rfl, at2, fun w2 h2 => ?_⟩
      rw [Tm.da_eq] at h2
      refine ⟨D, kvs, _, _, rfl, hk, h2, d2, k2, rfl, _, rfl, ?_⟩
      refine ite2 (fun c => ?_) (fun c => ?_)
      · have e2 : g f0.l = g f0.r := by
          have := of_decide_eq_true c
          injection this
        have : standsB F g = false := by
          unfold standsB
          rw [List.all_eq_false]
          exact ⟨f0, hfm, by rw [hwd, decide_eq_true e2]; decide⟩
        rw [this] at q
        exact q _ S12
      · have e2 : ¬ g f0.l = g f0.r := fun z => c (decide_eq_true (by rw [z]))
        exact ⟨⟨_, rfl⟩, S12, by rw [estep, hst, hwd, decide_eq_false e2]; rfl⟩
  · rintro σ H' ⟨⟨u, rfl⟩, S1, hst⟩
    rw [List.length_map, List.take_length] at hst
    rw [hst] at q
    exact q _ S1
end

abbrev s_Closing_join_like_parts : Stmt := inClass (top 23) 3
theorem sc_Closing_join_like_parts : FnScope ["self", "first", "term", "key"] ["self"] (defScope s_Closing_join_like_parts) := ⟨rfl, rfl, rfl, by decide +kernel, rfl, by decide +kernel, by decide +kernel⟩
/-- sound, and like groups stay like -/
def SoundK (A : Tm → Tm → Prop) (ts : List Tm) (g g' : Tm → Int) : Prop := SoundG A ts g' ∧ ∀ u v, g u = g v → g' u = g' v
theorem joinG_keep {g g' : Tm → Int} {s t : Tm} (h : ∀ u v, g u = g v → g' u = g' v) : ∀ u v, g u = g v → joinG g' s t u = joinG g' s t v := fun u v e => by
  have := h u v e
  unfold joinG
  rw [this]
/-- a pass of joins: sound, falling, and where nothing is said to be changed: as it was, and Cl -/
structure Pass (A : Tm → Tm → Prop) (ts : List Tm) (g g' : Tm → Int) (ch ch' : Bool) (Cl : (Tm → Int) → Prop) : Prop where
  sound : SoundK A ts g g'
  pos : ∀ u ∈ ts, 0 ≤ g' u
  le : sumG ts g' ≤ sumG ts g
  up : ch' = ch ∨ (ch' = true ∧ sumG ts g' < sumG ts g)
  done : ch' = false → (∀ u ∈ ts, g' u = g u) ∧ Cl g
def spLike (e : Ev) (C : Addr) : Sp := fun vs H Q _ => ∃ (x dx G T D : Addr) (F : List Fc) (ts : List Tm) (g : Tm → Int) (ch : Bool) (A : Tm → Tm → Prop), vs = [.ref x] ∧ ClS e C H x dx G T D F ts g ch ∧ TsOk ts ∧ (∀ u ∈ ts, 0 ≤ g u) ∧ EqvOn A ts ∧ PartsA A ts ∧ SoundG A ts g ∧
  ∀ g' ch' H', But2 x D H H' → ClS e C H' x dx G T D F ts g' ch' → Pass A ts g g' ch ch' (LikeCl ts) → Q .non H'
section
variable {e : Ev} (B : Bl e)
include B
theorem ok_like (A_Closing_join_like_parts : AtM e C_Closing "join_like_parts" "Closing.join_like_parts" ["self"] s_Closing_join_like_parts) (c_Closing : ClC e C_Closing) (h_Closing_join : HasM e 1 C_Closing "join" ["self", "one", "other"] (spJoin e C_Closing)) (h_Closing_key : HasM e 1 C_Closing "key" ["self", "term"] (spKey e C_Closing)) :
    HasM e 2 C_Closing "join_like_parts" ["self"] (spLike e C_Closing) := by
  refine A_Closing_join_like_parts.ok sc_Closing_join_like_parts (fun vs H Q E h => ?_) (fun f cdv Ar outer s H vs Q E hr h => ?_)
  · obtain ⟨_, _, _, _, _, _, _, _, _, _, rfl, _⟩ := h
    rfl
  obtain ⟨x, dx, G, T, D, F, ts, g, ch, A, rfl, hc, ok, hpos, EA, PA', hS, q⟩ := h
  have nd := sc_Closing_join_like_parts.nd
  have hls := sizeLine_eq
  refine ⟨_, pss_cons (ps_st 1 nd ((pe_kynew (e := e))))
    (pss_one (ps_for PassesOwn.never rfl (pi_list (pe_fldE (e := e) (pv 0) rfl)) (pg_nm 2 nd)
      (pss_cons (ps_st 3 nd (pe_methH h_Closing_key hr c_Closing.cl (pv 0) (pa_cons (pv 2) pa_nil)))
      (pss_one (ps_if (pt_cmpR (op_inKy (e := e) (hu65 hr)) (pv 3) (pv 1) (by rfl))
        (pss_one (ps_expr (pe_methH h_Closing_join hr c_Closing.cl (pv 0) (pa_cons (pe_ix (ix_ky (e := e) (hu65 hr)) (pv 1) (pv 3) (fun _ _ => rfl)) (pa_cons (pv 2) pa_nil)))))
        (pss_one (ps_kyput (e := e) (hu65 hr) (pv 1) (pv 3) (pv 2)))))))), ?_⟩
  refine fun FD hFD hky => ?_
  generalize hH : upd H FD (kyO e.P e.w FD []) = H1 at hky ⊢
  have S1 : Same H H1 := by rw [← hH]; exact same_new hFD _
  clear hH
  have hc1 := hc.same S1
  have nFx : FD ≠ x := (ne_of_none hc.obj hFD).symm
  have nFD : FD ≠ D := by
    obtain ⟨kvs, hk, _⟩ := hc.group
    exact (ne_of_none hk.at_ hFD).symm
  have nFT : FD ≠ T := by
    obtain ⟨vs, h1, _⟩ := hc.terms
    exact (ne_of_none h1 hFD).symm
  refine ⟨_, rfl, x, C_Closing, dx, _, _, rfl, hc1.obj, c_Closing.cl, c_Closing.terms, by rfl, T, rfl, for_listD hc1.terms (fun i σ H' => (∃ u1 u2, σ = [some (.ref x), some (.ref FD), u1, u2]) ∧ But2 x D H H' ∧ TX H1 H' ∧ H' T = H1 T ∧
    ∃ (gi : Tm → Int) (ci : Bool) (kvs : List KyE), ClS e C_Closing H' x dx G T D F ts gi ci ∧ KyAt e.P e.w H' FD kvs ∧ kvs.length ≤ i ∧ SoundK A ts g gi ∧ (∀ u ∈ ts, 0 ≤ gi u) ∧ sumG ts gi ≤ sumG ts g ∧ (ci = ch ∨ (ci = true ∧ sumG ts gi < sumG ts g)) ∧
      (∀ k v, kyLook kvs k = some v → ∃ t0 ∈ ts, ∃ g0, k = keyD g0 t0 ∧ DaAt H' v t0.da ∧ Later ts g0 gi) ∧
      (ci = false → (∀ u ∈ ts, gi u = g u) ∧ ∀ s ∈ ts.take i, ∃ v, ∃ t0 ∈ ts, kyLook kvs (keyD g s) = some v ∧ DaAt H' v t0.da ∧ g t0 = g s))
    ⟨⟨_, _, rfl⟩, But2.of S1, TX.refl _, rfl, g, ch, [], hc1, hky, Nat.le_refl _, ⟨hS, fun _ _ h => h⟩, hpos, Nat.le_refl _, .inl rfl, (fun k v h => by cases h), fun _ => ⟨fun _ _ => rfl, fun s hs => by simp at hs⟩⟩
    (fun i σ H' h => ⟨h.2.2.1, h.2.2.2.1⟩) ?_ ?_⟩
  · rintro i y d' σ H' hi hy ⟨⟨u1, u2, rfl⟩, b1, t1, eT, gi, ci, kvs, hci, hki, hkl, hSi, hpi, hsi, hup, hent, hdone⟩
    obtain ⟨t, ht, rfl⟩ := map_get hi
    have htm := List.mem_of_getElem? ht
    have hilt : i < ts.length := (List.getElem?_eq_some_iff.mp ht).1
    have hln := ok.len
    refine ⟨_, rfl, x, dx, _, rfl, hci.obj, by rfl, _, rfl, x, dx, G, T, D, F, ts, gi, ci, y, t, rfl, hci, ok, hy, htm, fun kv H2 S2 hkv => ?_⟩
    have hkv' : DaAt H2 kv (.tup (.str t.name :: t.parts.map fun p => .int (gi p))) := hkv
    have hdk : (Da.tup (.str t.name :: t.parts.map fun p => .int (gi p))).depth ≤ 8 := Nat.le_trans (keyD_depth gi t) (by decide)
    have hci2 := hci.same S2
    have hki2 : KyAt e.P e.w H2 FD kvs := hki.mono (by rw [S2 _ _ hki.at_, hki.at_]) (TX.of_same S2)
    have hy2 := hy.mono (TX.of_same S2)
    have t2 := t1.trans (TX.of_same S2)
    have eT2 : H2 T = H1 T := by
      obtain ⟨vs, h1, _⟩ := hc1.terms
      rw [S2 _ _ (eT.trans h1), h1]
    have b2 := b1.trans (But2.of S2)
    have tk : ∀ u : Tm, u ∈ ts.take (i + 1) ↔ u ∈ ts.take i ∨ u = t := fun u => by rw [take_snoc ht]; simp
    refine ⟨_, rfl, _, rfl, _, FD, kvs, hkv', hdk, rfl, hki2, _, rfl, ?_⟩
    refine ite2 (fun c => ?_) (fun c => ?_)
    · -- told ahead: put together
      have hin : (keyD gi t) ∈ kvs.map (·.1) := of_decide_eq_true c
      obtain ⟨v0, hv0⟩ : ∃ v0, kyLook kvs (keyD gi t) = some v0 := by
        have := ky_in (k := keyD gi t) kvs
        rw [decide_eq_true hin] at this
        cases h : kyLook kvs (keyD gi t) with
        | none => rw [h] at this; cases this
        | some z => exact ⟨z, rfl⟩
      obtain ⟨t0, m0, g0, ek, hd0, hl0⟩ := hent _ _ hv0
      have hA : A t0 t := like_sound PA' hSi.1 hl0 ok.parts m0 htm ek.symm
      have hd02 := hd0.mono (TX.of_same S2)
      refine ⟨_, rfl, x, dx, _, rfl, hci2.obj, by rfl, _, rfl, _, rfl, FD, kvs, _, v0, rfl, hki2, hkv', hdk, hv0, _, rfl, x, dx, G, T, D, F, ts, gi, ci, v0, y, t0, t, rfl, hci2, ok, hd02, hy2, m0, htm, fun H3 b3 hc3 => ?_⟩
      have t3 := hci2.tx b3
      have hS3 : SoundK A ts g _ := ⟨joinG_sound EA m0 htm hSi.1 hA, joinG_keep hSi.2⟩
      have hp3 := joinG_pos m0 htm hpi
      have hs3 : sumG ts (joinG gi t0 t) ≤ sumG ts gi := sumG_le fun u _ => joinG_le u
      refine ⟨⟨_, _, rfl⟩, b2.trans b3, t2.trans t3, ?_, joinG gi t0 t, _, kvs, hc3, ?_, by omega, hS3, hp3, by omega, ?_, fun k v h => ?_, fun hcf => ?_⟩
      · rw [(hci2.terms.but2 b3 hci2.obj hci2.group).2, eT2]
      · refine hki2.mono (b3 FD _ nFx nFD hki2.at_ ▸ ?_) t3
        exact hki2.at_.symm
      · by_cases e0 : gi t0 = gi t
        · rw [show decide (gi t0 ≠ gi t) = false from decide_eq_false (fun z => z e0), Bool.or_false]
          rcases hup with h | ⟨h, h'⟩
          · exact .inl h
          · exact .inr ⟨h, by omega⟩
        · refine .inr ⟨by rw [show decide (gi t0 ≠ gi t) = true from decide_eq_true e0, Bool.or_true], ?_⟩
          have := joinG_sum m0 htm hpi e0
          omega
      · obtain ⟨tz, mz, gz, hz1, hz2, hz3⟩ := hent k v h
        exact ⟨tz, mz, gz, hz1, (hz2.mono (TX.of_same S2)).mono t3, hz3.trans (joinG_later m0 htm)⟩
      · rw [Bool.or_eq_false_iff] at hcf
        obtain ⟨hc0, hd⟩ := hcf
        have e0 : gi t0 = gi t := Decidable.of_not_not (of_decide_eq_false hd)
        obtain ⟨h1, h2⟩ := hdone hc0
        refine ⟨fun u hu => (joinG_eq e0 u).trans (h1 u hu), fun s hs => ?_⟩
        rcases (tk s).mp hs with hs | rfl
        · obtain ⟨v, tz, mz, hz1, hz2, hz3⟩ := h2 s hs
          exact ⟨v, tz, mz, hz1, (hz2.mono (TX.of_same S2)).mono t3, hz3⟩
        · have ekg : keyD g s = keyD gi s := keyD_congr fun p hp => (h1 p (ok.parts _ htm _ hp)).symm
          exact ⟨v0, t0, m0, by rw [ekg]; exact hv0, hd02.mono t3, by rw [← h1 _ m0, ← h1 _ htm]; exact e0⟩
    · -- told for the first time
      have hnin : ¬ (keyD gi t) ∈ kvs.map (·.1) := fun z => c (decide_eq_true z)
      refine ⟨_, rfl, _, rfl, _, rfl, FD, kvs, _, rfl, hki2, hkv', hdk, by omega, fun a ea hkp => ?_⟩
      generalize hH3 : upd H2 FD (kyO e.P e.w FD (kyPut kvs (.tup (.str t.name :: t.parts.map fun p => .int (gi p))) a y)) = H3 at hkp ⊢
      have b3 : But FD H2 H3 := by rw [← hH3]; exact But.put _ _
      have t3 : TX H2 H3 := by rw [← hH3]; exact TX.ky hki2
      clear hH3
      have hci3 : ClS e C_Closing H3 x dx G T D F ts gi ci := by
        have nFG : FD ≠ G := by
          obtain ⟨vs, h1, _⟩ := hci2.given
          exact (ne_of h1 hki2.at_ (fun z => by cases z)).symm
        obtain ⟨vs, h1, h2⟩ := hci2.terms
        obtain ⟨vs', h1', h2'⟩ := hci2.given
        refine ⟨b3 _ _ nFx.symm hci2.obj, ⟨vs, b3 _ _ nFT.symm h1, h2.mono t3⟩, hci2.group.mono ?_ t3, ⟨vs', b3 _ _ nFG.symm h1', h2'.mono t3⟩⟩
        obtain ⟨kvs', hk', _⟩ := hci2.group
        rw [b3 _ _ nFD.symm hk'.at_, hk'.at_]
      refine ⟨⟨_, _, rfl⟩, ?_, t2.trans t3, ?_, gi, ci, _, hci3, hkp, Nat.le_trans (ky_put_len _ _ _ _) (by omega), hSi, hpi, hsi, hup, fun k v h => ?_, fun hcf => ?_⟩
      · intro b o n1 n2 hb
        exact b3 _ _ (ne_of_none hb hFD) (b2 b o n1 n2 hb)
      · obtain ⟨vs, h1, _⟩ := hci2.terms
        rw [b3 _ _ nFT.symm h1, ← eT2, h1]
      · rw [kyLook_put] at h
        by_cases ek : k = keyD gi t
        · have ek' : k = .tup (.str t.name :: t.parts.map fun p => .int (gi p)) := ek
          rw [if_pos ek'] at h
          injection h with h
          subst h
          exact ⟨t, htm, gi, ek, hy2.mono t3, Later.refl _ _⟩
        · have ek' : ¬ k = .tup (.str t.name :: t.parts.map fun p => .int (gi p)) := ek
          rw [if_neg ek'] at h
          obtain ⟨tz, mz, gz, hz1, hz2, hz3⟩ := hent k v h
          exact ⟨tz, mz, gz, hz1, (hz2.mono (TX.of_same S2)).mono t3, hz3⟩
      · obtain ⟨h1, h2⟩ := hdone hcf
        refine ⟨h1, fun s hs => ?_⟩
        have ekg : keyD g t = keyD gi t := keyD_congr fun p hp => (h1 p (ok.parts _ htm _ hp)).symm
        rcases (tk s).mp hs with hs | rfl
        · obtain ⟨v, tz, mz, hz1, hz2, hz3⟩ := h2 s hs
          refine ⟨v, tz, mz, ?_, (hz2.mono (TX.of_same S2)).mono t3, hz3⟩
          rw [kyLook_put]
          have : ¬ keyD g s = .tup (.str t.name :: t.parts.map fun p => .int (gi p)) := fun z => hnin (by
            have z' : keyD g s = keyD gi t := z
            rw [← z']
            refine of_decide_eq_true ?_
            rw [← ky_in, hz1]
            rfl)
          rw [if_neg this]
          exact hz1
        · refine ⟨y, s, htm, ?_, hy2.mono t3, rfl⟩
          rw [kyLook_put]
          exact if_pos ekg
  · rintro σ H' ⟨⟨u1, u2, rfl⟩, b1, t1, eT, gi, ci, kvs, hci, hki, hkl, hSi, hpi, hsi, hup, hent, hdone⟩
    rw [List.length_map, List.take_length] at hdone
    refine q gi ci H' b1 hci ⟨hSi, hpi, hsi, hup, fun hcf => ?_⟩
    obtain ⟨h1, h2⟩ := hdone hcf
    refine ⟨h1, fun s hs t ht en ep => ?_⟩
    obtain ⟨v, t0, m0, l0, a0, e0⟩ := h2 s hs
    obtain ⟨v', t0', m0', l0', a0', e0'⟩ := h2 t ht
    have ek : keyD g s = keyD g t := by
      unfold keyD
      rw [en]
      have : (s.parts.map fun p => Da.int (g p)) = (t.parts.map fun p => Da.int (g p)) := by
        have := congrArg (List.map Da.int) ep
        rw [List.map_map, List.map_map] at this
        exact this
      rw [this]
    rw [ek, l0'] at l0
    injection l0 with l0
    subst l0
    have := Tm.da_inj _ _ (DaAt.det _ _ _ a0 a0')
    subst this
    exact e0.symm.trans e0'
end

abbrev s_Closing_steps : Stmt := inClass (top 23) 4
theorem sc_Closing_steps : FnScope ["self", "found", "fact", "low", "high", "begin"] ["self"] (defScope s_Closing_steps) := ⟨rfl, rfl, rfl, by decide +kernel, rfl, by decide +kernel, by decide +kernel⟩
abbrev s_beyond : Stmt := top 24
theorem sc_beyond : FnScope ["begin", "steps", "found", "waiting", "one"] ["begin", "steps"] (defScope s_beyond) := ⟨rfl, rfl, rfl, by decide +kernel, rfl, by decide +kernel, by decide +kernel⟩
def Fc.isM (f : Fc) : Bool := f.w == .most || f.w == .over
def Fc.low (f : Fc) : Tm := if f.w = .over then f.r else f.l
def Fc.high (f : Fc) : Tm := if f.w = .over then f.l else f.r
/-- where one comes from the group b by a told at most -/
def stepsOf (F : List Fc) (g : Tm → Int) (b : Int) : List Int := (F.filter fun f => f.isM && decide (g f.low = b)).map fun f => g f.high
theorem putK_mem {kvs : List (Key × V)} {k : Key} {v : V} {q : Key × V} (h : q ∈ putK kvs k v) : q.1 = k ∨ ∃ q0 ∈ kvs, q0.1 = q.1 := by
  unfold putK at h
  split at h
  · obtain ⟨z, hz, rfl⟩ := List.mem_map.mp h
    refine .inr ⟨z, hz, ?_⟩
    show z.1 = (if z.1 = k then (z.1, v) else z).1
    split <;> rfl
  · rcases List.mem_append.mp h with h | h
    · exact .inr ⟨q, h, rfl⟩
    · exact .inl (by rw [List.mem_singleton.mp h])
/-- a dict of ints to lists of ints -/
structure DLs (H : Hp) (kvs : List (Key × V)) (m : Int → List Int) : Prop where
  keysI : ∀ q ∈ kvs, ∃ b, q.1 = Sum.inl b ∧ m b ≠ []
  none_ : ∀ b, valV kvs (.inl b) = none → m b = []
  some_ : ∀ b v, valV kvs (.inl b) = some v → ∃ a, v = .ref a ∧ H a = some (.lst ((m b).map V.int))
theorem DLs.same {H H' : Hp} {kvs : List (Key × V)} {m : Int → List Int} (h : DLs H kvs m) (s : Same H H') : DLs H' kvs m :=
  ⟨h.keysI, h.none_, fun b v e => let ⟨a, h1, h2⟩ := h.some_ b v e; ⟨a, h1, s _ _ h2⟩⟩
def spSteps (e : Ev) (C : Addr) : Sp := fun vs H Q _ => ∃ (x dx G T D : Addr) (F : List Fc) (ts : List Tm) (g : Tm → Int) (ch : Bool), vs = [.ref x] ∧ ClS e C H x dx G T D F ts g ch ∧ TsOk ts ∧ FsOk F ts ∧ F.length ≤ 100000 ∧
  ∀ sd kvs H', H sd = none → Same H H' → H' sd = some (.dK kvs) → kvs.length ≤ F.length → DLs H' kvs (stepsOf F g) → Q (.ref sd) H'
section
variable {e : Ev} (B : Bl e)
include B
theorem ok_steps (A_Closing_steps : AtM e C_Closing "steps" "Closing.steps" ["self"] s_Closing_steps) (c_Closing : ClC e C_Closing) : HasM e 1 C_Closing "steps" ["self"] (spSteps e C_Closing) := by
  refine A_Closing_steps.ok sc_Closing_steps (fun vs H Q E h => ?_) (fun f cdv Ar outer s H vs Q E hr h => ?_)
  · obtain ⟨_, _, _, _, _, _, _, _, _, rfl, _⟩ := h
    rfl
  obtain ⟨x, dx, G, T, D, F, ts, g, ch, rfl, hc, ok, fok, hFl, q⟩ := h
  have nd := sc_Closing_steps.nd
  have hls := sizeLine_eq
  refine ⟨_, pss_cons (ps_st 1 nd pe_dnewK)
    (pss_cons (ps_for PassesOwn.never rfl (pi_list (pe_fldE (e := e) (pv 0) rfl)) (pg_nm 2 nd)
      (pss_cons (ps_st 3 nd (pe_ix ix_tupD (pv 2) pe_int (fun _ _ => rfl)))
      (pss_cons (ps_st 4 nd (pe_ix ix_tupD (pv 2) pe_int (fun _ _ => rfl)))
      (pss_cons (ps_cut (ps_if (pt_cmpR op_eq (pe_ix ix_tupD (pv 2) pe_int (fun _ _ => rfl)) pe_str (nomark _))
        (pss_cons (ps_st 3 nd (pe_ix ix_tupD (pv 2) pe_int (fun _ _ => rfl)))
        (pss_one (ps_st 4 nd (pe_ix ix_tupD (pv 2) pe_int (fun _ _ => rfl)))))
        (pss_nil)))
      (pss_one (ps_if (pt_cmpR op_in_seq (pe_ix ix_tupD (pv 2) pe_int (fun _ _ => rfl)) (pe_tupD (pa_cons pe_str (pa_cons pe_str pa_nil))) (by rfl))
        (pss_cons (ps_st 5 nd (pe_ix (ix_ky (e := e) (hu65 hr)) (pe_fldE (e := e) (pv 0) rfl) (pv 3) (fun _ _ => rfl)))
        (pss_one (ps_dputK (hu1 hr) (pv 1) (pv 5) (pe_op op_cat (pe_getK (hu1 hr) (pv 1) (pv 5) (pe_lstA pa_nil)) (pe_lstA (pa_cons (pe_ix (ix_ky (e := e) (hu65 hr)) (pe_fldE (e := e) (pv 0) rfl) (pv 4) (fun _ _ => rfl)) pa_nil))))))
        (pss_nil)))))))
    (pss_one (ps_ret (pv 1)))), ?_⟩
  refine fun sd hsd => ?_
  generalize hH : upd H sd (.dK []) = H1
  have S1 : Same H H1 := by rw [← hH]; exact same_new hsd _
  have w1 : H1 sd = some (.dK []) := by rw [← hH]; exact upd_same
  have hne : ∀ b, b ≠ sd → H1 b = H b := fun b n => by rw [← hH]; exact upd_ne n
  clear hH
  have hc1 := hc.same S1
  refine ⟨_, rfl, x, C_Closing, dx, _, _, rfl, hc1.obj, c_Closing.cl, c_Closing.given, by rfl, G, rfl, for_listD hc1.given (fun i σ H' => (∃ u1 u2 u3 u4, σ = [some (.ref x), some (.ref sd), u1, u2, u3, u4]) ∧ Same H H' ∧ ∃ kvs, H' sd = some (.dK kvs) ∧ kvs.length ≤ i ∧ DLs H' kvs (stepsOf (F.take i) g))
    ⟨⟨_, _, _, _, rfl⟩, S1, [], w1, Nat.le_refl _, (fun q hq => by cases hq), (fun b _ => rfl), fun b v h => by cases h⟩ (fun i σ H' h => ?_) ?_ ?_⟩
  · obtain ⟨_, S2, _⟩ := h
    refine ⟨fun a o im e1 => S2 a o ?_, ?_⟩
    · rw [← hne a (ne_of e1 w1 (fun z => by subst z; exact im))]
      exact e1
    · obtain ⟨vs, h1, _⟩ := hc.given
      rw [S2 _ _ h1, S1 _ _ h1]
  · rintro i y d' σ H' hi hy ⟨⟨u1, u2, u3, u4, rfl⟩, S2, kvs, hk, hkl, hD⟩
    obtain ⟨f0, hf, rfl⟩ : ∃ f0, F[i]? = some f0 ∧ d' = f0.da := by
      rw [List.getElem?_map] at hi
      cases e1 : F[i]? with
      | none => rw [e1] at hi; cases hi
      | some z => rw [e1] at hi; exact ⟨z, rfl, (Option.some.inj hi).symm⟩
    have hfm := List.mem_of_getElem? hf
    have hil : i < F.length := (List.getElem?_eq_some_iff.mp hf).1
    obtain ⟨fl, fr⟩ := fok _ hfm
    have hy0 : DaAt H' y (.tup [.str f0.w.name, f0.l.da, f0.r.da]) := hy
    refine ⟨_, rfl, _, 1, _, hy0, rfl, at1, fun w1 hw1 => ⟨_, rfl, _, 2, _, hy0, rfl, at2, fun w2 hw2 => ?_⟩⟩
    have hlow : f0.low ∈ ts := by unfold Fc.low; split <;> assumption
    have hhigh : f0.high ∈ ts := by unfold Fc.high; split <;> assumption
    refine ⟨fun σ H2 => ∃ vl vh u, σ = [some (.ref x), some (.ref sd), some y, some vl, some vh, u] ∧ H' = H2 ∧ DaAt H2 vl f0.low.da ∧ DaAt H2 vh f0.high.da, ?_, ?_⟩
    · refine ⟨_, rfl, _, 0, _, hy0, rfl, at0, fun w hw => ?_⟩
      obtain rfl := hw.str_inv
      refine ⟨rfl, _, rfl, ?_⟩
      refine ite2 (fun c => ?_) (fun c => ?_)
      · have e1 : f0.w = .over := by
          have := of_decide_eq_true c
          injection this with this
          exact Wd.name_inj (b := .over) this
        refine ⟨_, rfl, _, 2, _, hy0, rfl, at2, fun w3 hw3 => ⟨_, rfl, _, 1, _, hy0, rfl, at1, fun w4 hw4 => ?_⟩⟩
        exact ⟨w3, w4, _, rfl, rfl, by unfold Fc.low; rw [if_pos e1]; exact hw3, by unfold Fc.high; rw [if_pos e1]; exact hw4⟩
      · have e1 : ¬ f0.w = .over := fun z => c (decide_eq_true (by rw [z]; rfl))
        exact ⟨w1, w2, _, rfl, rfl, by unfold Fc.low; rw [if_neg e1]; exact hw1, by unfold Fc.high; rw [if_neg e1]; exact hw2⟩
    rintro σ _ ⟨vl, vh, u, rfl, rfl, hvl, hvh⟩
    refine ⟨_, rfl, _, 0, _, hy0, rfl, at0, fun w hw => ?_⟩
    obtain rfl := hw.str_inv
    refine ⟨[.str "most", .str "over"], .cons .str (.one .str), by simp, fun v1 H2 S3 h1 => ?_⟩
    obtain ⟨p, rfl, hp⟩ := das_two h1
    refine ⟨p, _, rfl, .inr (SqT.of hp), rfl, rfl, _, rfl, ?_⟩
    have e1 : inV (V.str f0.w.name) [V.str "most", V.str "over"] = f0.isM := by unfold Fc.isM; cases f0.w <;> decide +kernel
    rw [e1]
    have S23 := S2.trans S3
    have est : ∀ b, stepsOf (F.take (i + 1)) g b = stepsOf (F.take i) g b ++ (if f0.isM = true ∧ g f0.low = b then [g f0.high] else []) := fun b => by
      unfold stepsOf
      rw [take_snoc hf, List.filter_append, List.map_append]
      congr 1
      by_cases h : f0.isM = true ∧ g f0.low = b
      · rw [if_pos h, List.filter_cons, if_pos (by rw [h.1, decide_eq_true h.2]; rfl)]
        rfl
      · rw [if_neg h, List.filter_cons, if_neg (by
          rw [Bool.and_eq_true, decide_eq_true_eq]
          exact h)]
        rfl
    have hk2 := S3 _ _ hk
    have hD2 := hD.same S3
    cases hM : f0.isM with
    | false =>
      refine ⟨⟨_, _, _, _, rfl⟩, S23, kvs, hk2, by omega, fun z hz => (by obtain ⟨b, h1, h2⟩ := hD2.keysI z hz; exact ⟨b, h1, by rw [est]; simp [h2]⟩), fun b h => ?_, fun b v h => ?_⟩
      · rw [est, if_neg (by rw [hM]; simp), List.append_nil]; exact hD2.none_ b h
      · rw [est, if_neg (by rw [hM]; simp), List.append_nil]; exact hD2.some_ b v h
    | true =>
      have hc2 := hc.same S23
      obtain ⟨kg, hkg, hks, hkl2⟩ := id hc2.group
      have k1 := hkl2 _ hlow
      have k2 := hkl2 _ hhigh
      have d1 : (Da.tup (.str f0.low.name :: f0.low.parts.map Tm.da)).depth ≤ 8 := by rw [← Tm.da_eq, Tm.da_depth]; have := ok.deep _ hlow; omega
      have d2 : (Da.tup (.str f0.high.name :: f0.high.parts.map Tm.da)).depth ≤ 8 := by rw [← Tm.da_eq, Tm.da_depth]; have := ok.deep _ hhigh; omega
      rw [Tm.da_eq] at k1 k2 hvl hvh
      obtain ⟨b, eb⟩ : ∃ b, b = g f0.low := ⟨_, rfl⟩
      rw [← eb] at k1
      refine ⟨_, rfl, x, C_Closing, dx, _, _, rfl, hc2.obj, c_Closing.cl, c_Closing.group, by rfl, _, rfl, D, kg, _, _, rfl, hkg, hvl.mono (TX.of_same S3), d1, k1, ?_⟩
      refine ⟨_, rfl, sd, rfl, .inl ⟨kvs, Rd.of hk2⟩, _, rfl, by simp, fun p0 H3 hp0 S4 w3 => ⟨_, DGet.k (k := .inl b) (S4 _ _ hk2), ?_⟩⟩
      have hsl : (stepsOf (F.take i) g b).length ≤ 100000 := by
        unfold stepsOf
        rw [List.length_map]
        have h1 := List.length_filter_le (fun f : Fc => f.isM && decide (g f.low = b)) (F.take i)
        have h2 : (F.take i).length ≤ F.length := List.length_take_le' _ _
        omega
      obtain ⟨l, hl1, hl2⟩ : ∃ l, (valV kvs (.inl b)).getD (.ref p0) = .ref l ∧ H3 l = some (.lst ((stepsOf (F.take i) g b).map V.int)) := by
        cases hv : valV kvs (.inl b) with
        | none => exact ⟨p0, rfl, by rw [hD2.none_ b hv]; exact w3⟩
        | some v =>
          obtain ⟨a, rfl, ha⟩ := hD2.some_ b v hv
          exact ⟨a, rfl, S4 _ _ ha⟩
      rw [hl1]
      have hc3 := hc2.same S4
      obtain ⟨kg3, hkg3, hks3, hkl3⟩ := id hc3.group
      have k3 := hkl3 _ hhigh
      rw [Tm.da_eq] at k3
      refine ⟨_, rfl, x, C_Closing, dx, _, _, rfl, hc3.obj, c_Closing.cl, c_Closing.group, by rfl, _, rfl, D, kg3, _, _, rfl, hkg3, (hvh.mono (TX.of_same S3)).mono (TX.of_same S4), d2, k3, by simp only [List.length_cons, List.length_nil]; omega, fun p1 H4 hp1 S5 w4 => ?_⟩
      refine ⟨l, p1, _, _, rfl, rfl, S5 _ _ hl2, w4, by simp only [List.length_map, List.length_cons, List.length_nil]; omega, fun p2 hp2 => ?_⟩
      generalize hH5 : upd H4 p2 (.lst ((stepsOf (F.take i) g b).map V.int ++ [V.int (g f0.high)])) = H5
      have S6 : Same H4 H5 := by rw [← hH5]; exact same_new hp2 _
      have w5 : H5 p2 = some (.lst ((stepsOf (F.take i) g b).map V.int ++ [V.int (g f0.high)])) := by rw [← hH5]; exact upd_same
      clear hH5
      have hk5 := S6 _ _ (S5 _ _ (S4 _ _ hk2))
      have S26 := ((S4.trans S5).trans S6)
      refine ⟨_, rfl, _, rfl, sd, _, rfl, DPut.k (k := .inl b) hk5 (by omega), ?_⟩
      have hsd2 : ∀ {a : Addr} {xs : List V}, H5 a = some (.lst xs) → upd H5 sd (.dK (putK kvs (.inl b) (.ref p2))) a = some (.lst xs) := fun h => by
        rw [upd_ne (ne_of h hk5 (fun z => by cases z))]
        exact h
      refine ⟨⟨_, _, _, _, rfl⟩, same_put (S23.trans S26) hsd _, _, upd_same, Nat.le_trans (length_putK _ _ _) (by omega), fun z hz => ?_, fun b' h => ?_, fun b' v h => ?_⟩
      · rcases putK_mem hz with e | ⟨z0, h0, e⟩
        · exact ⟨b, e, by rw [est, if_pos ⟨hM, eb.symm⟩]; simp⟩
        · rw [← e]
          obtain ⟨b', h1, h2⟩ := hD2.keysI z0 h0
          exact ⟨b', h1, by rw [est]; simp [h2]⟩
      · rw [valV_put] at h
        by_cases e : (Sum.inl b' : Key) = .inl b
        · rw [if_pos e] at h; cases h
        · rw [if_neg e] at h
          rw [est, if_neg (fun z => e (by rw [← z.2, eb])), List.append_nil]
          exact hD2.none_ b' h
      · rw [valV_put] at h
        by_cases e : (Sum.inl b' : Key) = .inl b
        · rw [if_pos e] at h
          injection h with h
          injection e with e
          subst h e
          refine ⟨p2, rfl, ?_⟩
          rw [est, if_pos ⟨hM, eb.symm⟩, List.map_append]
          exact hsd2 w5
        · rw [if_neg e] at h
          rw [est, if_neg (fun z => e (by rw [← z.2, eb])), List.append_nil]
          obtain ⟨a, rfl, ha⟩ := hD2.some_ b' v h
          exact ⟨a, rfl, hsd2 (S26 _ _ ha)⟩
  · rintro σ H' ⟨⟨u1, u2, u3, u4, rfl⟩, S2, kvs, hk, hkl, hD⟩
    rw [List.length_map, List.take_length] at hD
    rw [List.length_map] at hkl
    exact ⟨_, rfl, q sd kvs H' hsd S2 hk hkl hD⟩
end

/-- by one step or more -/
inductive Reach (m : Int → List Int) (b : Int) : Int → Prop
  | one {z : Int} : z ∈ m b → Reach m b z
  | step {y z : Int} : Reach m b y → z ∈ m y → Reach m b z
def muB (U : List Int) (m : Int → List Int) (fs : List Int) : Nat := ((U.filter fun y => !decide (y ∈ fs)).map fun y => (m y).length + 1).sum
theorem muB_le {U : List Int} {m : Int → List Int} {fs : List Int} {y : Int} : muB U m (fs ++ [y]) ≤ muB U m fs := by
  induction U with
  | nil => exact Nat.le_refl _
  | cons u r ih =>
    unfold muB at ih ⊢
    by_cases h1 : u ∈ fs
    · rw [List.filter_cons, if_neg (by simp [h1]), List.filter_cons, if_neg (by simp [h1])]
      exact ih
    · rw [List.filter_cons (xs := r) (p := fun y => !decide (y ∈ fs)), if_pos (by simp [h1])]
      rw [List.filter_cons]
      split
      · simp only [List.map_cons, List.sum_cons]; omega
      · simp only [List.map_cons, List.sum_cons]; omega
theorem muB_lt {U : List Int} {m : Int → List Int} {fs : List Int} {y : Int} (hy : y ∈ U) (hn : ¬ y ∈ fs) : muB U m (fs ++ [y]) + ((m y).length + 1) ≤ muB U m fs := by
  induction U with
  | nil => cases hy
  | cons u r ih =>
    by_cases e : u = y
    · subst e
      have := muB_le (U := r) (m := m) (fs := fs) (y := u)
      unfold muB at this ⊢
      rw [List.filter_cons, if_neg (by simp), List.filter_cons, if_pos (by simp [hn])]
      simp only [List.map_cons, List.sum_cons]
      omega
    · have hy' : y ∈ r := by
        rcases List.mem_cons.mp hy with h | h
        · exact absurd h.symm e
        · exact h
      have := ih hy'
      unfold muB at this ⊢
      by_cases h1 : u ∈ fs
      · rw [List.filter_cons, if_neg (by simp [h1]), List.filter_cons, if_neg (by simp [h1])]
        exact this
      · rw [List.filter_cons, if_pos (by simp [h1, e]), List.filter_cons, if_pos (by simp [h1])]
        simp only [List.map_cons, List.sum_cons]
        omega
theorem inV_int (o : Int) : ∀ l : List Int, inV (V.int o) (l.map V.int) = decide (o ∈ l) ∧ (l.map V.int).all flatV = true
  | [] => ⟨by simp [inV], rfl⟩
  | x :: r => by
    obtain ⟨h1, h2⟩ := inV_int o r
    refine ⟨?_, by simp only [List.map_cons, List.all_cons, h2]; rfl⟩
    have e1 : inV (V.int o) ((x :: r).map V.int) = (eqV (V.int x) (V.int o) || inV (V.int o) (r.map V.int)) := rfl
    rw [e1, h1]
    have e2 : eqV (V.int x) (V.int o) = decide (x = o) := by
      by_cases h : x = o
      · subst h; simp [eqV]
      · simp [eqV, h]
    rw [e2]
    by_cases h : x = o
    · subst h; simp
    · have h' : ¬ o = x := fun z => h z.symm
      simp [h, h']
def spBeyond : Sp := fun vs H Q _ => ∃ (b : Int) (sd : Addr) (kvs : List (Key × V)) (m : Int → List Int) (U : List Int), vs = [.int b, .ref sd] ∧ Rd H sd (.dK kvs) ∧ DLs H kvs m ∧ (∀ y z, z ∈ m y → z ∈ U) ∧ muB U m [] + (m b).length ≤ 1000000 ∧
  ∀ (p : Addr) (l : List Int) (H' : Hp), H p = none → Same H H' → H' p = some (.lst (l.map V.int)) → (∀ z, z ∈ l ↔ Reach m b z) → Q (.ref p) H'
section
variable {e : Ev} (B : Bl e)
include B
theorem ok_beyond (A_beyond : At e "beyond" ["begin", "steps"] s_beyond) : Has e 1 "beyond" ["begin", "steps"] spBeyond := by
  refine A_beyond.ok sc_beyond (fun vs H Q E h => ?_) (fun f cdv Ar outer s H vs Q E hr h => ?_)
  · obtain ⟨_, _, _, _, _, rfl, _⟩ := h
    rfl
  obtain ⟨b, sd, kvs, m, U, rfl, hk, hD, hU, hmu, q⟩ := h
  have nd := sc_beyond.nd
  have hls := sizeLine_eq
  refine ⟨_, pss_cons (ps_st 2 nd (pe_lstA pa_nil))
    (pss_cons (ps_st 3 nd (pe_ty call_list_of B.list (pa_cons (pe_getK (hu1 hr) (pv 1) (pv 0) (pe_lstA pa_nil)) pa_nil)))
    (pss_cons (ps_cut (ps_while PassesOwn.never (pt_cmpR (op_neNil (hu64 hr)) (pv 3) (pe_lstA pa_nil) (nomark _))
      (pss_cons (ps_st 4 nd (pe_bm0 PySem.F.plainAttrs_list PySem.F.slot_list_pop PySem.F.type_list_pop mt_pop (pv 3)))
      (pss_one (ps_if (pt_cmpR op_notIn_seq (pv 4) (pv 2) (by rfl))
        (pss_cons (ps_expr (pe_app (pv 2) (pa_cons (pv 4) pa_nil)))
        (pss_one (ps_expr (pe_bm PySem.F.plainAttrs_list PySem.F.slot_list_extend PySem.F.type_list_extend mt_extend (pv 3) (pa_cons (pe_ty call_list_of B.list (pa_cons (pe_getK (hu1 hr) (pv 1) (pv 4) (pe_lstA pa_nil)) pa_nil)) pa_nil)))))
        (pss_nil))))))
    (pss_one (ps_ret (pv 2))))), ?_⟩
  refine ⟨by simp, fun p H1 hp S1 w1 => ?_⟩
  have rd : ∀ {H' : Hp}, Same H H' → Rd H' sd (.dK kvs) := fun S => by
    rcases hk with h | ⟨o, h⟩
    · exact .inl (S _ _ h)
    · exact .inr ⟨o, S _ _ h⟩
  have get : ∀ {H' : Hp} (y : Int), Same H H' → DGet H' sd (.int y) (valV kvs (.inl y)) := fun y S => .inl ⟨kvs, .inl y, rd S, rfl, rfl⟩
  -- what is at y, or a new empty list
  have at_ : ∀ {H' : Hp} {p0 : Addr} (y : Int), Same H H' → H' p0 = some (.lst []) → ∃ l, (valV kvs (.inl y)).getD (.ref p0) = .ref l ∧ H' l = some (.lst ((m y).map V.int)) := fun {H' p0} y S w0 => by
    cases hv : valV kvs (.inl y) with
    | none => exact ⟨p0, rfl, by rw [hD.none_ y hv]; exact w0⟩
    | some v =>
      obtain ⟨a, rfl, ha⟩ := hD.some_ y v hv
      exact ⟨a, rfl, S _ _ ha⟩
  refine ⟨_, rfl, sd, rfl, .inl ⟨kvs, rd S1⟩, _, rfl, by simp, fun p0 H2 hp0 S2 w0 => ⟨_, get b (S1.trans S2), ?_⟩⟩
  obtain ⟨l0, hl1, hl2⟩ := at_ b (S1.trans S2) w0
  rw [hl1]
  refine ⟨l0, _, rfl, .inl (SqL.of hl2), fun wq hwq => ?_⟩
  generalize hH3 : upd H2 wq (.lst ((m b).map V.int)) = H3
  have S3 : Same H2 H3 := by rw [← hH3]; exact same_new hwq _
  have wq3 : H3 wq = some (.lst ((m b).map V.int)) := by rw [← hH3]; exact upd_same
  clear hH3
  have S13 := (S1.trans S2).trans S3
  have hpq : p ≠ wq := ne_of_none (S2 _ _ w1) hwq
  have hwq0 : H wq = none := same_none (S1.trans S2) hwq
  refine ⟨fun σ H' => ∃ (fs : List Int) (o4 : Option V), σ = [some (.int b), some (.ref sd), some (.ref p), some (.ref wq), o4] ∧ H' p = some (.lst (fs.map V.int)) ∧ Same H H' ∧ (∀ z ∈ fs, Reach m b z) ∧ (∀ z ∈ m b, z ∈ fs) ∧ ∀ y ∈ fs, ∀ z ∈ m y, z ∈ fs, ?_, ?_⟩
  · refine ⟨fun k σ H' => ∃ (fs ws : List Int) (o4 : Option V), k = muB U m fs + ws.length ∧ k ≤ 1000000 ∧ fs.length ≤ 1000000 ∧ fs.length + muB U m fs ≤ 1000000 ∧ σ = [some (.int b), some (.ref sd), some (.ref p), some (.ref wq), o4] ∧ H' p = some (.lst (fs.map V.int)) ∧ H' wq = some (.lst (ws.map V.int)) ∧ Same H H' ∧
      (∀ z ∈ fs, Reach m b z) ∧ (∀ z ∈ ws, Reach m b z) ∧ (∀ z ∈ m b, z ∈ fs ∨ z ∈ ws) ∧ ∀ y ∈ fs, ∀ z ∈ m y, z ∈ fs ∨ z ∈ ws,
      ⟨_, [], m b, _, rfl, hmu, Nat.zero_le _, by simp only [List.length_nil]; omega, rfl, S3 _ _ (S2 _ _ w1), wq3, S13, (fun z h => by cases h), (fun z h => .one h), (fun z h => .inr h), fun y h => by cases h⟩, ?_⟩
    rintro k σ H' ⟨fs, ws, o4, rfl, hk1, hfl, hfm, rfl, wp, ww, S4, hfr, hwr, hb, hcl⟩
    refine ⟨_, rfl, by simp, fun pn H5 hpn S5 wn => ⟨wq, pn, _, rfl, rfl, SqL.of (S5 _ _ ww), wn, _, rfl, ?_⟩⟩
    have S45 := S4.trans S5
    have wp5 := S5 _ _ wp
    have ww5 := S5 _ _ ww
    rcases List.eq_nil_or_concat ws with rfl | ⟨ws', y, rfl⟩
    · exact ⟨fs, o4, rfl, wp5, S45, hfr, (fun z hz => (hb z hz).resolve_right (fun h => by cases h)), fun y hy z hz => (hcl y hy z hz).resolve_right (fun h => by cases h)⟩
    · have ene : (!((ws' ++ [y]).map V.int).isEmpty) = true := by simp
      rw [List.concat_eq_append] at *
      show (if (!((ws' ++ [y]).map V.int).isEmpty) = true then _ else _)
      rw [ene]
      refine ⟨_, fun σ' H' q => q, ?_⟩
      refine ⟨_, rfl, .inl ⟨rfl, _, SqL.of ww5⟩, wq, _, .int y, rfl, rfl, ww5, by simp, ?_⟩
      have edl : ((ws' ++ [y]).map V.int).dropLast = ws'.map V.int := by rw [List.map_append]; simp
      rw [edl]
      generalize hH6 : upd H5 wq (.lst (ws'.map V.int)) = H6
      have w6 : H6 wq = some (.lst (ws'.map V.int)) := by rw [← hH6]; exact upd_same
      have S6 : Same H H6 := by rw [← hH6]; exact same_put S45 hwq0 _
      have wp6 : H6 p = some (.lst (fs.map V.int)) := by rw [← hH6, upd_ne hpq]; exact wp5
      clear hH6
      obtain ⟨i1, i2⟩ := inV_int y fs
      have hyr := hwr y (by simp)
      have hyU : y ∈ U := by cases hyr with
        | one h => exact hU _ _ h
        | step _ h => exact hU _ _ h
      have hwl : (ws' ++ [y]).length = ws'.length + 1 := by simp
      refine ⟨_, rfl, _, rfl, p, _, rfl, .inl (SqL.of wp6), rfl, i2, _, rfl, ?_⟩
      rw [i1]
      by_cases hy : y ∈ fs
      · rw [decide_eq_true hy]
        refine ⟨_, by rw [hwl]; omega, fs, ws', _, rfl, by rw [hwl] at hk1; omega, hfl, hfm, rfl, wp6, w6, S6, hfr, fun z hz => hwr z (by simp [hz]), fun z hz => ?_, fun u hu z hz => ?_⟩
        · rcases hb z hz with h | h
          · exact .inl h
          · rcases List.mem_append.mp h with h | h
            · exact .inr h
            · rw [List.mem_singleton.mp h]; exact .inl hy
        · rcases hcl u hu z hz with h | h
          · exact .inl h
          · rcases List.mem_append.mp h with h | h
            · exact .inr h
            · rw [List.mem_singleton.mp h]; exact .inl hy
      · rw [decide_eq_false hy]
        have hmu2 := muB_lt (m := m) hyU hy
        refine ⟨_, rfl, .inl ⟨rfl, _, SqL.of wp6⟩, _, rfl, p, _, .int y, rfl, rfl, wp6, by rw [List.length_map]; omega, ?_⟩
        generalize hH7 : upd H6 p (.lst (fs.map V.int ++ [.int y])) = H7
        have wp7 : H7 p = some (.lst ((fs ++ [y]).map V.int)) := by rw [← hH7, upd_same, List.map_append]; rfl
        have S7 : Same H H7 := by rw [← hH7]; exact same_put S6 hp _
        have ww7 : H7 wq = some (.lst (ws'.map V.int)) := by rw [← hH7, upd_ne hpq.symm]; exact w6
        clear hH7
        refine ⟨_, rfl, .inl ⟨rfl, _, SqL.of ww7⟩, _, rfl, sd, rfl, .inl ⟨kvs, rd S7⟩, _, rfl, by simp, fun p8 H8 hp8 S8 w8 => ⟨_, get y (S7.trans S8), ?_⟩⟩
        obtain ⟨l8, hl81, hl82⟩ := at_ y (S7.trans S8) w8
        rw [hl81]
        refine ⟨l8, _, rfl, .inl (SqL.of hl82), fun p9 hp9 => ?_⟩
        generalize hH9 : upd H8 p9 (.lst ((m y).map V.int)) = H9
        have S9 : Same H8 H9 := by rw [← hH9]; exact same_new hp9 _
        have w9 : H9 p9 = some (.lst ((m y).map V.int)) := by rw [← hH9]; exact upd_same
        clear hH9
        have S79 := S7.trans (S8.trans S9)
        have ww9 := S9 _ _ (S8 _ _ ww7)
        have wp9 := S9 _ _ (S8 _ _ wp7)
        have hsz : (m y).length + 1 ≤ 1000000 := by omega
        refine ⟨wq, p9, _, _, rfl, rfl, ww9, w9, by rw [List.length_map, List.length_map]; omega, ?_⟩
        have hfl2 : (fs ++ [y]).length = fs.length + 1 := by simp
        refine ⟨muB U m (fs ++ [y]) + (ws' ++ m y).length, by rw [hwl, List.length_append]; omega, fs ++ [y], ws' ++ m y, _, rfl, by rw [hwl] at hk1; rw [List.length_append]; omega, by omega, by omega, rfl, ?_, ?_, same_put S79 hwq0 _, fun z hz => ?_, fun z hz => ?_, fun z hz => ?_, fun u hu z hz => ?_⟩
        · rw [upd_ne hpq]; exact wp9
        · rw [upd_same, List.map_append]
        · rcases List.mem_append.mp hz with h | h
          · exact hfr z h
          · rw [List.mem_singleton.mp h]; exact hyr
        · rcases List.mem_append.mp hz with h | h
          · exact hwr z (by simp [h])
          · exact .step hyr h
        · rcases hb z hz with h | h
          · exact .inl (by simp [h])
          · rcases List.mem_append.mp h with h | h
            · exact .inr (by simp [h])
            · rw [List.mem_singleton.mp h]; exact .inl (by simp)
        · rcases List.mem_append.mp hu with hu | hu
          · rcases hcl u hu z hz with h | h
            · exact .inl (by simp [h])
            · rcases List.mem_append.mp h with h | h
              · exact .inr (by simp [h])
              · rw [List.mem_singleton.mp h]; exact .inl (by simp)
          · rw [List.mem_singleton.mp hu] at hz
            exact .inr (by simp [hz])
  · rintro σ H' ⟨fs, o4, rfl, wp, S4, hfr, hb, hcl⟩
    refine ⟨_, rfl, q p fs H' hp S4 wp fun z => ⟨hfr z, fun h => ?_⟩⟩
    induction h with
    | one h => exact hb _ h
    | step _ h2 ih => exact hcl _ ih _ h2
end

abbrev s_Closing_join_rings : Stmt := inClass (top 23) 5
theorem sc_Closing_join_rings : FnScope ["self", "steps", "reached", "begin", "first", "term", "end"] ["self"] (defScope s_Closing_join_rings) := ⟨rfl, rfl, rfl, by decide +kernel, rfl, by decide +kernel, by decide +kernel⟩
/-- A goes round by M -/
structure RingRel (A M : Tm → Tm → Prop) (ts : List Tm) (F : List Fc) : Prop where
  told : ∀ f ∈ F, f.isM = true → M f.low f.high
  of_ : ∀ u ∈ ts, ∀ v ∈ ts, A u v → M u v
  trans : ∀ u ∈ ts, ∀ v ∈ ts, ∀ w ∈ ts, M u v → M v w → M u w
  ring : ∀ u ∈ ts, ∀ v ∈ ts, M u v → M v u → A u v
def RingCl (F : List Fc) (g : Tm → Int) : Prop := ∀ b z, Reach (stepsOf F g) b z → Reach (stepsOf F g) z b → b = z
theorem steps_in {F : List Fc} {g : Tm → Int} {b z : Int} (h : z ∈ stepsOf F g b) : ∃ f ∈ F, f.isM = true ∧ g f.low = b ∧ g f.high = z := by
  unfold stepsOf at h
  obtain ⟨f, hf, rfl⟩ := List.mem_map.mp h
  obtain ⟨h1, h2⟩ := List.mem_filter.mp hf
  rw [Bool.and_eq_true, decide_eq_true_eq] at h2
  exact ⟨f, h1, h2.1, h2.2, rfl⟩
theorem low_mem {F : List Fc} {ts : List Tm} (h : FsOk F ts) {f : Fc} (hf : f ∈ F) : f.low ∈ ts ∧ f.high ∈ ts := by
  obtain ⟨h1, h2⟩ := h f hf
  refine ⟨?_, ?_⟩
  · unfold Fc.low; split <;> assumption
  · unfold Fc.high; split <;> assumption
theorem reach_sound {A M : Tm → Tm → Prop} {ts : List Tm} {F : List Fc} {g : Tm → Int} (R : RingRel A M ts F) (S : SoundG A ts g) (fok : FsOk F ts) {b z : Int} (h : Reach (stepsOf F g) b z) : ∀ s ∈ ts, ∀ t ∈ ts, g s = b → g t = z → M s t := by
  induction h with
  | one h =>
    intro s hs t ht e1 e2
    obtain ⟨f, hf, hm, h1, h2⟩ := steps_in h
    obtain ⟨l1, l2⟩ := low_mem fok hf
    have a1 := R.of_ _ hs _ l1 (S _ hs _ l1 (e1.trans h1.symm))
    have a2 := R.of_ _ l2 _ ht (S _ l2 _ ht (h2.trans e2.symm))
    exact R.trans _ hs _ l1 _ ht a1 (R.trans _ l1 _ l2 _ ht (R.told f hf hm) a2)
  | step _ h2 ih =>
    intro s hs t ht e1 e2
    obtain ⟨f, hf, hm, h3, h4⟩ := steps_in h2
    obtain ⟨l1, l2⟩ := low_mem fok hf
    have a1 := ih s hs _ l1 e1 h3
    have a2 := R.of_ _ l2 _ ht (S _ l2 _ ht (h4.trans e2.symm))
    exact R.trans _ hs _ l1 _ ht a1 (R.trans _ l1 _ l2 _ ht (R.told f hf hm) a2)
theorem reach_end {F : List Fc} {ts : List Tm} {g : Tm → Int} (fok : FsOk F ts) {b z : Int} (h : Reach (stepsOf F g) b z) : ∃ t ∈ ts, g t = z := by
  cases h with
  | one h => obtain ⟨f, hf, _, _, h2⟩ := steps_in h; exact ⟨_, (low_mem fok hf).2, h2⟩
  | step _ h => obtain ⟨f, hf, _, _, h2⟩ := steps_in h; exact ⟨_, (low_mem fok hf).2, h2⟩
theorem reach_from {m : Int → List Int} {b z : Int} (h : Reach m b z) : m b ≠ [] := by
  induction h with
  | one h => exact List.ne_nil_of_mem h
  | step _ _ ih => exact ih
theorem sum0 {α : Type} : ∀ l : List α, (l.map fun _ => (0 : Nat)).sum = 0
  | [] => rfl
  | _ :: r => by rw [List.map_cons, List.sum_cons, sum0 r]
theorem sum_add {α : Type} (a b : α → Nat) : ∀ l : List α, (l.map fun x => a x + b x).sum = (l.map a).sum + (l.map b).sum
  | [] => rfl
  | _ :: r => by simp only [List.map_cons, List.sum_cons, sum_add a b r]; omega
theorem sum_one {P : Prop} [Decidable P] {a : Int} : ∀ U : List Int, U.Nodup → (U.map fun b => (if P ∧ a = b then 1 else 0)).sum ≤ 1
  | [], _ => by simp
  | u :: s, hU => by
    rw [List.nodup_cons] at hU
    rw [List.map_cons, List.sum_cons]
    by_cases h : P ∧ a = u
    · have e3 : (s.map fun b => (if P ∧ a = b then 1 else 0)).sum = 0 := by
        rw [List.map_congr_left (g := fun _ => 0) fun b hb => if_neg fun z => hU.1 (by rw [← h.2, z.2]; exact hb), sum0]
      rw [if_pos h, e3]
      exact Nat.le_refl _
    · rw [if_neg h, Nat.zero_add]
      exact sum_one s hU.2
/-- the steps' sum -/
theorem stepsOf_sum (g : Tm → Int) {U : List Int} (hU : U.Nodup) : ∀ F : List Fc, (U.map fun b => (stepsOf F g b).length).sum ≤ F.length
  | [] => by
    have : ∀ b, (stepsOf [] g b).length = 0 := fun _ => rfl
    simp only [this, sum0]
    exact Nat.le_refl _
  | f :: r => by
    have ih := stepsOf_sum g hU r
    have e1 : ∀ b, (stepsOf (f :: r) g b).length = (stepsOf r g b).length + (if f.isM = true ∧ g f.low = b then 1 else 0) := fun b => by
      unfold stepsOf
      rw [List.filter_cons]
      by_cases h : f.isM = true ∧ g f.low = b
      · rw [if_pos h, if_pos (by rw [h.1, decide_eq_true h.2]; rfl)]; simp
      · rw [if_neg h, if_neg (by rw [Bool.and_eq_true, decide_eq_true_eq]; exact h)]; simp
    simp only [e1]
    rw [sum_add, List.length_cons]
    have := sum_one (P := f.isM = true) (a := g f.low) U hU
    omega
theorem valV_key {kvs : List (Key × V)} {k : Key} {v : V} (h : valV kvs k = some v) : ∃ q ∈ kvs, q.1 = k := by
  unfold valV at h
  cases e : kvs.find? (fun kv => decide (kv.1 = k)) with
  | none => rw [e] at h; cases h
  | some q => exact ⟨q, List.mem_of_find?_eq_some e, by simpa using List.find?_some e⟩
theorem stepsOf_len {F : List Fc} {g : Tm → Int} {b : Int} : (stepsOf F g b).length ≤ F.length := by
  unfold stepsOf
  rw [List.length_map]
  exact List.length_filter_le _ _
theorem sum_le {α : Type} {a : α → Nat} {n : Nat} (h : ∀ x, a x ≤ n) : ∀ l : List α, (l.map a).sum ≤ l.length * n
  | [] => by simp
  | x :: r => by
    have := sum_le h r
    have := h x
    rw [List.map_cons, List.sum_cons, List.length_cons, Nat.succ_mul]
    omega
theorem mu_ok {F : List Fc} {g : Tm → Int} {b : Int} (h : F.length ≤ 500) : muB (F.map fun f => g f.high) (stepsOf F g) [] + (stepsOf F g b).length ≤ 1000000 := by
  unfold muB
  have h1 := sum_le (a := fun y => (stepsOf F g y).length + 1) (n := F.length + 1) (fun y => by have := stepsOf_len (F := F) (g := g) (b := y); omega) ((F.map fun f => g f.high).filter fun y => !decide (y ∈ ([] : List Int)))
  have h2 := List.length_filter_le (fun y => !decide (y ∈ ([] : List Int))) (F.map fun f => g f.high)
  rw [List.length_map] at h2
  have h3 := stepsOf_len (F := F) (g := g) (b := b)
  have h4 : ((F.map fun f => g f.high).filter fun y => !decide (y ∈ ([] : List Int))).length * (F.length + 1) ≤ 500 * 501 := Nat.mul_le_mul (by omega) (by omega)
  omega
def spRings (e : Ev) (C : Addr) : Sp := fun vs H Q _ => ∃ (x dx G T D : Addr) (F : List Fc) (ts : List Tm) (g : Tm → Int) (ch : Bool) (A M : Tm → Tm → Prop), vs = [.ref x] ∧ ClS e C H x dx G T D F ts g ch ∧ TsOk ts ∧ FsOk F ts ∧ F.length ≤ 500 ∧ (∀ u ∈ ts, 0 ≤ g u) ∧ EqvOn A ts ∧ RingRel A M ts F ∧ SoundG A ts g ∧
  ∀ g' ch' H', But2 x D H H' → ClS e C H' x dx G T D F ts g' ch' → Pass A ts g g' ch ch' (RingCl F) → Q .non H'
section
variable {e : Ev} (B : Bl e)
include B
theorem ok_rings (A_Closing_join_rings : AtM e C_Closing "join_rings" "Closing.join_rings" ["self"] s_Closing_join_rings) (c_Closing : ClC e C_Closing) (h_Closing_join : HasM e 1 C_Closing "join" ["self", "one", "other"] (spJoin e C_Closing)) (h_Closing_steps : HasM e 1 C_Closing "steps" ["self"] (spSteps e C_Closing))
    (h_beyond : Has e 1 "beyond" ["begin", "steps"] spBeyond) : HasM e 2 C_Closing "join_rings" ["self"] (spRings e C_Closing) := by
  refine A_Closing_join_rings.ok sc_Closing_join_rings (fun vs H Q E h => ?_) (fun f cdv Ar outer s H vs Q E hr h => ?_)
  · obtain ⟨_, _, _, _, _, _, _, _, _, _, _, rfl, _⟩ := h
    rfl
  obtain ⟨x, dx, G, T, D, F, ts, g, ch, A, M, rfl, hc, ok, fok, hF5, hpos, EA, RA, hS, q⟩ := h
  have nd := sc_Closing_join_rings.nd
  have hls := sizeLine_eq
  refine ⟨_, pss_cons (ps_st 1 nd (pe_methH0 h_Closing_steps hr c_Closing.cl (pv 0)))
    (pss_cons (ps_st 2 nd pe_dnewK)
    (pss_cons (ps_lock (ps_for PassesOwn.never rfl (pi_keys (pv 1)) (pg_nm 3 nd)
      (pss_one (ps_dputK (hu1 hr) (pv 2) (pv 3) (pe_callH h_beyond hr (pa_cons (pv 3) (pa_cons (pv 1) pa_nil)))))))
    (pss_cons (ps_st 4 nd pe_dnewK)
    (pss_cons (ps_for PassesOwn.never rfl (pi_list (pe_fldE (e := e) (pv 0) rfl)) (pg_nm 5 nd)
      (pss_one (ps_dputK (hu1 hr) (pv 4) (pe_ix (ix_ky (e := e) (hu65 hr)) (pe_fldE (e := e) (pv 0) rfl) (pv 5) (fun _ _ => rfl)) (pe_getK (hu1 hr) (pv 4) (pe_ix (ix_ky (e := e) (hu65 hr)) (pe_fldE (e := e) (pv 0) rfl) (pv 5) (fun _ _ => rfl)) (pv 5)))))
    (pss_one (ps_lock (ps_for PassesOwn.never rfl (pi_keys (pv 1)) (pg_nm 3 nd)
      (pss_one (ps_for PassesOwn.never rfl (pi_list (pe_dget (hu1 hr) (pv 2) (pv 3) (fun _ _ => rfl))) (pg_nm 6 nd)
        (pss_one (ps_if (PW.pt (pw_and (pt_cmpR op_ne (pv 6) (pv 3) (nomark _)) (pw_and1 (pt_cmpR op_in_seq (pv 3) (pe_getK (hu1 hr) (pv 2) (pv 6) (pe_lstA pa_nil)) (by rfl)))))
          (pss_one (ps_expr (pe_methH h_Closing_join hr c_Closing.cl (pv 0) (pa_cons (pe_dget (hu1 hr) (pv 4) (pv 3) (fun _ _ => rfl)) (pa_cons (pe_dget (hu1 hr) (pv 4) (pv 6) (fun _ _ => rfl)) pa_nil)))))
          (pss_nil)))))))))))), ?_⟩
  refine ⟨_, rfl, x, dx, _, rfl, hc.obj, by rfl, x, dx, G, T, D, F, ts, g, ch, rfl, hc, ok, fok, by omega, fun sd kvs H1 hsd S1 hk1 hkL hD1 => ?_⟩
  have hc1 := hc.same S1
  refine fun rdd hrd => ?_
  generalize hH2 : upd H1 rdd (.dK []) = H2
  have S2 : Same H1 H2 := by rw [← hH2]; exact same_new hrd _
  have hr2 : H2 rdd = some (.dK []) := by rw [← hH2]; exact upd_same
  clear hH2
  have hrd0 : H rdd = none := same_none S1 hrd
  have nsr : sd ≠ rdd := ne_of_none hk1 hrd
  -- what is reached from each
  refine ⟨sd, _, S2 _ _ hk1, trivial, fun od => ?_⟩
  generalize hH3 : upd H2 sd (.frz od (.dK kvs)) = H3
  have hk3 : H3 sd = some (.frz od (.dK kvs)) := by rw [← hH3]; exact upd_same
  have S3 : Same H H3 := by rw [← hH3]; exact same_put (S1.trans S2) hsd _
  have hr3 : H3 rdd = some (.dK []) := by rw [← hH3, upd_ne nsr.symm]; exact hr2
  have hD3 : DLs H3 kvs (stepsOf F g) := by
    have h := hD1.same S2
    refine ⟨h.keysI, h.none_, fun b v hb => ?_⟩
    obtain ⟨a, rfl, ha⟩ := h.some_ b v hb
    refine ⟨a, rfl, ?_⟩
    rw [← hH3, upd_ne (ne_of ha (S2 _ _ hk1) (fun z => by cases z))]
    exact ha
  clear hH3
  refine ⟨_, rfl, sd, od, rfl, .inl ⟨kvs, hk3, for_it walk_keys (fun i σ H' => (∃ u1 u2 u3 u4, σ = [some (.ref x), some (.ref sd), some (.ref rdd), u1, u2, u3, u4]) ∧ Same H H' ∧ H' sd = some (.frz od (.dK kvs)) ∧ DLs H' kvs (stepsOf F g) ∧
    ∃ rk, H' rdd = some (.dK rk) ∧ rk.length ≤ i ∧ (∀ b v, valV rk (.inl b) = some v → ∃ a l, v = .ref a ∧ H' a = some (.lst ((l : List Int).map V.int)) ∧ ∀ z, z ∈ l ↔ Reach (stepsOf F g) b z) ∧ (∀ q ∈ kvs.take i, valV rk q.1 ≠ none))
    ⟨⟨_, _, _, _, rfl⟩, S3, hk3, hD3, [], hr3, Nat.le_refl _, (fun b v h => by cases h), fun q hq => by simp at hq⟩ (fun i σ H' _ h => h.2.2.1) ?_ ?_⟩⟩
  · rintro i y σ H' _ hi ⟨⟨u1, u2, u3, u4, rfl⟩, S4, hk4, hD4, rk, hrk, hrl, hrs, hrn⟩ ⟨rfl, k, v, hkv, rfl⟩
    obtain ⟨b, hb, hbm⟩ := hD4.keysI _ (List.mem_of_getElem? hkv)
    have hb : k = .inl b := hb
    subst hb
    have hkl : kvs.length ≤ 1000000 := by omega
    refine ⟨_, rfl, _, rfl, b, sd, kvs, stepsOf F g, F.map fun f => g f.high, rfl, .inr ⟨od, hk4⟩, hD4, (fun y z hz => ?_), mu_ok hF5, fun p l H5 hp S5 hp5 hl => ?_⟩
    · obtain ⟨f, hf, _, _, h2⟩ := steps_in hz
      exact List.mem_map.mpr ⟨f, hf, h2⟩
    refine ⟨_, rfl, _, rfl, rdd, _, rfl, DPut.k (k := .inl b) (S5 _ _ hrk) (by omega), ?_⟩
    have hr5 := S5 _ _ hrk
    have keep : ∀ {a : Addr} {xs : List V}, H5 a = some (.lst xs) → upd H5 rdd (.dK (putK rk (.inl b) (.ref p))) a = some (.lst xs) := fun h => by
      rw [upd_ne (ne_of h hr5 (fun z => by cases z))]
      exact h
    have hD5 := hD4.same S5
    refine ⟨⟨_, _, _, _, rfl⟩, same_put (S4.trans S5) hrd0 _, by rw [upd_ne nsr]; exact S5 _ _ hk4, ⟨hD5.keysI, hD5.none_, fun b' v' h => (by obtain ⟨a, e1, e2⟩ := hD5.some_ b' v' h; exact ⟨a, e1, keep e2⟩)⟩, _, upd_same, Nat.le_trans (length_putK _ _ _) (by omega), fun b' v' h => ?_, fun z hz => ?_⟩
    · rw [valV_put] at h
      by_cases e : (Sum.inl b' : Key) = .inl b
      · rw [if_pos e] at h
        injection h with h
        injection e with e
        subst h e
        exact ⟨p, l, rfl, keep hp5, hl⟩
      · rw [if_neg e] at h
        obtain ⟨a, l', e1, e2, e3⟩ := hrs b' v' h
        exact ⟨a, l', e1, keep (S5 _ _ e2), e3⟩
    · rw [valV_put]
      by_cases e : z.1 = .inl b
      · rw [if_pos e]; simp
      · rw [if_neg e]
        rw [take_snoc hkv] at hz
        rcases List.mem_append.mp hz with h | h
        · exact hrn z h
        · rw [List.mem_singleton.mp h] at e
          exact absurd rfl e
  · rintro σ H4 ⟨⟨u1, u2, u3, u4, rfl⟩, S4, hk4, hD4, rk, hrk, hrl, hrs, hrn⟩
    refine ⟨hk4, ?_⟩
    rw [List.take_length] at hrn
    -- the lock is taken off
    generalize hH5 : upd H4 sd (.dK kvs) = H5
    have S5 : Same H H5 := by rw [← hH5]; exact same_put S4 hsd _
    have hk5 : H5 sd = some (.dK kvs) := by rw [← hH5]; exact upd_same
    have hr5 : H5 rdd = some (.dK rk) := by rw [← hH5, upd_ne nsr.symm]; exact hrk
    have keep5 : ∀ {a : Addr} {xs : List V}, H4 a = some (.lst xs) → H5 a = some (.lst xs) := fun h => by
      rw [← hH5, upd_ne (ne_of h hk4 (fun z => by cases z))]
      exact h
    clear hH5
    have hc5 := hc.same S5
    -- a term for each group
    refine fun fd hfd => ?_
    generalize hH6 : upd H5 fd (.dK []) = H6
    have S6 : Same H5 H6 := by rw [← hH6]; exact same_new hfd _
    have hf6 : H6 fd = some (.dK []) := by rw [← hH6]; exact upd_same
    clear hH6
    have hfd0 : H fd = none := same_none S5 hfd
    have nfs : fd ≠ sd := (ne_of_none hk5 hfd).symm
    have nfr : fd ≠ rdd := (ne_of_none hr5 hfd).symm
    have hc6 := hc5.same S6
    refine ⟨_, rfl, x, C_Closing, dx, _, _, rfl, hc6.obj, c_Closing.cl, c_Closing.terms, by rfl, T, rfl, for_listD hc6.terms (fun i σ H' => (∃ u1 u2 u3, σ = [some (.ref x), some (.ref sd), some (.ref rdd), u1, some (.ref fd), u2, u3]) ∧ But fd H6 H' ∧
      ∃ fk, H' fd = some (.dK fk) ∧ fk.length ≤ i ∧ (∀ b v, valV fk (.inl b) = some v → ∃ t ∈ ts, g t = b ∧ DaAt H' v t.da) ∧ (∀ t ∈ ts.take i, valV fk (.inl (g t)) ≠ none))
      ⟨⟨_, _, _, rfl⟩, But.refl _, [], hf6, Nat.le_refl _, (fun b v h => by cases h), fun t ht => by simp at ht⟩ (fun i σ H' h => ?_) ?_ ?_⟩
    · obtain ⟨_, b2, _⟩ := h
      refine ⟨fun a o im e1 => b2 a o (ne_of e1 hf6 (fun z => by subst z; exact im)) e1, ?_⟩
      obtain ⟨vs, h1, _⟩ := hc6.terms
      rw [b2 _ _ (ne_of h1 hf6 (fun z => by cases z)) h1, h1]
    · rintro i y d' σ H' hi hy ⟨⟨u1, u2, u3, rfl⟩, b2, fk, hfk, hfl, hfs, hfn⟩
      obtain ⟨t, ht, rfl⟩ := map_get hi
      have htm := List.mem_of_getElem? ht
      have hil : i < ts.length := (List.getElem?_eq_some_iff.mp ht).1
      have hln := ok.len
      have SH : Same H H' := But.same b2 (S5.trans S6) hfd0
      have hcx := hc.same SH
      obtain ⟨kg, hkg, hks, hkl2⟩ := id hcx.group
      have k1 := hkl2 _ htm
      have d1 : (Da.tup (.str t.name :: t.parts.map Tm.da)).depth ≤ 8 := by rw [← Tm.da_eq, Tm.da_depth]; have := ok.deep _ htm; omega
      have hy' := hy
      rw [Tm.da_eq] at k1 hy'
      refine ⟨_, rfl, fd, rfl, .inl ⟨fk, Rd.of hfk⟩, _, rfl, x, C_Closing, dx, _, _, rfl, hcx.obj, c_Closing.cl, c_Closing.group, by rfl, _, rfl, D, kg, _, _, rfl, hkg, hy', d1, k1, _, rfl, _, DGet.k (k := .inl (g t)) hfk, ?_⟩
      refine ⟨_, rfl, _, rfl, x, C_Closing, dx, _, _, rfl, hcx.obj, c_Closing.cl, c_Closing.group, by rfl, _, rfl, D, kg, _, _, rfl, hkg, hy', d1, k1, fd, _, rfl, DPut.k (k := .inl (g t)) hfk (by omega), ?_⟩
      have tx : ∀ o, TX H' (upd H' fd o) := fun o => TX.put hfk (fun z => z)
      refine ⟨⟨_, _, _, rfl⟩, b2.trans (But.put _ _), _, upd_same, Nat.le_trans (length_putK _ _ _) (by omega), fun b v h => ?_, fun s hs => ?_⟩
      · rw [valV_put] at h
        by_cases e : (Sum.inl b : Key) = .inl (g t)
        · rw [if_pos e] at h
          injection h with h
          injection e with e
          subst e
          cases hv : valV fk (.inl (g t)) with
          | none =>
            rw [hv] at h
            have h : y = v := h
            subst h
            exact ⟨t, htm, rfl, hy.mono (tx _)⟩
          | some v0 =>
            rw [hv] at h
            have h : v0 = v := h
            subst h
            obtain ⟨t0, m0, e0, h0⟩ := hfs _ _ hv
            exact ⟨t0, m0, e0, h0.mono (tx _)⟩
        · rw [if_neg e] at h
          obtain ⟨t0, m0, e0, h0⟩ := hfs _ _ h
          exact ⟨t0, m0, e0, h0.mono (tx _)⟩
      · rw [valV_put]
        by_cases e : (Sum.inl (g s) : Key) = .inl (g t)
        · rw [if_pos e]; simp
        · rw [if_neg e]
          rw [take_snoc ht] at hs
          rcases List.mem_append.mp hs with h | h
          · exact hfn s h
          · rw [List.mem_singleton.mp h] at e
            exact absurd rfl e
    · rintro σ H7 ⟨⟨u1, u2, u3, rfl⟩, b7, fk, hfk, hfl, hfs, hfn⟩
      rw [List.length_map, List.take_length] at hfn
      have S7 : Same H H7 := But.same b7 (S5.trans S6) hfd0
      have hc7 := hc.same S7
      have hk7 : H7 sd = some (.dK kvs) := b7 _ _ nfs.symm (S6 _ _ hk5)
      have hr7 : H7 rdd = some (.dK rk) := b7 _ _ nfr.symm (S6 _ _ hr5)
      have keep7 : ∀ {a : Addr} {xs : List V}, H5 a = some (.lst xs) → H7 a = some (.lst xs) := fun h => b7 _ _ (ne_of (S6 _ _ h) hf6 (fun z => by cases z)) (S6 _ _ h)
      -- the rings
      refine ⟨sd, _, hk7, trivial, fun od2 => ?_⟩
      generalize hH8 : upd H7 sd (.frz od2 (.dK kvs)) = H8
      have hk8 : H8 sd = some (.frz od2 (.dK kvs)) := by rw [← hH8]; exact upd_same
      have S8 : Same H H8 := by rw [← hH8]; exact same_put S7 hsd _
      have hr8 : H8 rdd = some (.dK rk) := by rw [← hH8, upd_ne nsr.symm]; exact hr7
      have hf8 : H8 fd = some (.dK fk) := by rw [← hH8, upd_ne nfs]; exact hfk
      have keep8 : ∀ {a : Addr} {xs : List V}, H7 a = some (.lst xs) → H8 a = some (.lst xs) := fun h => by
        rw [← hH8, upd_ne (ne_of h hk7 (fun z => by cases z))]
        exact h
      have tx8 : TX H7 H8 := by rw [← hH8]; exact TX.put hk7 (fun z => z)
      clear hH8
      have hc8 := hc.same S8
      refine ⟨_, rfl, sd, od2, rfl, .inl ⟨kvs, hk8, for_it walk_keys (fun i σ H' => (∃ u1 u2 u3, σ = [some (.ref x), some (.ref sd), some (.ref rdd), u1, some (.ref fd), u2, u3]) ∧ But2 x D H8 H' ∧
        ∃ gi ci, ClS e C_Closing H' x dx G T D F ts gi ci ∧ SoundK A ts g gi ∧ (∀ u ∈ ts, 0 ≤ gi u) ∧ sumG ts gi ≤ sumG ts g ∧ (ci = ch ∨ (ci = true ∧ sumG ts gi < sumG ts g)) ∧
          (ci = false → (∀ u ∈ ts, gi u = g u) ∧ ∀ q ∈ kvs.take i, ∀ b, q.1 = Sum.inl b → ∀ z, Reach (stepsOf F g) b z → Reach (stepsOf F g) z b → b = z))
        ⟨⟨_, _, _, rfl⟩, But2.refl _, g, ch, hc8, ⟨hS, fun _ _ h => h⟩, hpos, Nat.le_refl _, .inl rfl, fun _ => ⟨fun _ _ => rfl, fun q hq => by simp at hq⟩⟩ (fun i σ H' _ h => ?_) ?_ ?_⟩⟩
      · obtain ⟨_, b8, _⟩ := h
        exact b8 _ _ (ne_of hk8 hc8.obj (fun z => by cases z)) (by
          obtain ⟨kg, hkg, _⟩ := hc8.group
          exact ne_of hk8 hkg.at_ (fun z => by cases z)) hk8
      · rintro i y σ H' _ hi ⟨⟨u1, u2, u3, rfl⟩, b8, gi, ci, hci, hSi, hpi, hsi, hup, hdone⟩ ⟨rfl, k, v, hkv, rfl⟩
        obtain ⟨b, hb, hbm⟩ := hD4.keysI _ (List.mem_of_getElem? hkv)
        have hb : k = .inl b := hb
        subst hb
        -- what stands beside
        have stay : ∀ {H9 : Hp} {a : Addr} {o : HO}, But2 x D H8 H9 → H8 a = some o → (∀ fs, o ≠ .ins C_Closing dx fs) → (∀ kg, o ≠ kyO e.P e.w D kg) → H9 a = some o := fun b9 h n1 n2 => b9 _ _ (ne_of h hc8.obj (n1 _)) (by
          obtain ⟨kg, hkg, _⟩ := hc8.group
          exact ne_of h hkg.at_ (n2 _)) h
        have hrv : ∃ a l, valV rk (.inl b) = some (.ref a) ∧ H4 a = some (.lst ((l : List Int).map V.int)) ∧ ∀ z, z ∈ l ↔ Reach (stepsOf F g) b z := by
          have h := hrn _ (List.mem_of_getElem? hkv)
          cases hv : valV rk (.inl b) with
          | none => exact absurd hv h
          | some v0 =>
            obtain ⟨a, l, e1, e2, e3⟩ := hrs _ _ hv
            exact ⟨a, l, by rw [e1], e2, e3⟩
        obtain ⟨ra, rl, hrv1, hrv2, hrv3⟩ := hrv
        have hr9 := stay b8 hr8 (fun _ z => by cases z) (fun _ z => by cases z)
        have hl9 := stay b8 (keep8 (keep7 (keep5 hrv2))) (fun _ z => by cases z) (fun _ z => by cases z)
        refine ⟨_, rfl, _, rfl, rdd, _, rfl, (by have := DGet.k (k := .inl b) hr9; rw [hrv1] at this; exact this), ra, rfl, ⟨_, SqL.of hl9⟩, for_list (xs := rl.map V.int) (fun j σ H2 => (∃ u1 u3, σ = [some (.ref x), some (.ref sd), some (.ref rdd), some (.int b), some (.ref fd), u1, u3]) ∧ But2 x D H8 H2 ∧
          ∃ gj cj, ClS e C_Closing H2 x dx G T D F ts gj cj ∧ SoundK A ts g gj ∧ (∀ u ∈ ts, 0 ≤ gj u) ∧ sumG ts gj ≤ sumG ts g ∧ (cj = ch ∨ (cj = true ∧ sumG ts gj < sumG ts g)) ∧
            (cj = false → (∀ u ∈ ts, gj u = g u) ∧ (∀ q ∈ kvs.take i, ∀ b, q.1 = Sum.inl b → ∀ z, Reach (stepsOf F g) b z → Reach (stepsOf F g) z b → b = z) ∧ ∀ z ∈ rl.take j, Reach (stepsOf F g) z b → b = z))
          ⟨⟨_, _, rfl⟩, b8, gi, ci, hci, hSi, hpi, hsi, hup, fun h => ⟨(hdone h).1, (hdone h).2, fun z hz => by simp at hz⟩⟩
          (fun j σ H2 _ h => SqL.of (stay h.2.1 (keep8 (keep7 (keep5 hrv2))) (fun _ z => by cases z) (fun _ z => by cases z))) (fun j y σ H2 hj h => ?_) (fun σ H2 h => ?_)⟩
        · obtain ⟨⟨u1, u3, rfl⟩, b9, gj, cj, hcj, hSj, hpj, hsj, hupj, hdj⟩ := h
          obtain ⟨z, hz, rfl⟩ : ∃ z, rl[j]? = some z ∧ y = .int z := by
            rw [List.getElem?_map] at hj
            cases e1 : rl[j]? with
            | none => rw [e1] at hj; cases hj
            | some z => rw [e1] at hj; exact ⟨z, rfl, (Option.some.inj hj).symm⟩
          have hzr : Reach (stepsOf F g) b z := (hrv3 z).mp (List.mem_of_getElem? hz)
          have tkz : ∀ w, w ∈ rl.take (j + 1) ↔ w ∈ rl.take j ∨ w = z := fun w => by rw [take_snoc hz]; simp
          refine ⟨_, rfl, _, rfl, rfl, _, rfl, ?_⟩
          by_cases hzb : z = b
          · rw [show decide (V.int z = V.int b) = true from decide_eq_true (by rw [hzb])]
            refine ⟨⟨_, _, rfl⟩, b9, gj, cj, hcj, hSj, hpj, hsj, hupj, fun h => ⟨(hdj h).1, (hdj h).2.1, fun w hw hr => ?_⟩⟩
            rcases (tkz w).mp hw with h' | rfl
            · exact (hdj h).2.2 w h' hr
            · exact hzb.symm
          · rw [show decide (V.int z = V.int b) = false from decide_eq_false (fun q => hzb (by injection q))]
            have hrj := stay b9 hr8 (fun _ z => by cases z) (fun _ z => by cases z)
            refine ⟨_, rfl, _, rfl, rdd, rfl, .inl ⟨rk, Rd.of hrj⟩, _, rfl, by simp, fun p0 H3 hp0 S9 w0 => ⟨_, DGet.k (k := .inl z) (S9 _ _ hrj), ?_⟩⟩
            obtain ⟨la, ll, e1, e2, e3⟩ : ∃ la ll, (valV rk (.inl z)).getD (.ref p0) = .ref la ∧ H3 la = some (.lst ((ll : List Int).map V.int)) ∧ (b ∈ ll ↔ Reach (stepsOf F g) z b) := by
              cases hv : valV rk (.inl z) with
              | none =>
                refine ⟨p0, [], rfl, w0, Iff.intro (fun h => absurd h (List.not_mem_nil)) (fun h => ?_)⟩
                have hm := reach_from h
                cases hv2 : valV kvs (.inl z) with
                | none => exact absurd (hD4.none_ z hv2) hm
                | some v2 =>
                  obtain ⟨qv, hq1, hq2⟩ := valV_key hv2
                  have := hrn qv hq1
                  rw [hq2, hv] at this
                  exact absurd rfl this
              | some v2 =>
                obtain ⟨a2, l2, e1, e2, e3⟩ := hrs _ _ hv
                exact ⟨a2, l2, by rw [e1]; rfl, S9 _ _ (stay b9 (keep8 (keep7 (keep5 e2))) (fun _ z => by cases z) (fun _ z => by cases z)), e3 b⟩
            rw [e1]
            obtain ⟨i1, i2⟩ := inV_int b ll
            have hcj3 := hcj.same S9
            have b93 := b9.trans (But2.of S9)
            refine ⟨la, _, rfl, .inl (SqL.of e2), rfl, i2, _, rfl, ?_⟩
            rw [i1]
            by_cases hin : b ∈ ll
            · rw [decide_eq_true hin]
              have hzb2 := e3.mp hin
              obtain ⟨f0, hf0, hm0, hlo, hhi⟩ : ∃ f ∈ F, f.isM = true ∧ g f.low = b ∧ True := by
                obtain ⟨w, hw⟩ := List.exists_mem_of_ne_nil _ hbm
                obtain ⟨f, h1, h2, h3, _⟩ := steps_in hw
                exact ⟨f, h1, h2, h3, trivial⟩
              obtain ⟨tz, hz1, hz2⟩ := reach_end fok hzr
              obtain ⟨v1, hv1⟩ : ∃ v1, valV fk (.inl b) = some v1 := by
                have := hfn _ (low_mem fok hf0).1
                rw [hlo] at this
                exact Option.ne_none_iff_exists'.mp this
              obtain ⟨v2, hv2⟩ : ∃ v2, valV fk (.inl z) = some v2 := by
                have := hfn _ hz1
                rw [hz2] at this
                exact Option.ne_none_iff_exists'.mp this
              obtain ⟨t1, m1, g1, a1⟩ := hfs _ _ hv1
              obtain ⟨t2, m2, g2, a2⟩ := hfs _ _ hv2
              have tx3 : TX H7 H3 := tx8.trans ((hc8.tx b9).trans (TX.of_same S9))
              have hA : A t1 t2 := RA.ring _ m1 _ m2 (reach_sound RA hS fok hzr _ m1 _ m2 g1 g2) (reach_sound RA hS fok hzb2 _ m2 _ m1 g2 g1)
              have hf3 := S9 _ _ (stay b9 hf8 (fun _ z => by cases z) (fun _ z => by cases z))
              have dg1 : DGet H3 fd (.int b) (some v1) := by have := DGet.k (k := .inl b) hf3; rw [hv1] at this; exact this
              have dg2 : DGet H3 fd (.int z) (some v2) := by have := DGet.k (k := .inl z) hf3; rw [hv2] at this; exact this
              refine ⟨_, rfl, x, dx, _, rfl, hcj3.obj, by rfl, _, rfl, _, rfl, fd, _, rfl, dg1, _, rfl, _, rfl, fd, _, rfl, dg2, x, dx, G, T, D, F, ts, gj, cj, v1, v2, t1, t2, rfl, hcj3, ok, a1.mono tx3, a2.mono tx3, m1, m2, fun H4' b4 hc4 => ?_⟩
              refine ⟨⟨_, _, rfl⟩, b93.trans b4, joinG gj t1 t2, _, hc4, ⟨joinG_sound EA m1 m2 hSj.1 hA, joinG_keep hSj.2⟩, joinG_pos m1 m2 hpj, Nat.le_trans (sumG_le fun u _ => joinG_le u) hsj, ?_, fun hcf => ?_⟩
              · have hle : sumG ts (joinG gj t1 t2) ≤ sumG ts gj := sumG_le fun u _ => joinG_le u
                by_cases e0 : gj t1 = gj t2
                · rw [show decide (gj t1 ≠ gj t2) = false from decide_eq_false (fun z => z e0), Bool.or_false]
                  rcases hupj with h | ⟨h, h'⟩
                  · exact .inl h
                  · exact .inr ⟨h, by omega⟩
                · refine .inr ⟨by rw [show decide (gj t1 ≠ gj t2) = true from decide_eq_true e0, Bool.or_true], ?_⟩
                  have := joinG_sum m1 m2 hpj e0
                  omega
              · rw [Bool.or_eq_false_iff] at hcf
                obtain ⟨hc0, hd⟩ := hcf
                have e0 : gj t1 = gj t2 := Decidable.of_not_not (of_decide_eq_false hd)
                obtain ⟨h1, h2, h3⟩ := hdj hc0
                refine absurd ?_ hzb
                rw [h1 _ m1, h1 _ m2, g1, g2] at e0
                exact e0.symm
            · rw [decide_eq_false hin]
              refine ⟨⟨_, _, rfl⟩, b93, gj, cj, hcj3, hSj, hpj, hsj, hupj, fun h => ⟨(hdj h).1, (hdj h).2.1, fun w hw hr => ?_⟩⟩
              rcases (tkz w).mp hw with h' | rfl
              · exact (hdj h).2.2 w h' hr
              · exact absurd (e3.mpr hr) hin
        · obtain ⟨⟨u1, u3, rfl⟩, b9, gj, cj, hcj, hSj, hpj, hsj, hupj, hdj⟩ := h
          rw [List.length_map, List.take_length] at hdj
          refine ⟨⟨_, _, _, rfl⟩, b9, gj, cj, hcj, hSj, hpj, hsj, hupj, fun h => ⟨(hdj h).1, fun qv hq b' hb' z r1 r2 => ?_⟩⟩
          rw [take_snoc hkv] at hq
          rcases List.mem_append.mp hq with h' | h'
          · exact (hdj h).2.1 qv h' b' hb' z r1 r2
          · rw [List.mem_singleton.mp h'] at hb'
            have hb' : (Sum.inl b : Key) = .inl b' := hb'
            injection hb' with hb'
            subst hb'
            exact (hdj h).2.2 z ((hrv3 z).mpr r1) r2
      · rintro σ H9 ⟨⟨u1, u2, u3, rfl⟩, b8, gi, ci, hci, hSi, hpi, hsi, hup, hdone⟩
        have hk9 : H9 sd = some (.frz od2 (.dK kvs)) := b8 _ _ (ne_of hk8 hc8.obj (fun z => by cases z)) (by
          obtain ⟨kg, hkg, _⟩ := hc8.group
          exact ne_of hk8 hkg.at_ (fun z => by cases z)) hk8
        refine ⟨hk9, ?_⟩
        rw [List.take_length] at hdone
        have n1 : sd ≠ x := ne_of hk9 hci.obj (fun z => by cases z)
        have n2 : sd ≠ D := by
          obtain ⟨kg, hkg, _⟩ := hci.group
          exact ne_of hk9 hkg.at_ (fun z => by cases z)
        have n3 : sd ≠ T := by
          obtain ⟨vs, h1, _⟩ := hci.terms
          exact ne_of hk9 h1 (fun z => by cases z)
        have n4 : sd ≠ G := by
          obtain ⟨vs, h1, _⟩ := hci.given
          exact ne_of hk9 h1 (fun z => by cases z)
        have tt : ∀ a xs, H9 a = some (.tup xs) → upd H9 sd (.dK kvs) a = some (.tup xs) := fun a xs h => by
          rw [upd_ne (ne_of h hk9 (fun z => by cases z))]
          exact h
        refine q gi ci _ (fun a o m1 m2 h => ?_) ⟨by rw [upd_ne n1.symm]; exact hci.obj, ?_, hci.group.monoT (upd_ne n2.symm) tt, ?_⟩ ⟨hSi, hpi, hsi, hup, fun hcf => ?_⟩
        · rw [upd_ne (ne_of_none h hsd)]
          exact b8 a o m1 m2 (S8 _ _ h)
        · obtain ⟨vs, h1, h2⟩ := hci.terms
          exact ⟨vs, by rw [upd_ne n3.symm]; exact h1, DasAt.monoT tt _ _ h2⟩
        · obtain ⟨vs, h1, h2⟩ := hci.given
          exact ⟨vs, by rw [upd_ne n4.symm]; exact h1, DasAt.monoT tt _ _ h2⟩
        · obtain ⟨h1, h2⟩ := hdone hcf
          refine ⟨h1, fun b z r1 r2 => ?_⟩
          have hbm := reach_from r1
          cases hv : valV kvs (.inl b) with
          | none => exact absurd (hD4.none_ b hv) hbm
          | some v0 =>
            obtain ⟨qv, hq1, hq2⟩ := valV_key hv
            exact h2 qv hq1 b hq2 z r1 r2
end

/-! ### the terms of facts -/
theorem dd_nodup {α : Type} [DecidableEq α] : ∀ (xs acc : List α), acc.Nodup → (dd acc xs).Nodup
  | [], acc, h => h
  | x :: r, acc, h => by
    show (dd _ r).Nodup
    refine dd_nodup r _ ?_
    split
    · exact h
    · rename_i n
      exact List.nodup_append.mpr ⟨h, by simp, fun a ha b hb e => by
        rw [List.mem_singleton] at hb
        subst hb e
        exact n ha⟩
theorem Tm.self_subs (t : Tm) : t ∈ t.subs := by
  cases t with | mk n ps => simp [Tm.subs]
theorem Tm.subss_mem : ∀ (l acc : List Tm) (x : Tm), x ∈ Tm.subss acc l ↔ x ∈ acc ∨ ∃ q ∈ l, x ∈ q.subs
  | [], acc, x => by simp [Tm.subss]
  | p :: r, acc, x => by
    simp only [Tm.subss]
    rw [Tm.subss_mem r, dd_mem]
    simp [or_assoc]
theorem Tm.subs_parts : ∀ (n : Nat) (u t p : Tm), u.depth ≤ n → t ∈ u.subs → p ∈ t.parts → p ∈ u.subs
  | 0, u, t, p, h, _, _ => by have := u.depth_pos; omega
  | n + 1, .mk nm ps, t, p, h, ht, hp => by
    simp only [Tm.subs, List.mem_append, List.mem_singleton] at ht ⊢
    rcases ht with ht | rfl
    · obtain h1 | ⟨q, hq, h1⟩ := (Tm.subss_mem _ _ _).mp ht
      · cases h1
      · refine .inl ((Tm.subss_mem _ _ _).mpr (.inr ⟨q, hq, Tm.subs_parts n q t p ?_ h1 hp⟩))
        have : q.depth < (Tm.mk nm ps).depth := Tm.parts_depth hq
        omega
    · exact .inl ((Tm.subss_mem _ _ _).mpr (.inr ⟨p, hp, p.self_subs⟩))
theorem Tm.subs_short : ∀ (n : Nat) (u t : Tm), u.depth ≤ n → u.short → t ∈ u.subs → t.short
  | 0, u, t, h, _, _ => by have := u.depth_pos; omega
  | n + 1, .mk nm ps, t, h, hs, ht => by
    simp only [Tm.subs, List.mem_append, List.mem_singleton] at ht
    rcases ht with ht | rfl
    · obtain h1 | ⟨q, hq, h1⟩ := (Tm.subss_mem _ _ _).mp ht
      · cases h1
      · refine Tm.subs_short n q t ?_ (Tm.short_part hs hq) h1
        have : q.depth < (Tm.mk nm ps).depth := Tm.parts_depth hq
        omega
    · exact hs
/-- all terms of the facts, each once -/
def termsF (F : List Fc) : List Tm := F.foldl (fun acc f => dd acc (f.l.subs ++ f.r.subs)) []
theorem termsF_snoc (F : List Fc) (f : Fc) : termsF (F ++ [f]) = dd (termsF F) (f.l.subs ++ f.r.subs) := by unfold termsF; rw [List.foldl_append]; rfl
theorem termsF_take {F : List Fc} {i : Nat} {f : Fc} (h : F[i]? = some f) : termsF (F.take (i + 1)) = dd (termsF (F.take i)) (f.l.subs ++ f.r.subs) := by rw [take_snoc h, termsF_snoc]
/-- facts over which all is well -/
structure Fc.lit (f : Fc) : Prop where
  good : f.good
  dl : f.l.depth ≤ 7
  dr : f.r.depth ≤ 7
  cl : f.l.count ≤ 100
  cr : f.r.count ≤ 100
theorem foldF {P : List Tm → Prop} (F : List Fc) : ∀ acc, P acc → (∀ acc f, f ∈ F → P acc → P (dd acc (f.l.subs ++ f.r.subs))) → P (F.foldl (fun acc f => dd acc (f.l.subs ++ f.r.subs)) acc) := by
  induction F with
  | nil => intro acc h _; exact h
  | cons f r ih => intro acc h k; exact ih _ (k _ f (by simp) h) fun acc f hf => k acc f (by simp [hf])
theorem termsF_nodup (F : List Fc) : (termsF F).Nodup := foldF (P := fun l => l.Nodup) F [] (by simp) fun acc f _ h => dd_nodup _ _ h
theorem termsF_mem' (F : List Fc) : ∀ acc x, x ∈ F.foldl (fun acc f => dd acc (f.l.subs ++ f.r.subs)) acc ↔ x ∈ acc ∨ ∃ f ∈ F, x ∈ f.l.subs ∨ x ∈ f.r.subs := by
  induction F with
  | nil => intro acc x; simp
  | cons f r ih =>
    intro acc x
    rw [List.foldl_cons, ih, dd_mem]
    simp [or_assoc]
theorem termsF_mem {F : List Fc} {x : Tm} : x ∈ termsF F ↔ ∃ f ∈ F, x ∈ f.l.subs ∨ x ∈ f.r.subs := by
  unfold termsF
  rw [termsF_mem']
  simp
theorem termsF_len : ∀ (F : List Fc) (n : Nat), (∀ f ∈ F, f.l.count ≤ n ∧ f.r.count ≤ n) → (termsF F).length ≤ F.length * (2 * n) := by
  intro F n h
  have : ∀ (F : List Fc) acc, (∀ f ∈ F, f.l.count ≤ n ∧ f.r.count ≤ n) → (F.foldl (fun acc f => dd acc (f.l.subs ++ f.r.subs)) acc).length ≤ acc.length + F.length * (2 * n) := by
    intro F
    induction F with
    | nil => intro acc _; simp
    | cons f r ih =>
      intro acc h
      have h1 := ih (dd acc (f.l.subs ++ f.r.subs)) fun f hf => h f (by simp [hf])
      have h2 := dd_len (f.l.subs ++ f.r.subs) acc
      have h3 := f.l.subs_len
      have h4 := f.r.subs_len
      have h5 := h f (by simp)
      rw [List.length_append] at h2
      rw [List.foldl_cons, List.length_cons, Nat.succ_mul]
      omega
  have := this F [] h
  simpa [termsF] using this
theorem termsF_ok {F : List Fc} (h : ∀ f ∈ F, f.lit) (hl : F.length ≤ 500) : TsOk (termsF F) := by
  refine ⟨termsF_nodup F, ?_, fun t ht => ?_, fun t ht => ?_, fun t ht p hp => ?_⟩
  · have := termsF_len F 100 fun f hf => ⟨(h f hf).cl, (h f hf).cr⟩
    omega
  · obtain ⟨f, hf, h1⟩ := termsF_mem.mp ht
    have := h f hf
    rcases h1 with h1 | h1
    · exact Nat.le_trans (Tm.subs_depth _ _ h1) this.dl
    · exact Nat.le_trans (Tm.subs_depth _ _ h1) this.dr
  · obtain ⟨f, hf, h1⟩ := termsF_mem.mp ht
    have := h f hf
    rcases h1 with h1 | h1
    · exact Tm.subs_short 50 _ _ (Nat.le_trans this.dl (by decide)) (Tm.good_short this.good.1) h1
    · exact Tm.subs_short 50 _ _ (Nat.le_trans this.dr (by decide)) (Tm.good_short this.good.2) h1
  · obtain ⟨f, hf, h1⟩ := termsF_mem.mp ht
    refine termsF_mem.mpr ⟨f, hf, ?_⟩
    rcases h1 with h1 | h1
    · exact .inl (Tm.subs_parts _ _ _ _ (Nat.le_refl _) h1 hp)
    · exact .inr (Tm.subs_parts _ _ _ _ (Nat.le_refl _) h1 hp)
theorem termsF_fs (F : List Fc) : FsOk F (termsF F) := fun f hf => ⟨termsF_mem.mpr ⟨f, hf, .inl f.l.self_subs⟩, termsF_mem.mpr ⟨f, hf, .inr f.r.self_subs⟩⟩
/-! ### what follows from facts -/
structure RelC (F : List Fc) (ts : List Tm) (A M : Tm → Tm → Prop) : Prop where
  told : ∀ f ∈ F, f.w = .alike → A f.l f.r
  eqv : EqvOn A ts
  parts : PartsA A ts
  ring : RingRel A M ts F
/-- what the facts make alike -/
def Alike (F : List Fc) (s t : Tm) : Prop := ∀ A M, RelC F (termsF F) A M → A s t
def Most (F : List Fc) (s t : Tm) : Prop := ∀ A M, RelC F (termsF F) A M → M s t
theorem Alike.rel (F : List Fc) : RelC F (termsF F) (Alike F) (Most F) where
  told := fun f hf e A M R => R.told f hf e
  eqv := ⟨fun u hu A M R => R.eqv.refl u hu, fun u hu v hv h A M R => R.eqv.symm u hu v hv (h A M R), fun u hu v hv w hw h h' A M R => R.eqv.trans u hu v hv w hw (h A M R) (h' A M R)⟩
  parts := fun s hs t ht h1 h2 h3 A M R => R.parts s hs t ht h1 h2 fun i p q e1 e2 => h3 i p q e1 e2 A M R
  ring := ⟨fun f hf e A M R => R.ring.told f hf e, fun u hu v hv h A M R => R.ring.of_ u hu v hv (h A M R), fun u hu v hv w hw h h' A M R => R.ring.trans u hu v hv w hw (h A M R) (h' A M R),
    fun u hu v hv h h' A M R => R.ring.ring u hu v hv (h A M R) (h' A M R)⟩
/-- groups that are closed -/
structure ClG (F : List Fc) (g : Tm → Int) : Prop where
  told : ∀ f ∈ F, f.w = .alike → g f.l = g f.r
  like : LikeCl (termsF F) g
  ring : RingCl F g
theorem reach_trans {m : Int → List Int} {a b c : Int} (h1 : Reach m a b) (h2 : Reach m b c) : Reach m a c := by
  induction h2 with
  | one h => exact .step h1 h
  | step _ h ih => exact .step ih h
theorem ClG.rel {F : List Fc} {g : Tm → Int} (h : ClG F g) : RelC F (termsF F) (fun s t => g s = g t) (fun s t => g s = g t ∨ Reach (stepsOf F g) (g s) (g t)) where
  told := h.told
  eqv := ⟨fun _ _ => rfl, fun _ _ _ _ e => e.symm, fun _ _ _ _ _ _ e e' => e.trans e'⟩
  parts := fun s hs t ht h1 h2 h3 => h.like s hs t ht h1 (by
    refine List.ext_getElem? fun i => ?_
    rw [List.getElem?_map, List.getElem?_map]
    cases e1 : s.parts[i]? with
    | none =>
      have : t.parts[i]? = none := by rw [List.getElem?_eq_none_iff] at e1 ⊢; omega
      rw [this]
    | some p =>
      cases e2 : t.parts[i]? with
      | none => rw [List.getElem?_eq_none_iff] at e2; have := (List.getElem?_eq_some_iff.mp e1).1; omega
      | some q => show some (g p) = some (g q); rw [h3 i p q e1 e2])
  ring := ⟨fun f hf hm => .inr (.one (by
      unfold stepsOf
      exact List.mem_map.mpr ⟨f, List.mem_filter.mpr ⟨hf, by rw [hm, decide_eq_true rfl]; rfl⟩, rfl⟩)),
    fun _ _ _ _ e => .inl e,
    fun u _ v _ w _ h1 h2 => by
      rcases h1 with h1 | h1
      · rw [h1]; exact h2
      · rcases h2 with h2 | h2
        · rw [← h2]; exact .inr h1
        · exact .inr (reach_trans h1 h2),
    fun u _ v _ h1 h2 => by
      rcases h1 with h1 | h1
      · exact h1
      · rcases h2 with h2 | h2
        · exact h2.symm
        · exact h.ring _ _ h1 h2⟩
/-- sound and closed: just what follows -/
theorem ClG.alike {F : List Fc} {g : Tm → Int} (h : ClG F g) (S : SoundG (Alike F) (termsF F) g) {s t : Tm} (hs : s ∈ termsF F) (ht : t ∈ termsF F) : g s = g t ↔ Alike F s t := ⟨fun e => S s hs t ht e, fun a => a _ _ h.rel⟩

abbrev s_Closing___init__ : Stmt := inClass (top 23) 0
theorem sc_Closing___init__ : FnScope ["self", "facts", "fact", "term"] ["self", "facts"] (defScope s_Closing___init__) := ⟨rfl, rfl, rfl, by decide +kernel, rfl, by decide +kernel, by decide +kernel⟩
abbrev s_stand : Stmt := top 25
theorem sc_stand : FnScope ["facts"] ["facts"] (defScope s_stand) := ⟨rfl, rfl, rfl, by decide +kernel, rfl, by decide +kernel, by decide +kernel⟩
def chF : Option Bool → List (Str × V)
  | none => []
  | some b => [("changed", .bl b)]
/-- a closing under way: it may not say yet if it is changed -/
structure ClO (e : Ev) (C : Addr) (H : Hp) (x dx G T D : Addr) (F : List Fc) (ts : List Tm) (g : Tm → Int) (ch : Option Bool) : Prop where
  obj : H x = some (.ins C dx (("given", .ref G) :: ("terms", .ref T) :: ("group", .ref D) :: chF ch))
  terms : LD H T (ts.map Tm.da)
  group : GrpAt e.P e.w H D ts g
  given : LD H G (F.map Fc.da)
theorem ClO.tx {e : Ev} {C : Addr} {H H' : Hp} {x dx G T D : Addr} {F : List Fc} {ts : List Tm} {g : Tm → Int} {ch : Option Bool} (h : ClO e C H x dx G T D F ts g ch) (b : But2 x D H H') : TX H H' := b.tx h.obj h.group
theorem ClO.xD {e : Ev} {C : Addr} {H : Hp} {x dx G T D : Addr} {F : List Fc} {ts : List Tm} {g : Tm → Int} {ch : Option Bool} (h : ClO e C H x dx G T D F ts g ch) : x ≠ D := by
  obtain ⟨kvs, hk, _⟩ := h.group
  exact ne_of h.obj hk.at_ (fun z => by cases z)
theorem ClO.same {e : Ev} {C : Addr} {H H' : Hp} {x dx G T D : Addr} {F : List Fc} {ts : List Tm} {g : Tm → Int} {ch : Option Bool} (h : ClO e C H x dx G T D F ts g ch) (s : Same H H') : ClO e C H' x dx G T D F ts g ch :=
  ⟨s _ _ h.obj, h.terms.mono s, h.group.same s, h.given.mono s⟩
theorem ClO.move {e : Ev} {C : Addr} {H H' : Hp} {x dx G T D : Addr} {F : List Fc} {ts : List Tm} {g g' : Tm → Int} {ch ch' : Option Bool} (h : ClO e C H x dx G T D F ts g ch) (b : But2 x D H H')
    (ho : H' x = some (.ins C dx (("given", .ref G) :: ("terms", .ref T) :: ("group", .ref D) :: chF ch'))) (hg : GrpAt e.P e.w H' D ts g') : ClO e C H' x dx G T D F ts g' ch' :=
  ⟨ho, (h.terms.but2 b h.obj h.group).1, hg, (h.given.but2 b h.obj h.group).1⟩
theorem ClO.congr {e : Ev} {C : Addr} {H : Hp} {x dx G T D : Addr} {F : List Fc} {ts : List Tm} {g g' : Tm → Int} {ch : Option Bool} (h : ClO e C H x dx G T D F ts g ch) (q : ∀ t ∈ ts, g' t = g t) : ClO e C H x dx G T D F ts g' ch :=
  ⟨h.obj, h.terms, h.group.congr q, h.given⟩
theorem ClO.ok {e : Ev} {C : Addr} {H : Hp} {x dx G T D : Addr} {F : List Fc} {ts : List Tm} {g : Tm → Int} {ch : Bool} (h : ClO e C H x dx G T D F ts g (some ch)) : ClS e C H x dx G T D F ts g ch := ⟨h.obj, h.terms, h.group, h.given⟩
def spJoin0 (e : Ev) (C : Addr) : Sp := fun vs H Q _ => ∃ (x dx G T D : Addr) (F : List Fc) (ts : List Tm) (g : Tm → Int) (ch : Option Bool) (v1 v2 : V) (s t : Tm), vs = [.ref x, v1, v2] ∧ ClO e C H x dx G T D F ts g ch ∧ TsOk ts ∧ DaAt H v1 s.da ∧ DaAt H v2 t.da ∧ s ∈ ts ∧ t ∈ ts ∧
  ∀ H', But2 x D H H' → ClO e C H' x dx G T D F ts (joinG g s t) (if g s ≠ g t then some true else ch) → Q .non H'
section
variable {e : Ev} (B : Bl e)
include B
theorem ok_join0 (A_Closing_join : AtM e C_Closing "join" "Closing.join" ["self", "one", "other"] s_Closing_join) (c_Closing : ClC e C_Closing) : HasM e 1 C_Closing "join" ["self", "one", "other"] (spJoin0 e C_Closing) := by
  refine A_Closing_join.ok sc_Closing_join (fun vs H Q E h => ?_) (fun f cdv A outer s H vs Q E hr h => ?_)
  · obtain ⟨_, _, _, _, _, _, _, _, _, _, _, _, _, rfl, _⟩ := h
    rfl
  obtain ⟨x, dx, G, T, D, F, ts, g, ch, v1, v2, s1, t1, rfl, hc, ok, h1, h2, m1, m2, q⟩ := h
  have nd := sc_Closing_join.nd
  have hls := sizeLine_eq
  refine ⟨_, pss_cons (ps_st 3 nd (pe_b (call_min2 rfl) B.min (pa_cons (pe_ix (ix_ky (e := e) (hu65 hr)) (pe_fldE (e := e) (pv 0) rfl) (pv 1) (fun _ _ => rfl)) (pa_cons (pe_ix (ix_ky (e := e) (hu65 hr)) (pe_fldE (e := e) (pv 0) rfl) (pv 2) (fun _ _ => rfl)) pa_nil))))
    (pss_cons (ps_st 4 nd (pe_b (call_max2 rfl) B.max (pa_cons (pe_ix (ix_ky (e := e) (hu65 hr)) (pe_fldE (e := e) (pv 0) rfl) (pv 1) (fun _ _ => rfl)) (pa_cons (pe_ix (ix_ky (e := e) (hu65 hr)) (pe_fldE (e := e) (pv 0) rfl) (pv 2) (fun _ _ => rfl)) pa_nil))))
    (pss_cons (ps_if (pt_cmpR op_eq (pv 3) (pv 4) (nomark _))
      (pss_one (ps_retN))
      (pss_nil))
    (pss_cons (ps_fld (pv 0) pe_bl rfl)
    (pss_one (ps_for PassesOwn.never rfl (pi_list (pe_fldE (e := e) (pv 0) rfl)) (pg_nm 5 nd)
      (pss_one (ps_if (pt_cmpR op_eq (pe_ix (ix_ky (e := e) (hu65 hr)) (pe_fldE (e := e) (pv 0) rfl) (pv 5) (fun _ _ => rfl)) (pv 4) (nomark _))
        (pss_one (ps_kyput (e := e) (hu65 hr) (pe_fldE (e := e) (pv 0) rfl) (pv 5) (pv 3)))
        (pss_nil)))))))), ?_⟩
  obtain ⟨kvs, hk, hks, hkl⟩ := id hc.group
  have d1 : (Da.tup (.str s1.name :: s1.parts.map Tm.da)).depth ≤ 8 := by rw [← Tm.da_eq, Tm.da_depth]; have := ok.deep _ m1; omega
  have d2 : (Da.tup (.str t1.name :: t1.parts.map Tm.da)).depth ≤ 8 := by rw [← Tm.da_eq, Tm.da_depth]; have := ok.deep _ m2; omega
  have h1' := h1
  have h2' := h2
  rw [Tm.da_eq] at h1' h2'
  have k1 := hkl _ m1
  have k2 := hkl _ m2
  rw [Tm.da_eq] at k1 k2
  have o := hc.obj
  -- the lower
  refine ⟨_, rfl, x, C_Closing, dx, _, _, rfl, o, c_Closing.cl, c_Closing.group, by rfl, _, rfl, D, kvs, _, _, rfl, hk, h1', d1, k1, ?_⟩
  refine ⟨_, rfl, x, C_Closing, dx, _, _, rfl, o, c_Closing.cl, c_Closing.group, by rfl, _, rfl, D, kvs, _, _, rfl, hk, h2', d2, k2, _, _, rfl, ?_⟩
  -- the higher
  refine ⟨_, rfl, x, C_Closing, dx, _, _, rfl, o, c_Closing.cl, c_Closing.group, by rfl, _, rfl, D, kvs, _, _, rfl, hk, h1', d1, k1, ?_⟩
  refine ⟨_, rfl, x, C_Closing, dx, _, _, rfl, o, c_Closing.cl, c_Closing.group, by rfl, _, rfl, D, kvs, _, _, rfl, hk, h2', d2, k2, _, _, rfl, ?_⟩
  refine ⟨_, rfl, _, rfl, rfl, _, rfl, ?_⟩
  show (if decide (V.int (loG g s1 t1) = V.int (hiG g s1 t1)) = true then _ else _)
  have hi := hiG_is g s1 t1
  have lo := loG_is g s1 t1
  refine ite2 (fun c => ?_) (fun c => ?_)
  · have c' : loG g s1 t1 = hiG g s1 t1 := by
      have := of_decide_eq_true c
      injection this
    have e1 : g s1 = g t1 := by omega
    refine q _ (But2.refl _) ?_
    rw [if_neg (show ¬ (g s1 ≠ g t1) from fun z => z e1)]
    exact hc.congr fun u _ => joinG_eq e1 u
  have c' : ¬ loG g s1 t1 = hiG g s1 t1 := fun z => c (decide_eq_true (by rw [z]))
  have e1 : g s1 ≠ g t1 := fun z => c' (by omega)
  rw [if_pos e1] at q
  refine ⟨_, rfl, x, C_Closing, dx, _, rfl, o, c_Closing.cl, c_Closing.changed, (by cases ch <;> simp [chF]), ?_⟩
  generalize hH : upd H x (.ins C_Closing dx (putF "changed" (.bl true) (("given", .ref G) :: ("terms", .ref T) :: ("group", .ref D) :: chF ch))) = H1
  have o1 : H1 x = some (.ins C_Closing dx [("given", .ref G), ("terms", .ref T), ("group", .ref D), ("changed", .bl true)]) := by rw [← hH, upd_same]; cases ch <;> rfl
  have b1 : But2 x D H H1 := by rw [← hH]; exact But2.putx _ _
  have hxD := hc.xD
  have eD : H1 D = H D := by rw [← hH, upd_ne hxD.symm]
  clear hH
  have hc1 := hc.move (ch' := some true) b1 o1 (hc.group.mono eD (hc.tx b1))
  refine ⟨_, rfl, x, C_Closing, dx, _, _, rfl, o1, c_Closing.cl, c_Closing.terms, by rfl, T, rfl, for_listD hc1.terms (fun i σ H' => (∃ u, σ = [some (.ref x), some v1, some v2, some (.int (loG g s1 t1)), some (.int (hiG g s1 t1)), u]) ∧ But2 x D H1 H' ∧
    ClO e C_Closing H' x dx G T D F ts (fun u => if u ∈ ts.take i ∧ g u = hiG g s1 t1 then loG g s1 t1 else g u) (some true)) ⟨⟨_, rfl⟩, But2.refl _, hc1.congr fun u _ => if_neg (fun z => by simpa using z.1)⟩
    (fun i σ H' h => ⟨hc1.tx h.2.1, (hc1.terms.but2 h.2.1 hc1.obj hc1.group).2⟩) ?_ ?_⟩
  · rintro i y d' σ H' hi hy ⟨⟨u, rfl⟩, b2, hc2⟩
    obtain ⟨t, ht, rfl⟩ := map_get hi
    have htm := List.mem_of_getElem? ht
    have hnt : ¬ t ∈ ts.take i := take_nd ok.nd ht
    obtain ⟨kvs2, hk2, hks2, hkl2⟩ := id hc2.group
    have hy' := hy
    rw [Tm.da_eq] at hy'
    have k3 : kyLook kvs2 t.da = some (V.int (if t ∈ ts.take i ∧ g t = hiG g s1 t1 then loG g s1 t1 else g t)) := hkl2 _ htm
    rw [if_neg (fun z => hnt z.1), Tm.da_eq] at k3
    have d3 : (Da.tup (.str t.name :: t.parts.map Tm.da)).depth ≤ 8 := by rw [← Tm.da_eq, Tm.da_depth]; have := ok.deep _ htm; omega
    have o2 := hc2.obj
    refine ⟨_, rfl, x, C_Closing, dx, _, _, rfl, o2, c_Closing.cl, c_Closing.group, by rfl, _, rfl, D, kvs2, _, _, rfl, hk2, hy', d3, k3, _, rfl, rfl, _, rfl, ?_⟩
    refine ite2 (fun c => ?_) (fun c => ?_)
    · have e2 : g t = hiG g s1 t1 := by
        have := of_decide_eq_true c
        injection this
      refine ⟨_, rfl, _, rfl, x, C_Closing, dx, _, _, rfl, o2, c_Closing.cl, c_Closing.group, by rfl, _, rfl, D, kvs2, _, rfl, hk2, hy', d3, ?_, fun a ea hkp => ?_⟩
      · have := congrArg List.length hks2
        rw [List.length_map, List.length_map] at this
        have := ok.len
        omega
      · have b3 : But2 x D H' (upd H' D (kyO e.P e.w D (kyPut kvs2 (.tup (.str t.name :: t.parts.map Tm.da)) a (.int (loG g s1 t1))))) := But2.putD _ _
        refine ⟨⟨_, rfl⟩, b2.trans b3, ?_⟩
        rw [← Tm.da_eq] at hkp b3 ⊢
        refine ClO.congr (hc2.move b3 (by rw [upd_ne hxD]; exact o2) (GrpAt.put kvs2 hks2 hkl2 htm hkp)) fun u hu => ?_
        show (if u ∈ ts.take (i + 1) ∧ g u = hiG g s1 t1 then loG g s1 t1 else g u) = (if u = t then loG g s1 t1 else if u ∈ ts.take i ∧ g u = hiG g s1 t1 then loG g s1 t1 else g u)
        by_cases eu : u = t
        · subst eu
          rw [if_pos rfl, if_pos ⟨by rw [take_snoc ht]; simp, e2⟩]
        · rw [if_neg eu]
          have : u ∈ ts.take (i + 1) ↔ u ∈ ts.take i := by rw [take_snoc ht]; simp [eu]
          simp only [this]
    · have e2 : ¬ g t = hiG g s1 t1 := fun z => c (decide_eq_true (by rw [z]))
      refine ⟨⟨_, rfl⟩, b2, hc2.congr fun u hu => ?_⟩
      by_cases eu : u = t
      · subst eu
        rw [if_neg (fun z => e2 z.2), if_neg (fun z => e2 z.2)]
      · have : u ∈ ts.take (i + 1) ↔ u ∈ ts.take i := by rw [take_snoc ht]; simp [eu]
        simp only [this]
  · rintro σ H' ⟨⟨u, rfl⟩, b2, hc2⟩
    refine q _ (b1.trans b2) (hc2.congr fun u hu => ?_)
    rw [List.length_map, List.take_length]
    show joinG g s1 t1 u = _
    unfold joinG
    by_cases eu : g u = hiG g s1 t1
    · rw [if_pos eu, if_pos ⟨hu, eu⟩]
    · rw [if_neg eu, if_neg (fun z => eu z.2)]
end

theorem joinG_both (g : Tm → Int) (s t : Tm) : joinG g s t s = joinG g s t t := by
  have hi := hiG_is g s t
  have lo := loG_is g s t
  by_cases e1 : g s = hiG g s t <;> by_cases e2 : g t = hiG g s t
  · rw [joinG_hi e1, joinG_hi e2]
  · rw [joinG_hi e1, joinG_no e2]; omega
  · rw [joinG_no e1, joinG_hi e2]; omega
  · omega
theorem stepsOf_congr {F : List Fc} {ts : List Tm} {g g' : Tm → Int} (fok : FsOk F ts) (h : ∀ u ∈ ts, g' u = g u) : stepsOf F g' = stepsOf F g := by
  funext b
  unfold stepsOf
  have e1 : (F.filter fun f => f.isM && decide (g' f.low = b)) = F.filter fun f => f.isM && decide (g f.low = b) := List.filter_congr fun f hf => by rw [h _ (low_mem fok hf).1]
  rw [e1]
  exact List.map_congr_left fun f hf => h _ (low_mem fok (List.mem_filter.mp hf).1).2
theorem RingCl.congr {F : List Fc} {ts : List Tm} {g g' : Tm → Int} (fok : FsOk F ts) (h : ∀ u ∈ ts, g' u = g u) (r : RingCl F g') : RingCl F g := by
  unfold RingCl at r ⊢
  rw [stepsOf_congr fok h] at r
  exact r
theorem ClG.congr {F : List Fc} {g g' : Tm → Int} (fok : FsOk F (termsF F)) (ok : TsOk (termsF F)) (c : ClG F g) (h : ∀ u ∈ termsF F, g' u = g u) : ClG F g' where
  told := fun f hf e => by rw [h _ (fok f hf).1, h _ (fok f hf).2]; exact c.told f hf e
  like := fun s hs t ht e1 e2 => by
    rw [h _ hs, h _ ht]
    refine c.like s hs t ht e1 ?_
    rw [List.map_congr_left (g := g) fun p hp => h p (ok.parts s hs p hp), List.map_congr_left (l := t.parts) (g := g) fun p hp => h p (ok.parts t ht p hp)] at e2
    exact e2
  ring := RingCl.congr fok (fun u hu => (h u hu).symm) c.ring
def spClInit (e : Ev) (C : Addr) : Sp := fun vs H Q _ => ∃ (x dx G : Addr) (F : List Fc), vs = [.ref x, .ref G] ∧ H x = some (.ins C dx []) ∧ LD H G (F.map Fc.da) ∧ (∀ f ∈ F, f.lit) ∧ F.length ≤ 500 ∧
  ∀ H' T D g, But x H H' → ClS e C H' x dx G T D F (termsF F) g false → (∀ u ∈ termsF F, 0 ≤ g u) → ClG F g → SoundG (Alike F) (termsF F) g → Q .non H'
section
variable {e : Ev} (B : Bl e)
include B
theorem ok_clinit (A_Closing___init__ : AtI e C_Closing "Closing.__init__" ["self", "facts"] s_Closing___init__) (c_Closing : ClC e C_Closing) (h_parts_of : Has e 8 "parts_of" ["term"] (spParts 8)) (h_Closing_join : HasM e 1 C_Closing "join" ["self", "one", "other"] (spJoin0 e C_Closing))
    (h_Closing_join_like_parts : HasM e 2 C_Closing "join_like_parts" ["self"] (spLike e C_Closing)) (h_Closing_join_rings : HasM e 2 C_Closing "join_rings" ["self"] (spRings e C_Closing)) :
    HasI e 9 C_Closing ["self", "facts"] (spClInit e C_Closing) := by
  refine A_Closing___init__.ok (k := 8) sc_Closing___init__ (fun vs H Q E h => ?_) (fun f cdv A outer s H vs Q E hr h => ?_)
  · obtain ⟨x, dx, G, F, rfl, _⟩ := h
    rfl
  obtain ⟨x, dx, G, F, rfl, h0, hG, lit, hF5, q⟩ := h
  have nd := sc_Closing___init__.nd
  have hls := sizeLine_eq
  refine ⟨_, pss_cons (ps_fld (pv 0) (pv 1) rfl)
    (pss_cons (ps_fld (pv 0) (pe_lstA pa_nil) rfl)
    (pss_cons (ps_for PassesOwn.never rfl (pi_list (pv 1)) (pg_nm 2 nd)
      (pss_one (ps_for PassesOwn.never rfl (pi_list (pe_op op_catLD (pe_callH h_parts_of hr (pa_cons (pe_ix ix_tupD (pv 2) pe_int (fun _ _ => rfl)) pa_nil)) (pe_callH h_parts_of hr (pa_cons (pe_ix ix_tupD (pv 2) pe_int (fun _ _ => rfl)) pa_nil)))) (pg_nm 3 nd)
        (pss_one (ps_if (pt_cmpR (op_notInDa (hu65 hr)) (pv 3) (pe_fldE (e := e) (pv 0) rfl) (by rfl))
          (pss_one (ps_expr (pe_app (pe_fldE (e := e) (pv 0) rfl) (pa_cons (pv 3) pa_nil))))
          (pss_nil))))))
    (pss_cons (ps_fld (pv 0) ((pe_kynew (e := e))) rfl)
    (pss_cons (ps_for PassesOwn.never rfl (pi_list (pe_fldE (e := e) (pv 0) rfl)) (pg_nm 3 nd)
      (pss_one (ps_kyput (e := e) (hu65 hr) (pe_fldE (e := e) (pv 0) rfl) (pv 3) (pe_b (call_lenKy (e := e)) B.len (pa_cons (pe_fldE (e := e) (pv 0) rfl) pa_nil)))))
    (pss_cons (ps_for PassesOwn.never rfl (pi_list (pv 1)) (pg_nm 2 nd)
      (pss_one (ps_if (pt_cmpR op_eq (pe_ix ix_tupD (pv 2) pe_int (fun _ _ => rfl)) pe_str (nomark _))
        (pss_one (ps_expr (pe_methH h_Closing_join hr c_Closing.cl (pv 0) (pa_cons (pe_ix ix_tupD (pv 2) pe_int (fun _ _ => rfl)) (pa_cons (pe_ix ix_tupD (pv 2) pe_int (fun _ _ => rfl)) pa_nil)))))
        (pss_nil))))
    (pss_cons (ps_fld (pv 0) pe_bl rfl)
    (pss_one (ps_while PassesOwn.never (pt_val (pe_fldE (e := e) (pv 0) rfl))
      (pss_cons (ps_fld (pv 0) pe_bl rfl)
      (pss_cons (ps_expr (pe_methH0 h_Closing_join_like_parts hr c_Closing.cl (pv 0)))
      (pss_one (ps_expr (pe_methH0 h_Closing_join_rings hr c_Closing.cl (pv 0)))))))))))))), ?_⟩
  refine ⟨_, rfl, _, rfl, x, C_Closing, dx, [], rfl, h0, c_Closing.cl, c_Closing.given, by decide, ?_⟩
  generalize hH1 : upd H x (.ins C_Closing dx (putF "given" (.ref G) [])) = H1
  have o1 : H1 x = some (.ins C_Closing dx [("given", .ref G)]) := by rw [← hH1, upd_same]; rfl
  have b1 : But x H H1 := by rw [← hH1]; exact But.put _ _
  clear hH1
  refine ⟨by show 0 ≤ sizeLine; decide, fun T H2 hT S2 hT2 => ?_⟩
  have o2 := S2 _ _ o1
  have nTx : T ≠ x := (ne_of_none o1 hT).symm
  have hT0 : H T = none := by
    cases e1 : H T with
    | none => rfl
    | some o => rw [b1 _ _ nTx e1] at hT; cases hT
  refine ⟨_, rfl, x, C_Closing, dx, _, rfl, o2, c_Closing.cl, c_Closing.terms, by simp, ?_⟩
  generalize hH3 : upd H2 x (.ins C_Closing dx (putF "terms" (.ref T) [("given", .ref G)])) = H3
  have o3 : H3 x = some (.ins C_Closing dx [("given", .ref G), ("terms", .ref T)]) := by rw [← hH3, upd_same]; rfl
  have b3 : But x H H3 := by rw [← hH3]; exact (b1.trans (But.of S2)).trans (But.put _ _)
  have t3 : H3 T = some (.lst []) := by rw [← hH3, upd_ne nTx]; exact hT2
  clear hH3
  have nGx : G ≠ x := by
    obtain ⟨vs, h, _⟩ := hG
    exact ne_of h h0 (fun z => by cases z)
  have tx0 : ∀ {Hz : Hp}, But x H Hz → TX H Hz := fun b a o i e => b a _ (ne_of e h0 (fun z => by subst z; exact i)) e
  have hG3 : LD H3 G (F.map Fc.da) := by
    obtain ⟨vs, h1, h2⟩ := hG
    exact ⟨vs, b3 _ _ nGx h1, h2.mono (tx0 b3)⟩
  have nGT : G ≠ T := by
    obtain ⟨vs, h1, h2⟩ := hG
    exact ne_of_none h1 hT0
  -- the terms
  refine ⟨_, rfl, G, rfl, for_listD hG3 (fun i σ H' => (∃ u1 u2, σ = [some (.ref x), some (.ref G), u1, u2]) ∧ But T H3 H' ∧ LD H' T ((termsF (F.take i)).map Tm.da))
    ⟨⟨_, _, rfl⟩, (fun _ _ _ h => h), ⟨[], t3, .nil⟩⟩ (fun i σ H' h => ?_) ?_ ?_⟩
  · obtain ⟨_, b4, _⟩ := h
    refine ⟨fun a o im e1 => b4 a _ (ne_of e1 t3 (fun z => by subst z; exact im)) e1, ?_⟩
    obtain ⟨vs, h1, h2⟩ := hG3
    rw [b4 _ _ nGT h1, h1]
  · rintro i y d' σ H4 hi hy ⟨⟨u1, u2, rfl⟩, b4, hT4⟩
    obtain ⟨f0, hf, rfl⟩ := map_get hi
    have hfm := List.mem_of_getElem? hf
    have hil : i < F.length := (List.getElem?_eq_some_iff.mp hf).1
    have lf := lit _ hfm
    have hy0 : DaAt H4 y (.tup [.str f0.w.name, f0.l.da, f0.r.da]) := hy
    have kl : okT f0.l := ⟨Tm.good_ok lf.good.1, Nat.le_trans lf.dl (by decide), Nat.le_trans lf.cl (by decide)⟩
    have kr : okT f0.r := ⟨Tm.good_ok lf.good.2, Nat.le_trans lf.dr (by decide), Nat.le_trans lf.cr (by decide)⟩
    refine ⟨_, rfl, _, 1, _, hy0, rfl, at1, fun w1 hw1 => ⟨w1, f0.l, rfl, hw1, kl, Nat.le_trans lf.dl (by decide), fun R1 H5 hR1 S5 L5 => ?_⟩⟩
    refine ⟨_, rfl, _, 2, _, hy0.mono (TX.of_same S5), rfl, at2, fun w2 hw2 => ⟨w2, f0.r, rfl, hw2, kr, Nat.le_trans lf.dr (by decide), fun R2 H6 hR2 S6 L6 => ?_⟩⟩
    have sl := f0.l.subs_len
    have sr := f0.r.subs_len
    have cl := lf.cl
    have cr := lf.cr
    refine ⟨R1, R2, _, _, rfl, rfl, L5.mono S6, L6, by rw [List.length_map, List.length_map]; omega, fun W H7 hW S7 LW0 => ?_⟩
    have LW : LD H7 W ((f0.l.subs ++ f0.r.subs).map Tm.da) := by rw [List.map_append]; exact LW0
    obtain ⟨wv, hW7, _⟩ := id LW
    have S47 := (S5.trans S6).trans S7
    obtain ⟨acc0, hT4a, hT4b⟩ := hT4
    have nWT : W ≠ T := (ne_of_none ((S5.trans S6) _ _ hT4a) hW).symm
    refine ⟨W, rfl, for_listD LW (fun j σ H' => (∃ u2, σ = [some (.ref x), some (.ref G), some y, u2]) ∧ But T H7 H' ∧ LD H' T ((dd (termsF (F.take i)) ((f0.l.subs ++ f0.r.subs).take j)).map Tm.da))
      ⟨⟨_, rfl⟩, (fun _ _ _ h => h), ⟨acc0, S47 _ _ hT4a, hT4b.mono (TX.of_same S47)⟩⟩ (fun j σ H' h => ?_) ?_ ?_⟩
    · obtain ⟨_, b8, _⟩ := h
      exact ⟨fun a o im e1 => b8 a _ (ne_of e1 (S47 _ _ hT4a) (fun z => by subst z; exact im)) e1, by rw [b8 _ _ nWT hW7, hW7]⟩
    · rintro j z d' σ H8 hj hz ⟨⟨u2, rfl⟩, b8, acc, hT8, hA8⟩
      obtain ⟨u, hu, rfl⟩ := map_get hj
      have hum := List.mem_of_getElem? hu
      have okm : ∀ v, v ∈ f0.l.subs ++ f0.r.subs → okD v.da := fun v hv => by
        rcases List.mem_append.mp hv with hv | hv
        · exact kl.subs hv
        · exact kr.subs hv
      have okA : okL ((dd (termsF (F.take i)) ((f0.l.subs ++ f0.r.subs).take j)).map Tm.da) := okL_map fun v hv => by
        rcases (dd_mem _ _ _).mp hv with hv | hv
        · obtain ⟨f1, hf1, h1⟩ := termsF_mem.mp hv
          have lf1 := lit _ (List.mem_of_mem_take hf1)
          rcases h1 with h1 | h1
          · exact okT.subs ⟨Tm.good_ok lf1.good.1, Nat.le_trans lf1.dl (by decide), Nat.le_trans lf1.cl (by decide)⟩ h1
          · exact okT.subs ⟨Tm.good_ok lf1.good.2, Nat.le_trans lf1.dr (by decide), Nat.le_trans lf1.cr (by decide)⟩ h1
        · exact okm v (List.mem_of_mem_take hv)
      have nTx' : x ≠ T := nTx.symm
      have o8 : H8 x = some (.ins C_Closing dx [("given", .ref G), ("terms", .ref T)]) := b8 _ _ nTx' (S47 _ _ (b4 _ _ nTx' o3))
      refine ⟨_, rfl, _, rfl, x, C_Closing, dx, _, _, rfl, o8, c_Closing.cl, c_Closing.terms, by rfl, u.da, T, _, hz, rfl, ⟨acc, hT8, hA8⟩, okm _ hum, okA, _, rfl, ?_⟩
      have el := take_snoc hu
      refine ite2 (fun c => ?_) (fun c => ?_)
      · have c' : ¬ u.da ∈ (dd (termsF (F.take i)) ((f0.l.subs ++ f0.r.subs).take j)).map Tm.da := by simpa using c
        have c2 : ¬ u ∈ dd (termsF (F.take i)) ((f0.l.subs ++ f0.r.subs).take j) := fun z => c' (mem_das.mpr z)
        refine ⟨_, rfl, x, C_Closing, dx, _, .ref T, rfl, o8, c_Closing.cl, c_Closing.terms, by rfl, .inl ⟨rfl, _, SqL.of hT8⟩, _, rfl, T, acc, z, rfl, rfl, hT8, ?_, ?_⟩
        · have h1 := dd_len ((f0.l.subs ++ f0.r.subs).take j) (termsF (F.take i))
          have h2 := termsF_len (F.take i) 100 fun f hf => ⟨(lit _ (List.mem_of_mem_take hf)).cl, (lit _ (List.mem_of_mem_take hf)).cr⟩
          rw [List.length_take] at h1 h2
          rw [List.length_append] at h1
          rw [hA8.length, List.length_map]
          omega
        · have X := TX.lst (o := .lst (acc ++ [z])) hT8
          refine ⟨⟨_, rfl⟩, fun a o n h => by rw [upd_ne n]; exact b8 a o n h, acc ++ [z], upd_same, ?_⟩
          rw [el, dd_snoc, if_neg c2, List.map_append]
          exact (hA8.append (.one hz)).mono X
      · have c' : u.da ∈ (dd (termsF (F.take i)) ((f0.l.subs ++ f0.r.subs).take j)).map Tm.da := by simpa using c
        refine ⟨⟨_, rfl⟩, b8, acc, hT8, ?_⟩
        rw [el, dd_snoc, if_pos (mem_das.mp c')]
        exact hA8
    · rintro σ H' ⟨⟨u2, rfl⟩, b8, hT8⟩
      rw [List.length_map, List.take_length] at hT8
      refine ⟨⟨_, _, rfl⟩, fun a o n h => b8 a o n (S47 _ _ (b4 a o n h)), ?_⟩
      rw [termsF_take hf]
      exact hT8
  rintro σ H4 ⟨⟨u1, u2, rfl⟩, b4, hT4⟩
  rw [List.length_map, List.take_length] at hT4
  have ok := termsF_ok lit hF5
  have fok := termsF_fs F
  have AR := Alike.rel F
  have nxT : x ≠ T := nTx.symm
  have o4 : H4 x = some (.ins C_Closing dx [("given", .ref G), ("terms", .ref T)]) := b4 _ _ nxT o3
  have t34 : TX H3 H4 := fun a o im e1 => b4 a _ (ne_of e1 t3 (fun z => by subst z; exact im)) e1
  have hG4 : LD H4 G (F.map Fc.da) := by
    obtain ⟨vs, h1, h2⟩ := hG3
    exact ⟨vs, b4 _ _ nGT h1, h2.mono t34⟩
  -- groups
  refine fun D hD hkD => ?_
  generalize hH5 : upd H4 D (kyO e.P e.w D []) = H5 at hkD ⊢
  have S5 : Same H4 H5 := by rw [← hH5]; exact same_new hD _
  clear hH5
  have o5 := S5 _ _ o4
  have nxD : x ≠ D := ne_of_none o4 hD
  refine ⟨_, rfl, x, C_Closing, dx, _, rfl, o5, c_Closing.cl, c_Closing.group, by simp, ?_⟩
  generalize hH6 : upd H5 x (.ins C_Closing dx (putF "group" (.ref D) [("given", .ref G), ("terms", .ref T)])) = H6
  have o6 : H6 x = some (.ins C_Closing dx [("given", .ref G), ("terms", .ref T), ("group", .ref D)]) := by rw [← hH6, upd_same]; rfl
  have b6 : But x H5 H6 := by rw [← hH6]; exact But.put _ _
  have t6 : TX H5 H6 := by rw [← hH6]; exact TX.put o5 (fun z => z)
  clear hH6
  have k6 : KyAt e.P e.w H6 D [] := hkD.mono (by rw [b6 _ _ nxD.symm hkD.at_, hkD.at_]) t6
  have lt6 : LD H6 T ((termsF F).map Tm.da) := by
    obtain ⟨vs, h1, h2⟩ := hT4
    exact ⟨vs, b6 _ _ nTx (S5 _ _ h1), (h2.mono (TX.of_same S5)).mono t6⟩
  have lg6 : LD H6 G (F.map Fc.da) := by
    obtain ⟨vs, h1, h2⟩ := hG4
    exact ⟨vs, b6 _ _ nGx (S5 _ _ h1), (h2.mono (TX.of_same S5)).mono t6⟩
  have nTD : T ≠ D := by
    obtain ⟨vs, h1, h2⟩ := hT4
    exact ne_of_none h1 hD
  have nGD : G ≠ D := by
    obtain ⟨vs, h1, h2⟩ := hG4
    exact ne_of_none h1 hD
  have hln := ok.len
  refine ⟨_, rfl, x, C_Closing, dx, _, _, rfl, o6, c_Closing.cl, c_Closing.terms, by rfl, T, rfl, for_listD lt6 (fun i σ H' => (∃ u1 u2, σ = [some (.ref x), some (.ref G), u1, u2]) ∧ But D H6 H' ∧ TX H6 H' ∧
    ∃ (g : Tm → Int) (kvs : List KyE), KyAt e.P e.w H' D kvs ∧ kvs.map (·.1) = ((termsF F).take i).map Tm.da ∧ (∀ t ∈ (termsF F).take i, kyLook kvs t.da = some (.int (g t)) ∧ 0 ≤ g t ∧ g t < i) ∧ ∀ s ∈ (termsF F).take i, ∀ t ∈ (termsF F).take i, g s = g t → s = t)
    ⟨⟨_, _, rfl⟩, (fun _ _ _ h => h), TX.refl _, fun _ => 0, [], k6, rfl, (fun t ht => by simp at ht), fun s hs => by simp at hs⟩ (fun i σ H' h => ?_) ?_ ?_⟩
  · obtain ⟨vs, h1, _⟩ := lt6
    exact ⟨h.2.2.1, by rw [h.2.1 _ _ nTD h1, h1]⟩
  · rintro i y d' σ H' hi hy ⟨⟨u1, u2, rfl⟩, b7, t7, g, kvs, hk, hks, hkl, hinj⟩
    obtain ⟨t, ht, rfl⟩ := map_get hi
    have htm := List.mem_of_getElem? ht
    have hil : i < (termsF F).length := (List.getElem?_eq_some_iff.mp ht).1
    have hnt : ¬ t ∈ (termsF F).take i := take_nd ok.nd ht
    have o7 := b7 _ _ nxD o6
    have hy' := hy
    rw [Tm.da_eq] at hy'
    have d3 : (Da.tup (.str t.name :: t.parts.map Tm.da)).depth ≤ 8 := by rw [← Tm.da_eq, Tm.da_depth]; have := ok.deep _ htm; omega
    have hkn : kvs.length = i := by
      have := congrArg List.length hks
      rw [List.length_map, List.length_map, List.length_take] at this
      omega
    refine ⟨_, rfl, x, C_Closing, dx, _, _, rfl, o7, c_Closing.cl, c_Closing.group, by rfl, D, kvs, rfl, hk, ?_⟩
    refine ⟨_, rfl, x, C_Closing, dx, _, _, rfl, o7, c_Closing.cl, c_Closing.group, by rfl, _, rfl, D, kvs, _, rfl, hk, hy', d3, by omega, fun a ea hkp => ?_⟩
    rw [← Tm.da_eq] at hkp ⊢
    have hto : ¬ t.da ∈ kvs.map (·.1) := by rw [hks, mem_das]; exact hnt
    refine ⟨⟨_, _, rfl⟩, b7.trans (But.put _ _), t7.trans (TX.ky hk), fun u => if u = t then (kvs.length : Int) else g u, _, hkp, ?_, fun u hu => ?_, fun s hs u hu e1 => ?_⟩
    · rw [kyPut_out hto, hks, take_snoc ht, List.map_append]; rfl
    · rw [take_snoc ht] at hu
      rw [kyLook_put]
      dsimp only
      by_cases e : u = t
      · subst e; rw [if_pos rfl, if_pos rfl]; exact ⟨rfl, by omega, by omega⟩
      · rw [if_neg (fun q => e (Tm.da_inj _ _ q)), if_neg e]
        rcases List.mem_append.mp hu with hu | hu
        · obtain ⟨a1, a2, a3⟩ := hkl u hu
          exact ⟨a1, a2, by omega⟩
        · exact absurd (List.mem_singleton.mp hu) e
    · rw [take_snoc ht] at hs hu
      dsimp only at e1
      have key : ∀ w, w ∈ (termsF F).take i ++ [t] → w ≠ t → w ∈ (termsF F).take i ∧ g w < i := fun w hw n => by
        rcases List.mem_append.mp hw with hw | hw
        · exact ⟨hw, (hkl w hw).2.2⟩
        · exact absurd (List.mem_singleton.mp hw) n
      by_cases es : s = t <;> by_cases eu : u = t
      · rw [es, eu]
      · rw [if_pos es, if_neg eu] at e1
        have := (key u hu eu).2
        omega
      · rw [if_neg es, if_pos eu] at e1
        have := (key s hs es).2
        omega
      · rw [if_neg es, if_neg eu] at e1
        exact hinj s (key s hs es).1 u (key u hu eu).1 e1
  rintro σ H7 ⟨⟨u1, u2, rfl⟩, b7, t7, g, kvs, hk, hks, hkl, hinj⟩
  rw [List.length_map, List.take_length] at hks hkl hinj
  have hc7 : ClO e C_Closing H7 x dx G T D F (termsF F) g none := by
    refine ⟨b7 _ _ nxD o6, ?_, ⟨kvs, hk, hks, fun t ht => (hkl t ht).1⟩, ?_⟩
    · obtain ⟨vs, h1, h2⟩ := lt6
      exact ⟨vs, b7 _ _ nTD h1, h2.mono t7⟩
    · obtain ⟨vs, h1, h2⟩ := lg6
      exact ⟨vs, b7 _ _ nGD h1, h2.mono t7⟩
  have hB7 : But x H H7 := fun a o n h => by
    have h3 := b3 a o n h
    have h4 := b4 a o (ne_of_none h hT0) h3
    have h5 := S5 _ _ h4
    have h6 := b6 a o n h5
    exact b7 a o (ne_of_none h4 hD) h6
  have hD0 : H D = none := by
    cases e1 : H D with
    | none => rfl
    | some o => rw [b4 _ _ nTD.symm (b3 _ _ nxD.symm e1)] at hD; cases hD
  -- what is told alike
  refine ⟨_, rfl, G, rfl, for_listD hc7.given (fun i σ H' => (∃ u1 u2, σ = [some (.ref x), some (.ref G), u1, u2]) ∧ But2 x D H7 H' ∧ ∃ (gi : Tm → Int) (ci : Option Bool), ClO e C_Closing H' x dx G T D F (termsF F) gi ci ∧ SoundG (Alike F) (termsF F) gi ∧
    (∀ u ∈ termsF F, 0 ≤ gi u) ∧ ∀ f ∈ F.take i, f.w = .alike → gi f.l = gi f.r) ⟨⟨_, _, rfl⟩, But2.refl _, g, none, hc7, (fun u hu v hv e1 => by rw [hinj u hu v hv e1]; exact AR.eqv.refl v hv), (fun u hu => (hkl u hu).2.1), fun f hf => by simp at hf⟩
    (fun i σ H' h => ⟨hc7.tx h.2.1, (hc7.given.but2 h.2.1 hc7.obj hc7.group).2⟩) ?_ ?_⟩
  · rintro i y d' σ H8 hi hy ⟨⟨u1, u2, rfl⟩, b8, gi, ci, hci, hSi, hpi, htold⟩
    obtain ⟨f0, hf, rfl⟩ := map_get hi
    have hfm := List.mem_of_getElem? hf
    obtain ⟨fl, fr⟩ := fok _ hfm
    have hy0 : DaAt H8 y (.tup [.str f0.w.name, f0.l.da, f0.r.da]) := hy
    refine ⟨_, rfl, _, 0, _, hy0, rfl, at0, fun w hw => ?_⟩
    obtain rfl := hw.str_inv
    refine ⟨rfl, _, rfl, ?_⟩
    have tk : ∀ f, f ∈ F.take (i + 1) ↔ f ∈ F.take i ∨ f = f0 := fun f => by rw [take_snoc hf]; simp
    refine ite2 (fun c => ?_) (fun c => ?_)
    · have e1 : f0.w = .alike := by
        have := of_decide_eq_true c
        injection this with this
        exact Wd.name_inj (b := .alike) this
      refine ⟨_, rfl, x, dx, _, rfl, hci.obj, by cases ci <;> rfl, _, rfl, _, 1, _, hy0, rfl, at1, fun w1 hw1 => ⟨_, rfl, _, 2, _, hy0, rfl, at2, fun w2 hw2 => ?_⟩⟩
      refine ⟨x, dx, G, T, D, F, termsF F, gi, ci, w1, w2, f0.l, f0.r, rfl, hci, ok, hw1, hw2, fl, fr, fun H9 b9 hc9 => ?_⟩
      refine ⟨⟨_, _, rfl⟩, b8.trans b9, _, _, hc9, joinG_sound AR.eqv fl fr hSi (AR.told _ hfm e1), joinG_pos fl fr hpi, fun f hf' e2 => ?_⟩
      rcases (tk f).mp hf' with h | rfl
      · exact joinG_keep (g := gi) (g' := gi) (fun _ _ h => h) _ _ (htold f h e2)
      · exact joinG_both gi _ _
    · have e1 : ¬ f0.w = .alike := fun z => c (decide_eq_true (by rw [z]; rfl))
      refine ⟨⟨_, _, rfl⟩, b8, gi, ci, hci, hSi, hpi, fun f hf' e2 => ?_⟩
      rcases (tk f).mp hf' with h | rfl
      · exact htold f h e2
      · exact absurd e2 e1
  rintro σ H8 ⟨⟨u1', u2', rfl⟩, b8, gi, ci, hci, hSi, hpi, htold⟩
  rw [List.length_map, List.take_length] at htold
  have o8 := hci.obj
  refine ⟨_, rfl, x, C_Closing, dx, _, rfl, o8, c_Closing.cl, c_Closing.changed, (by cases ci <;> simp [chF]), ?_⟩
  generalize hH9 : upd H8 x (.ins C_Closing dx (putF "changed" (.bl true) (("given", .ref G) :: ("terms", .ref T) :: ("group", .ref D) :: chF ci))) = H9
  have o9 : H9 x = some (.ins C_Closing dx (("given", .ref G) :: ("terms", .ref T) :: ("group", .ref D) :: chF (some true))) := by rw [← hH9, upd_same]; cases ci <;> rfl
  have b9 : But2 x D H8 H9 := by rw [← hH9]; exact But2.putx _ _
  have eD9 : H9 D = H8 D := by rw [← hH9, upd_ne nxD.symm]
  clear hH9
  have hc9 := (hci.move (ch' := some true) b9 o9 (hci.group.mono eD9 (hci.tx b9))).ok
  refine ⟨fun k σ H' => (∃ u1 u2, σ = [some (.ref x), some (.ref G), u1, u2]) ∧ But2 x D H9 H' ∧ ∃ (gk : Tm → Int) (ck : Bool), k = sumG (termsF F) gk + (if ck = true then 1 else 0) ∧ ClS e C_Closing H' x dx G T D F (termsF F) gk ck ∧ SoundG (Alike F) (termsF F) gk ∧ (∀ u ∈ termsF F, 0 ≤ gk u) ∧
    (∀ f ∈ F, f.w = .alike → gk f.l = gk f.r) ∧ (ck = false → ClG F gk), ⟨_, ⟨_, _, rfl⟩, But2.refl _, gi, true, rfl, hc9, hSi, hpi, htold, fun z => by cases z⟩, ?_⟩
  rintro k σ H' ⟨⟨u1, u2, rfl⟩, bk, gk, ck, rfl, hck, hSk, hpk, htk, hdk⟩
  refine ⟨_, rfl, x, C_Closing, dx, _, _, rfl, hck.obj, c_Closing.cl, c_Closing.changed, by rfl, _, rfl, ?_⟩
  cases ck with
  | false =>
    refine q _ T D gk (fun a o n h => ?_) hck hpk (hdk rfl) hSk
    have h7 := hB7 a o n h
    have nD : a ≠ D := ne_of_none h hD0
    exact bk a o n nD (b9 a o n nD (b8 a o n nD h7))
  | true =>
    refine ⟨_, fun σ' H' q => q, ?_⟩
    refine ⟨_, rfl, x, C_Closing, dx, _, rfl, hck.obj, c_Closing.cl, c_Closing.changed, by simp, ?_⟩
    generalize hHa : upd H' x (.ins C_Closing dx (putF "changed" (.bl false) [("given", .ref G), ("terms", .ref T), ("group", .ref D), ("changed", .bl true)])) = Ha
    have oa : Ha x = some (.ins C_Closing dx [("given", .ref G), ("terms", .ref T), ("group", .ref D), ("changed", .bl false)]) := by rw [← hHa, upd_same]; rfl
    have ba : But2 x D H' Ha := by rw [← hHa]; exact But2.putx _ _
    have eDa : Ha D = H' D := by rw [← hHa, upd_ne nxD.symm]
    clear hHa
    have hca := hck.move (ch' := false) ba oa (hck.group.mono eDa (hck.tx ba))
    refine ⟨_, rfl, x, dx, _, rfl, hca.obj, by rfl, x, dx, G, T, D, F, termsF F, gk, false, Alike F, rfl, hca, ok, hpk, AR.eqv, AR.parts, hSk, fun g1 c1 Hb bb hcb p1 => ?_⟩
    refine ⟨_, rfl, x, dx, _, rfl, hcb.obj, by rfl, x, dx, G, T, D, F, termsF F, g1, c1, Alike F, Most F, rfl, hcb, ok, fok, hF5, p1.pos, AR.eqv, AR.ring, p1.sound.1, fun g2 c2 Hc bc hcc p2 => ?_⟩
    have htk2 : ∀ f ∈ F, f.w = .alike → g2 f.l = g2 f.r := fun f hf e1 => p2.sound.2 _ _ (p1.sound.2 _ _ (htk f hf e1))
    have l1 := p1.le
    have l2 := p2.le
    refine ⟨sumG (termsF F) g2 + (if c2 = true then 1 else 0), ?_, ⟨_, _, rfl⟩, ((bk.trans ba).trans bb).trans bc, g2, c2, rfl, hcc, p2.sound.1, p2.pos, htk2, fun hc2 => ?_⟩
    · show _ < _ + 1
      cases c2 with
      | false =>
        show sumG (termsF F) g2 + 0 < _
        omega
      | true =>
        show sumG (termsF F) g2 + 1 < _
        rcases p2.up with h2 | h2
        · rcases p1.up with h1 | h1
          · rw [h1] at h2; cases h2
          · have := h1.2; omega
        · have := h2.2; omega
    · obtain ⟨e2, r2⟩ := p2.done hc2
      have hc1 : c1 = false := by
        rcases p2.up with h2 | h2
        · rw [← h2]; exact hc2
        · rw [hc2] at h2; cases h2.1
      obtain ⟨e1, r1⟩ := p1.done hc1
      exact ClG.congr fok ok ⟨fun f hf h => htk f hf h, r1, RingCl.congr fok e1 r2⟩ fun u hu => (e2 u hu).trans (e1 u hu)
end

/-- no fact is broken -/
def Stands (F : List Fc) : Prop := ∀ f ∈ F, (f.w = .unlike ∨ f.w = .over) → ¬ Alike F f.l f.r
theorem standsB_iff {F : List Fc} {g : Tm → Int} (fok : FsOk F (termsF F)) (h : ClG F g) (S : SoundG (Alike F) (termsF F) g) : standsB F g = true ↔ Stands F := by
  unfold standsB Stands
  rw [List.all_eq_true]
  constructor
  · intro h1 f hf hw ha
    have h2 := h1 f hf
    have e := (h.alike S (fok f hf).1 (fok f hf).2).mpr ha
    rw [decide_eq_true e] at h2
    rcases hw with hw | hw <;> rw [hw] at h2 <;> revert h2 <;> decide
  · intro h1 f hf
    by_cases hw : f.w = .unlike ∨ f.w = .over
    · have := h1 f hf hw
      rw [decide_eq_false (fun e => this ((h.alike S (fok f hf).1 (fok f hf).2).mp e))]
      simp
    · cases e : f.w with
      | alike => simp
      | most => simp
      | unlike => exact absurd (.inl e) hw
      | over => exact absurd (.inr e) hw
def spStand : Sp := fun vs H Q _ => ∃ (G : Addr) (F : List Fc), vs = [.ref G] ∧ LD H G (F.map Fc.da) ∧ (∀ f ∈ F, f.lit) ∧ F.length ≤ 500 ∧ ∀ b H', Same H H' → (b = true ↔ Stands F) → Q (.bl b) H'
section
variable {e : Ev} (B : Bl e)
include B
theorem ok_stand (A_stand : At e "stand" ["facts"] s_stand) (c_Closing : ClC e C_Closing) (h_Closing___init__ : HasI e 9 C_Closing ["self", "facts"] (spClInit e C_Closing)) (h_Closing_stands : HasM e 1 C_Closing "stands" ["self"] (spStands e C_Closing)) : Has e 11 "stand" ["facts"] spStand := by
  refine A_stand.ok (k := 10) sc_stand (fun vs H Q E h => ?_) (fun f cdv A outer s H vs Q E hr h => ?_)
  · obtain ⟨G, F, rfl, _⟩ := h
    rfl
  obtain ⟨G, F, rfl, hG, lit, hF, q⟩ := h
  have nd := sc_stand.nd
  have hls := sizeLine_eq
  refine ⟨_, pss_one (ps_ret (pe_methH0 h_Closing_stands hr c_Closing.cl (pe_makeH h_Closing___init__ c_Closing.mg hr (pa_cons (pv 0) pa_nil)))), ?_⟩
  refine ⟨_, rfl, fun x dx hx hdx hne => ?_⟩
  have S1 : Same H (upd (upd H dx (.own x)) x (.ins C_Closing dx [])) := same_put (same_new hdx _) hx _
  have o1 : (upd (upd H dx (.own x)) x (.ins C_Closing dx [])) x = some (.ins C_Closing dx []) := upd_same
  generalize upd (upd H dx (.own x)) x (.ins C_Closing dx []) = H1 at S1 o1 ⊢
  refine ⟨x, dx, G, F, rfl, o1, hG.mono S1, lit, hF, fun H2 T D g b2 hc hp hcl hs => ⟨rfl, ?_⟩⟩
  have ok := termsF_ok lit hF
  have fok := termsF_fs F
  have S2 : Same H H2 := But.same b2 S1 hx
  refine ⟨x, dx, _, rfl, hc.obj, by rfl, x, dx, G, T, D, F, termsF F, g, false, rfl, hc, ok, fok, fun H3 S3 => ?_⟩
  exact q _ _ (S2.trans S3) (standsB_iff fok hcl hs)
end

theorem But.txl {a : Addr} {H H' : Hp} {xs : List V} (b : But a H H') (h : H a = some (.lst xs)) : TX H H' := fun c o i e => b c o (ne_of e h (fun z => by subst z; exact i)) e
theorem LD.txl {a : Addr} {H H' : Hp} {ds : List Da} (h : LD H a ds) (b : But a H H') : TX H H' := let ⟨_, h1, _⟩ := h; b.txl h1
theorem But.butL {a : Addr} {R : List Addr} {H H' : Hp} (b : But a H H') (h : a ∈ R) : ButL R H H' := fun c o n e => b c o (fun z => n (by rw [z]; exact h)) e
abbrev s__law_put_parts : Stmt := top 52
theorem sc__law_put_parts : FnScope ["_law_term_here", "_law_found", "_law_part"] ["_law_term_here", "_law_found"] (defScope s__law_put_parts) := ⟨rfl, rfl, rfl, by decide +kernel, rfl, by decide +kernel, by decide +kernel⟩
def spPut (n : Nat) : Sp := fun vs H Q _ => ∃ (v : V) (t : Tm) (a : Addr) (acc : List Tm), vs = [v, .ref a] ∧ DaAt H v t.da ∧ okT t ∧ t.depth ≤ n ∧ LD H a (acc.map Tm.da) ∧ okL (acc.map Tm.da) ∧ acc.length + t.count ≤ 500000 ∧
  ∀ H', But a H H' → LD H' a ((dd acc t.subs).map Tm.da) → Q .non H'
theorem okL_subss {acc ps : List Tm} (h : okL (acc.map Tm.da)) (k : ∀ p ∈ ps, okT p) : okL ((Tm.subss acc ps).map Tm.da) := okL_map fun u hu => by
  rcases (Tm.subss_mem _ _ _).mp hu with h1 | ⟨p, hp, h1⟩
  · exact h _ (List.mem_map_of_mem h1)
  · exact (k p hp).subs h1
section
variable {e : Ev} (B : Bl e)
include B
theorem ok_put (A__law_put_parts : At e "_law_put_parts" ["_law_term_here", "_law_found"] s__law_put_parts) : ∀ n : Nat, Has e n "_law_put_parts" ["_law_term_here", "_law_found"] (spPut n)
  | 0 => A__law_put_parts.zero (fun vs H Q E h => by
      obtain ⟨v, t, a, acc, rfl, _, _, h0, _⟩ := h
      have := t.depth_pos
      omega)
  | n + 1 => by
    have h__law_put_parts := ok_put A__law_put_parts n
    refine A__law_put_parts.ok sc__law_put_parts (fun vs H Q E h => ?_) (fun f cdv A outer s H vs Q E hr h => ?_)
    · obtain ⟨v, t, a, acc, rfl, _⟩ := h
      rfl
    obtain ⟨v, t, a, acc, rfl, hv, kt, hn, hL, hk, hc, q⟩ := h
    have nd := sc__law_put_parts.nd
    have hls := sizeLine_eq
    refine ⟨_, pss_cons (ps_for PassesOwn.never rfl (pi_tup (pe_slice sl_tupD (pv 0) (po_some pe_int) po_none)) (pg_nm 2 nd)
      (pss_one (ps_expr (pe_callH h__law_put_parts hr (pa_cons (pv 2) (pa_cons (pv 1) pa_nil))))))
    (pss_one (ps_if (pt_cmpR (op_notInDa (hu65 hr)) (pv 0) (pv 1) (by rfl))
      (pss_one (ps_expr (pe_app (pv 1) (pa_cons (pv 0) pa_nil))))
      (pss_nil))), ?_⟩
    have hv' := hv
    rw [Tm.da_eq] at hv'
    have hcp := Tm.counts_parts t
    refine ⟨_, rfl, 1, rfl, _, hv', fun v2 H2 S2 hv2 => ?_⟩
    rw [cutD_tail] at hv2
    have hL2 := hL.mono S2
    refine for_tupD hv2 (fun i σ H' => (∃ u, σ = [some v, some (.ref a), u]) ∧ But a H2 H' ∧ LD H' a ((Tm.subss acc (t.parts.take i)).map Tm.da)) ⟨⟨_, rfl⟩, But.refl _, hL2⟩ (fun i σ H' h => hL2.txl h.2.1) ?_ ?_
    · rintro i y d' σ H' hi hy ⟨⟨u, rfl⟩, b, hLi⟩
      obtain ⟨p, hp, rfl⟩ := map_get hi
      have hpm : p ∈ t.parts := List.mem_of_getElem? hp
      have e1 : Tm.counts (t.parts.take (i + 1)) = Tm.counts (t.parts.take i) + p.count := by rw [take_snoc hp, Tm.counts_app]; simp [Tm.counts]
      have h1 := Tm.subss_len (t.parts.take i) acc
      have h2 := Tm.counts_take t.parts (i + 1)
      have h3 := Tm.parts_depth hpm
      refine ⟨_, rfl, _, rfl, y, p, a, _, rfl, hy, kt.part hpm, by omega, hLi, okL_subss hk fun z hz => kt.part (List.mem_of_mem_take hz), by omega, fun H3 b3 hL3 => ?_⟩
      refine ⟨⟨_, rfl⟩, b.trans b3, ?_⟩
      rw [take_snoc hp, Tm.subss_snoc]
      exact hL3
    · rintro σ H' ⟨⟨u, rfl⟩, b, hLi⟩
      rw [List.length_map, List.take_length] at hLi
      have hv3 := (hv.mono (TX.of_same S2)).mono (hL2.txl b)
      have okA := okL_subss hk (ps := t.parts) fun z hz => kt.part hz
      have okt := kt.da
      have b' : But a H H' := (But.of S2).trans b
      have pe := t.put_eq acc
      have h1 := Tm.subss_len t.parts acc
      obtain ⟨xs, hx1, hx2⟩ := hLi
      refine ⟨_, rfl, _, rfl, t.da, a, _, hv3, rfl, ⟨xs, hx1, hx2⟩, okt, okA, _, rfl, ?_⟩
      refine ite2 (fun c => ?_) (fun c => ?_)
      · have c' : ¬ t.da ∈ (Tm.subss acc t.parts).map Tm.da := by simpa using c
        rw [if_neg (fun z => c' (mem_das.mpr z))] at pe
        refine ⟨_, rfl, .inl ⟨rfl, _, SqL.of hx1⟩, _, rfl, a, xs, v, rfl, rfl, hx1, by rw [hx2.length, List.length_map]; omega, ?_⟩
        refine q _ (b'.trans (But.put _ _)) ?_
        rw [pe]
        refine ⟨_, upd_same, ?_⟩
        rw [List.map_append]
        exact (hx2.append (.one hv3)).mono (TX.lst hx1)
      · have c' : t.da ∈ (Tm.subss acc t.parts).map Tm.da := by simpa using c
        rw [if_pos (mem_das.mp c')] at pe
        refine q _ b' ?_
        rw [pe]
        exact ⟨xs, hx1, hx2⟩
end
abbrev s__law_like_parts : Stmt := top 53
theorem sc__law_like_parts : FnScope ["_law_terms", "_law_like", "_law_i", "_law_j", "_law_part", "_law_beside"] ["_law_terms", "_law_like", "_law_i", "_law_j"] (defScope s__law_like_parts) := ⟨rfl, rfl, rfl, by decide +kernel, rfl, by decide +kernel, by decide +kernel⟩
/-- of one name, as many parts, these by A -/
def LikeR (ts : List Tm) (A : Nat → Nat → Prop) (i j : Nat) : Prop := ∃ s t, ts[i]? = some s ∧ ts[j]? = some t ∧ s.name = t.name ∧ s.parts.length = t.parts.length ∧ ∀ (k : Nat) (p q : Tm), s.parts[k]? = some p → t.parts[k]? = some q → A (ixOf ts p) (ixOf ts q)
def spLikeP : Sp := fun vs H Q _ => ∃ (T L : Addr) (R : List Addr) (n : Nat) (l : Nat → Nat → Bool) (ts : List Tm) (i j : Nat), vs = [.ref T, .ref L, .int i, .int j] ∧ LD H T (ts.map Tm.da) ∧ TsOk ts ∧ okL (ts.map Tm.da) ∧ ts.length = n ∧ Mat H L R n l ∧ i < n ∧ j < n ∧
  ∀ b H', Same H H' → (b = true ↔ LikeR ts (fun x y => l x y = true) i j) → Q (.bl b) H'
section
variable {e : Ev} (B : Bl e)
include B
theorem ok_likep (A__law_like_parts : At e "_law_like_parts" ["_law_terms", "_law_like", "_law_i", "_law_j"] s__law_like_parts) : Has e 1 "_law_like_parts" ["_law_terms", "_law_like", "_law_i", "_law_j"] spLikeP := by
  refine A__law_like_parts.ok sc__law_like_parts (fun vs H Q E h => ?_) (fun f cdv Ar outer s0 H vs Q E hr h => ?_)
  · obtain ⟨_, _, _, _, _, _, _, _, rfl, _⟩ := h
    rfl
  obtain ⟨T, L, R, n, l, ts, i, j, rfl, hT, ok, okl, hn, hM, hi, hj, q⟩ := h
  have nd := sc__law_like_parts.nd
  have hls := sizeLine_eq
  refine ⟨_, pss_cons (ps_if (PW.pt (pw_or (pt_cmpR op_ne (pe_ix ix_tupD (pe_ix ix_listD (pv 0) (pv 2) (fun _ _ => rfl)) pe_int (fun _ _ => rfl)) (pe_ix ix_tupD (pe_ix ix_listD (pv 0) (pv 3) (fun _ _ => rfl)) pe_int (fun _ _ => rfl)) (nomark _)) (pw_or1 (pt_cmpR op_ne (pe_b call_lenT B.len (pa_cons (pe_ix ix_listD (pv 0) (pv 2) (fun _ _ => rfl)) pa_nil)) (pe_b call_lenT B.len (pa_cons (pe_ix ix_listD (pv 0) (pv 3) (fun _ _ => rfl)) pa_nil)) (nomark _)))))
      (pss_one (ps_ret pe_bl))
      (pss_nil))
    (pss_cons (ps_for PassesOwn.never rfl (RZ.pi_zipA (by rfl) B.zip (pa_cons (pe_slice sl_tupD (pe_ix ix_listD (pv 0) (pv 2) (fun _ _ => rfl)) (po_some pe_int) po_none) (pa_cons (pe_slice sl_tupD (pe_ix ix_listD (pv 0) (pv 3) (fun _ _ => rfl)) (po_some pe_int) po_none) pa_nil))) (pg_tup (by rfl) (pgs_cons (pg_nm 4 nd) (pgs_cons (pg_nm 5 nd) pgs_nil)))
      (pss_one (ps_if (pt_not (pt_val (pe_ix ix_list (pe_ix ix_list (pv 1) (pe_bm PySem.F.plainAttrs_list PySem.F.slot_list_index PySem.F.type_list_index (mt_indexT (hu65 hr)) (pv 0) (pa_cons (pv 4) pa_nil)) (fun _ _ => rfl)) (pe_bm PySem.F.plainAttrs_list PySem.F.slot_list_index PySem.F.type_list_index (mt_indexT (hu65 hr)) (pv 0) (pa_cons (pv 5) pa_nil)) (fun _ _ => rfl))))
        (pss_one (ps_ret pe_bl))
        (pss_nil))))
    (pss_one (ps_ret pe_bl))), ?_⟩
  obtain ⟨s, hs⟩ : ∃ s, ts[i]? = some s := ⟨_, List.getElem?_eq_getElem (by omega)⟩
  obtain ⟨t, ht⟩ : ∃ t, ts[j]? = some t := ⟨_, List.getElem?_eq_getElem (by omega)⟩
  have hsm := List.mem_of_getElem? hs
  have htm := List.mem_of_getElem? ht
  have as : atI (ts.map Tm.da) (i : Int) = some s.da := atI_nat (by rw [List.getElem?_map, hs]; rfl)
  have att : atI (ts.map Tm.da) (j : Int) = some t.da := atI_nat (by rw [List.getElem?_map, ht]; rfl)
  have like_inv : LikeR ts (fun x y => l x y = true) i j → s.name = t.name ∧ s.parts.length = t.parts.length ∧ ∀ (k : Nat) (p q : Tm), s.parts[k]? = some p → t.parts[k]? = some q → l (ixOf ts p) (ixOf ts q) = true := by
    rintro ⟨s', t', e1, e2, h⟩
    rw [hs] at e1
    rw [ht] at e2
    injection e1 with e1
    injection e2 with e2
    subst e1 e2
    exact h
  refine ⟨_, rfl, _, rfl, T, _, (i : Int), s.da, rfl, hT, rfl, as, fun w1 hw1 => ?_⟩
  rw [Tm.da_eq] at hw1
  refine ⟨_, 0, _, hw1, rfl, at0, fun w2 hw2 => ?_⟩
  obtain rfl := hw2.str_inv
  refine ⟨_, rfl, _, rfl, T, _, (j : Int), t.da, rfl, hT, rfl, att, fun w3 hw3 => ?_⟩
  rw [Tm.da_eq] at hw3
  refine ⟨_, 0, _, hw3, rfl, at0, fun w4 hw4 => ?_⟩
  obtain rfl := hw4.str_inv
  refine ⟨rfl, _, rfl, ?_⟩
  by_cases hnm : ¬ s.name = t.name
  · rw [show decide (V.str s.name = V.str t.name) = false from decide_eq_false (fun z => hnm (by injection z))]
    exact q false _ (Same.refl _) ⟨(fun z => by cases z), fun z => absurd (like_inv z).1 hnm⟩
  replace hnm : s.name = t.name := Decidable.of_not_not hnm
  rw [show decide (V.str s.name = V.str t.name) = true from decide_eq_true (by rw [hnm])]
  refine ⟨_, rfl, _, rfl, T, _, (i : Int), s.da, rfl, hT, rfl, as, fun w5 hw5 => ?_⟩
  rw [Tm.da_eq] at hw5
  refine ⟨w5, _, rfl, hw5, ?_⟩
  refine ⟨_, rfl, _, rfl, T, _, (j : Int), t.da, rfl, hT, rfl, att, fun w6 hw6 => ?_⟩
  rw [Tm.da_eq] at hw6
  refine ⟨w6, _, rfl, hw6, ?_⟩
  refine ⟨rfl, _, rfl, ?_⟩
  refine ite2 (fun c => ?_) (fun c => ?_)
  · have c' : ¬ s.parts.length = t.parts.length := by have c1 := c; simp at c1; omega
    exact q false _ (Same.refl _) ⟨(fun z => by cases z), fun z => absurd (like_inv z).2.1 c'⟩
  have hln : s.parts.length = t.parts.length := by have c1 := c; simp at c1; omega
  refine ⟨_, rfl, _, rfl, T, _, (i : Int), s.da, rfl, hT, rfl, as, fun w7 hw7 => ?_⟩
  rw [Tm.da_eq] at hw7
  refine ⟨1, rfl, _, hw7, fun v1 H1 S1 hv1 => ?_⟩
  rw [cutD_tail] at hv1
  refine ⟨_, rfl, _, rfl, T, _, (j : Int), t.da, rfl, hT.mono S1, rfl, att, fun w8 hw8 => ?_⟩
  rw [Tm.da_eq] at hw8
  refine ⟨1, rfl, _, hw8, fun v2 H2 S2 hv2 => ?_⟩
  rw [cutD_tail] at hv2
  obtain ⟨a1, xs, rfl, hx1, hx2⟩ := (hv1.mono (TX.of_same S2)).tup_inv
  obtain ⟨a2, ys, rfl, hy1, hy2⟩ := hv2.tup_inv
  have S02 := S1.trans S2
  refine ⟨a1, a2, xs, ys, rfl, .inr ⟨SqT.of hx1, SqT.of hy1, RZ.for_zipT (by rw [hx2.length, hy2.length, List.length_map, List.length_map, hln]) (fun k σ H' => (∃ u1 u2, σ = [some (.ref T), some (.ref L), some (.int i), some (.int j), u1, u2]) ∧ Same H H' ∧ TX H2 H' ∧
    ∀ (k' : Nat) (p q : Tm), k' < k → s.parts[k']? = some p → t.parts[k']? = some q → l (ixOf ts p) (ixOf ts q) = true) ⟨⟨_, _, rfl⟩, S02, TX.refl _, fun _ _ _ h => by omega⟩ (fun k σ H' h => ⟨SqT.of (h.2.2.1.tup hx1), SqT.of (h.2.2.1.tup hy1)⟩) ?_ ?_⟩⟩
  · rintro k x y Tz σ H' hx hy ⟨⟨u1, u2, rfl⟩, S3, t3, hk⟩ hTz
    generalize hH4 : upd H' Tz (.tup [x, y]) = H4
    have S4 : Same H' H4 := by rw [← hH4]; exact same_new hTz _
    have hz4 : H4 Tz = some (.tup [x, y]) := by rw [← hH4]; exact upd_same
    clear hH4
    obtain ⟨d1, hd1, hdx⟩ := hx2.at hx
    obtain ⟨p, hp, rfl⟩ := map_get hd1
    obtain ⟨d2, hd2, hdy⟩ := hy2.at hy
    obtain ⟨p2, hp2, rfl⟩ := map_get hd2
    have S34 := S3.trans S4
    have t34 := t3.trans (TX.of_same S4)
    have pm := ok.parts _ hsm _ (List.mem_of_getElem? hp)
    have pm2 := ok.parts _ htm _ (List.mem_of_getElem? hp2)
    have hT4 := hT.mono S34
    have hM4 := hM.same S34
    obtain ⟨vT, hvT, _⟩ := id hT4
    have i1 : ixOf ts p < n := by rw [← hn]; exact ixOf_lt pm
    have i2 : ixOf ts p2 < n := by rw [← hn]; exact ixOf_lt pm2
    obtain ⟨a, ha1, ha2, ha3, _⟩ := hM4.at i1
    refine ⟨Tz, _, rfl, SqT.of hz4, rfl, _, _, rfl, _, _, rfl, rfl, ?_⟩
    refine ⟨_, rfl, _, rfl, .inl ⟨rfl, _, SqL.of hvT⟩, _, rfl, T, x, ts, p, rfl, rfl, hT4, hdx.mono t34, okl, okl _ (List.mem_map_of_mem pm), pm, ?_⟩
    refine ⟨L, _, _, _, rfl, rfl, SqL.of hM4.at_, atI_nat ha2, ?_⟩
    refine ⟨_, rfl, .inl ⟨rfl, _, SqL.of hvT⟩, _, rfl, T, y, ts, p2, rfl, rfl, hT4, hdy.mono t34, okl, okl _ (List.mem_map_of_mem pm2), pm2, ?_⟩
    refine ⟨a, _, _, _, rfl, rfl, SqL.of ha3, atI_nat (rowV_get _ i2), _, rfl, ?_⟩
    cases hb : l (ixOf ts p) (ixOf ts p2) with
    | false => exact q false _ S34 ⟨(fun z => by cases z), fun z => by rw [(like_inv z).2.2 k p p2 hp hp2] at hb; cases hb⟩
    | true =>
      refine ⟨⟨_, _, rfl⟩, S34, t34, fun k' p' q' hk' h1 h2 => ?_⟩
      rcases Nat.lt_or_ge k' k with h | h
      · exact hk k' p' q' h h1 h2
      · obtain rfl : k' = k := by omega
        rw [hp] at h1
        rw [hp2] at h2
        injection h1 with h1
        injection h2 with h2
        subst h1 h2
        exact hb
  · rintro σ H' ⟨⟨u1, u2, rfl⟩, S3, t3, hk⟩
    refine q true _ S3 ⟨fun _ => ⟨s, t, hs, ht, hnm, hln, fun k p q h1 h2 => hk k p q ?_ h1 h2⟩, fun _ => rfl⟩
    have := (List.getElem?_eq_some_iff.mp h1).1
    rw [hx2.length, List.length_map]
    exact this
end

abbrev s__law_through : Stmt := top 54
theorem sc__law_through : FnScope ["_law_table_here", "_law_changed", "_law_k", "_law_i", "_law_j"] ["_law_table_here"] (defScope s__law_through) := ⟨rfl, rfl, rfl, by decide +kernel, rfl, by decide +kernel, by decide +kernel⟩
def spThrough : Sp := fun vs H Q _ => ∃ (L : Addr) (R : List Addr) (n : Nat) (m : Nat → Nat → Bool) (A : Nat → Nat → Prop), vs = [.ref L] ∧ Mat H L R n m ∧ n ≤ 100000 ∧ TrnR n A ∧ SndM n m A ∧
  ∀ m' c H', ButL R H H' → Mat H' L R n m' → PassM n A m m' c (TrnR n fun i j => m i j = true) → Q (.bl c) H'
/-- under way: what stands, what is passed -/
def ThI (H : Hp) (L : Addr) (R : List Addr) (n : Nat) (A : Nat → Nat → Prop) (m : Nat → Nat → Bool) (H' : Hp) (c : Bool) (Cl : Prop) : Prop := ∃ m', ButL R H H' ∧ Mat H' L R n m' ∧ PassM n A m m' c Cl
theorem lenR {H : Hp} {L : Addr} {R : List Addr} {n : Nat} {m : Nat → Nat → Bool} (h : Mat H L R n m) : [V.int (((R.map V.ref).length : Nat) : Int)] = [V.int (n : Int)] := by rw [List.length_map, h.len]
section
variable {e : Ev} (B : Bl e)
include B
theorem ok_through (A__law_through : At e "_law_through" ["_law_table_here"] s__law_through) : Has e 1 "_law_through" ["_law_table_here"] spThrough := by
  refine A__law_through.ok sc__law_through (fun vs H Q E h => ?_) (fun f cdv Ar outer s0 H vs Q E hr h => ?_)
  · obtain ⟨_, _, _, _, _, rfl, _⟩ := h
    rfl
  obtain ⟨L, R, n, m, A, rfl, hM, hn, hA, hS, q⟩ := h
  have nd := sc__law_through.nd
  have hls := sizeLine_eq
  refine ⟨_, pss_cons (ps_st 1 nd pe_bl)
    (pss_cons (ps_for PassesOwn.never rfl (pi_range1 (by rfl) B.range (pa_cons (pe_b call_lenL B.len (pa_cons (pv 0) pa_nil)) pa_nil)) (pg_nm 2 nd)
      (pss_one (ps_for PassesOwn.never rfl (pi_range1 (by rfl) B.range (pa_cons (pe_b call_lenL B.len (pa_cons (pv 0) pa_nil)) pa_nil)) (pg_nm 3 nd)
        (pss_one (ps_if (pt_val (pe_ix ix_list (pe_ix ix_list (pv 0) (pv 3) (fun _ _ => rfl)) (pv 2) (fun _ _ => rfl)))
          (pss_one (ps_for PassesOwn.never rfl (pi_range1 (by rfl) B.range (pa_cons (pe_b call_lenL B.len (pa_cons (pv 0) pa_nil)) pa_nil)) (pg_nm 4 nd)
            (pss_one (ps_if (PW.pt (pw_and (pt_val (pe_ix ix_list (pe_ix ix_list (pv 0) (pv 2) (fun _ _ => rfl)) (pv 4) (fun _ _ => rfl))) (pw_and1 (pt_not (pt_val (pe_ix ix_list (pe_ix ix_list (pv 0) (pv 3) (fun _ _ => rfl)) (pv 4) (fun _ _ => rfl)))))))
              (pss_cons (ps_asg pe_bl (pg_sub (pe_ix ix_list (pv 0) (pv 3) (fun _ _ => rfl)) (pv 4) set_list))
              (pss_one (ps_st 1 nd pe_bl)))
              (pss_nil)))))
          (pss_nil))))))
    (pss_one (ps_ret (pv 1)))), ?_⟩
  refine ⟨_, rfl, L, _, rfl, SqL.of hM.at_, (n : Int), lenR hM, by omega, by omega, for_range (n := n) (fun k σ H' => ∃ c u2 u3 u4, σ = [some (.ref L), some (.bl c), u2, u3, u4] ∧
    ThI H L R n A m H' c (∀ k', k' < k → ∀ i j, i < n → j < n → m i k' = true → m k' j = true → m i j = true)) ⟨false, _, _, _, rfl, m, ButL.refl _, hM, .start hS fun _ h => by omega⟩ ?_ ?_⟩
  · rintro k σ H1 hk ⟨c, u2, u3, u4, rfl, m1, b1, hM1, p1⟩
    rw [Int.zero_add]
    refine ⟨_, rfl, L, _, rfl, SqL.of hM1.at_, (n : Int), lenR hM1, by omega, by omega, for_range (n := n) (fun i σ H' => ∃ c u3 u4, σ = [some (.ref L), some (.bl c), some (.int k), u3, u4] ∧
      ThI H L R n A m H' c ((∀ k', k' < k → ∀ i j, i < n → j < n → m i k' = true → m k' j = true → m i j = true) ∧ ∀ i', i' < i → ∀ j, j < n → m i' k = true → m k j = true → m i' j = true)) ⟨c, _, _, rfl, m1, b1, hM1, p1.imp fun _ _ h => ⟨h, fun _ h => by omega⟩⟩ ?_ ?_⟩
    · rintro i σ H2 hi ⟨c2, u3, u4, rfl, m2, b2, hM2, p2⟩
      rw [Int.zero_add]
      obtain ⟨a, ha1, ha2, ha3, ha4⟩ := hM2.at hi
      refine ⟨_, rfl, _, rfl, L, _, _, _, rfl, rfl, SqL.of hM2.at_, atI_nat ha2, _, rfl, a, _, _, _, rfl, rfl, SqL.of ha3, atI_nat (rowV_get _ hk), _, rfl, ?_⟩
      cases hb : m2 i k with
      | false =>
        refine ⟨c2, _, _, rfl, m2, b2, hM2, p2.imp fun hc he h => ⟨h.1, fun i' hi' j hj h1 h2 => ?_⟩⟩
        rcases Nat.lt_or_ge i' i with h' | h'
        · exact h.2 i' h' j hj h1 h2
        · obtain rfl : i' = i := by omega
          rw [he i' k hi hk, h1] at hb
          cases hb
      | true =>
        refine ⟨_, rfl, L, _, rfl, SqL.of hM2.at_, (n : Int), lenR hM2, by omega, by omega, for_range (n := n) (fun j σ H' => ∃ c u4, σ = [some (.ref L), some (.bl c), some (.int k), some (.int i), u4] ∧ ∃ m', ButL R H H' ∧ Mat H' L R n m' ∧ m' i k = true ∧
          PassM n A m m' c (((∀ k', k' < k → ∀ i j, i < n → j < n → m i k' = true → m k' j = true → m i j = true) ∧ ∀ i', i' < i → ∀ j, j < n → m i' k = true → m k j = true → m i' j = true) ∧ ∀ j', j' < j → m k j' = true → m i j' = true))
          ⟨c2, _, rfl, m2, b2, hM2, hb, p2.imp fun _ _ h => ⟨h, fun _ h => by omega⟩⟩ ?_ ?_⟩
        · rintro j σ H3 hj ⟨c3, u4, rfl, m3, b3, hM3, hik, p3⟩
          rw [Int.zero_add]
          obtain ⟨ak, hk1, hk2, hk3, hk4⟩ := hM3.at hk
          obtain ⟨ai, hi1, hi2, hi3, hi4⟩ := hM3.at hi
          refine ⟨_, rfl, _, rfl, L, _, _, _, rfl, rfl, SqL.of hM3.at_, atI_nat hk2, _, rfl, ak, _, _, _, rfl, rfl, SqL.of hk3, atI_nat (rowV_get _ hj), _, rfl, ?_⟩
          cases hkj : m3 k j with
          | false =>
            refine ⟨c3, _, rfl, m3, b3, hM3, hik, p3.imp fun hc he h => ⟨h.1, fun j' hj' h1 => ?_⟩⟩
            rcases Nat.lt_or_ge j' j with h' | h'
            · exact h.2 j' h' h1
            · obtain rfl : j' = j := by omega
              rw [he k j' hk hj, h1] at hkj
              cases hkj
          | true =>
            refine ⟨_, rfl, _, rfl, L, _, _, _, rfl, rfl, SqL.of hM3.at_, atI_nat hi2, _, rfl, ai, _, _, _, rfl, rfl, SqL.of hi3, atI_nat (rowV_get _ hj), _, rfl, ?_⟩
            cases hij : m3 i j with
            | true =>
              refine ⟨c3, _, rfl, m3, b3, hM3, hik, p3.imp fun hc he h => ⟨h.1, fun j' hj' h1 => ?_⟩⟩
              rcases Nat.lt_or_ge j' j with h' | h'
              · exact h.2 j' h' h1
              · obtain rfl : j' = j := by omega
                rw [he i j' hi hj] at hij
                exact hij
            | false =>
              refine ⟨_, rfl, _, rfl, L, _, _, _, rfl, rfl, SqL.of hM3.at_, atI_nat hi2, _, rfl, ai, _, _, j, rfl, rfl, hi3, by rw [rowV_len]; exact ixn_nat hj, ?_⟩
              exact ⟨true, _, rfl, _, b3.trans (ButL.put hi4 _ _), hM3.put hi1, setM_le hik, p3.set hi hj (hA _ _ _ hi hk hj (p3.snd _ _ hi hk hik) (p3.snd _ _ hk hj hkj)) hij⟩
        · rintro σ H3 ⟨c3, u4, rfl, m3, b3, hM3, hik, p3⟩
          refine ⟨c3, _, _, rfl, m3, b3, hM3, p3.imp fun hc he h => ⟨h.1.1, fun i' hi' j hj h1 h2 => ?_⟩⟩
          rcases Nat.lt_or_ge i' i with h' | h'
          · exact h.1.2 i' h' j hj h1 h2
          · obtain rfl : i' = i := by omega
            exact h.2 j hj h2
    · rintro σ H2 ⟨c2, u3, u4, rfl, m2, b2, hM2, p2⟩
      refine ⟨c2, _, _, _, rfl, m2, b2, hM2, p2.imp fun hc he h k' hk' i j hi hj h1 h2 => ?_⟩
      rcases Nat.lt_or_ge k' k with h' | h'
      · exact h.1 k' h' i j hi hj h1 h2
      · obtain rfl : k' = k := by omega
        exact h.2 i hi j hj h1 h2
  · rintro σ H1 ⟨c, u2, u3, u4, rfl, m1, b1, hM1, p1⟩
    exact ⟨_, rfl, q m1 c H1 b1 hM1 (p1.imp fun hc he h i k j hi hk hj h1 h2 => h k hk i j hi hj h1 h2)⟩
end
abbrev s__law_more : Stmt := top 55
theorem sc__law_more : FnScope ["_law_terms", "_law_like", "_law_most", "_law_changed", "_law_i", "_law_j", "_law_now"] ["_law_terms", "_law_like", "_law_most"] (defScope s__law_more) := ⟨rfl, rfl, rfl, by decide +kernel, rfl, by decide +kernel, by decide +kernel⟩
/-- a pass over both tables -/
structure Pass2 (n : Nat) (A M : Nat → Nat → Prop) (l l' m m' : Nat → Nat → Bool) (c : Bool) (Cl : Prop) : Prop where
  leL : leM n l l'
  leM : leM n m m'
  sndL : SndM n l' A
  sndM : SndM n m' M
  lt : c = true → fM n l' + fM n m' < fM n l + fM n m
  done : c = false → (∀ i j, i < n → j < n → l' i j = l i j ∧ m' i j = m i j) ∧ Cl
theorem Pass2.start {n : Nat} {A M : Nat → Nat → Prop} {l m : Nat → Nat → Bool} {Cl : Prop} (h : SndM n l A) (k : SndM n m M) (c : Cl) : Pass2 n A M l l m m false Cl := ⟨leM.refl _ _, leM.refl _ _, h, k, (fun z => by cases z), fun _ => ⟨fun _ _ _ _ => ⟨rfl, rfl⟩, c⟩⟩
theorem Pass2.imp {n : Nat} {A M : Nat → Nat → Prop} {l l' m m' : Nat → Nat → Bool} {c : Bool} {Cl Cl' : Prop} (h : Pass2 n A M l l' m m' c Cl) (k : c = false → (∀ i j, i < n → j < n → l' i j = l i j ∧ m' i j = m i j) → Cl → Cl') : Pass2 n A M l l' m m' c Cl' :=
  ⟨h.leL, h.leM, h.sndL, h.sndM, h.lt, fun z => ⟨(h.done z).1, k z (h.done z).1 (h.done z).2⟩⟩
theorem Pass2.setL {n : Nat} {A M : Nat → Nat → Prop} {l l' m m' : Nat → Nat → Bool} {c : Bool} {Cl Cl' : Prop} {i j : Nat} (h : Pass2 n A M l l' m m' c Cl) (hi : i < n) (hj : j < n) (a : A i j) (no : l' i j = false) : Pass2 n A M l (setM l' i j) m m' true Cl' :=
  ⟨h.leL.trans (leM.set n l' i j), h.leM, h.sndL.set a, h.sndM, fun _ => by
    have h1 := fM_lt (leM.set n l' i j) hi hj no (setM_at _ _ _)
    have h2 := fM_le h.leL
    have h3 := fM_le h.leM
    omega, fun z => by cases z⟩
theorem Pass2.setL2 {n : Nat} {A M : Nat → Nat → Prop} {l l' m m' : Nat → Nat → Bool} {Cl Cl' : Prop} {i j : Nat} (h : Pass2 n A M l l' m m' true Cl) (a : A i j) : Pass2 n A M l (setM l' i j) m m' true Cl' :=
  ⟨h.leL.trans (leM.set n l' i j), h.leM, h.sndL.set a, h.sndM, fun _ => by
    have h1 := fM_le (leM.set n l' i j)
    have h2 := h.lt rfl
    omega, fun z => by cases z⟩
theorem Pass2.setM {n : Nat} {A M : Nat → Nat → Prop} {l l' m m' : Nat → Nat → Bool} {c : Bool} {Cl Cl' : Prop} {i j : Nat} (h : Pass2 n A M l l' m m' c Cl) (hi : i < n) (hj : j < n) (a : M i j) (no : m' i j = false) : Pass2 n A M l l' m (AB.setM m' i j) true Cl' :=
  ⟨h.leL, h.leM.trans (leM.set n m' i j), h.sndL, h.sndM.set a, fun _ => by
    have h1 := fM_lt (leM.set n m' i j) hi hj no (setM_at _ _ _)
    have h2 := fM_le h.leL
    have h3 := fM_le h.leM
    omega, fun z => by cases z⟩
/-- A, M: likeness, at most -/
structure TabRel (ts : List Tm) (n : Nat) (A M : Nat → Nat → Prop) : Prop where
  symm : ∀ i j, i < n → j < n → A i j → A j i
  of_ : ∀ i j, i < n → j < n → A i j → M i j
  ring : ∀ i j, i < n → j < n → M i j → M j i → A i j
  parts : ∀ i j, i < n → j < n → LikeR ts A i j → A i j
/-- what a pass without a change tells of one pair -/
def TabCl (ts : List Tm) (l m : Nat → Nat → Bool) (i j : Nat) : Prop := (l i j = true → m i j = true) ∧ (m i j = true → m j i = true → l i j = true) ∧ (LikeR ts (fun x y => l x y = true) i j → l i j = true)
def spMore : Sp := fun vs H Q _ => ∃ (T L M : Addr) (R S : List Addr) (n : Nat) (l m : Nat → Nat → Bool) (ts : List Tm) (A Mo : Nat → Nat → Prop), vs = [.ref T, .ref L, .ref M] ∧ LD H T (ts.map Tm.da) ∧ TsOk ts ∧ okL (ts.map Tm.da) ∧ ts.length = n ∧ Mat H L R n l ∧ Mat H M S n m ∧
  (∀ a ∈ R, ¬ a ∈ S) ∧ ¬ L ∈ S ∧ ¬ M ∈ R ∧ ¬ T ∈ R ∧ ¬ T ∈ S ∧ TabRel ts n A Mo ∧ SndM n l A ∧ SndM n m Mo ∧
  ∀ l' m' c H', ButL (R ++ S) H H' → Mat H' L R n l' → Mat H' M S n m' → Pass2 n A Mo l l' m m' c (∀ i j, i < n → j < n → TabCl ts l m i j) → Q (.bl c) H'
theorem LikeR.imp {ts : List Tm} {n : Nat} {A A' : Nat → Nat → Prop} {i j : Nat} (ok : TsOk ts) (hn : ts.length = n) (h : LikeR ts A i j) (k : ∀ x y, x < n → y < n → A x y → A' x y) : LikeR ts A' i j := by
  obtain ⟨s, t, e1, e2, e3, e4, h⟩ := h
  refine ⟨s, t, e1, e2, e3, e4, fun x p q hp hq => k _ _ ?_ ?_ (h x p q hp hq)⟩
  · rw [← hn]; exact ixOf_lt (ok.parts _ (List.mem_of_getElem? e1) _ (List.mem_of_getElem? hp))
  · rw [← hn]; exact ixOf_lt (ok.parts _ (List.mem_of_getElem? e2) _ (List.mem_of_getElem? hq))
section
variable {e : Ev} (B : Bl e)
include B
theorem ok_more (A__law_more : At e "_law_more" ["_law_terms", "_law_like", "_law_most"] s__law_more) (h__law_like_parts : Has e 1 "_law_like_parts" ["_law_terms", "_law_like", "_law_i", "_law_j"] spLikeP) : Has e 2 "_law_more" ["_law_terms", "_law_like", "_law_most"] spMore := by
  refine A__law_more.ok (k := 1) sc__law_more (fun vs H Q E h => ?_) (fun f cdv Ar outer s0 H vs Q E hr h => ?_)
  · obtain ⟨_, _, _, _, _, _, _, _, _, _, _, rfl, _⟩ := h
    rfl
  obtain ⟨T, L, M, R, S, n, l, m, ts, A, Mo, rfl, hT, ok, okl, hn, hL, hM, dRS, nLS, nMR, nTR, nTS, TR, sL, sM, q⟩ := h
  have nd := sc__law_more.nd
  have hls := sizeLine_eq
  have hn5 := ok.len
  refine ⟨_, pss_cons (ps_st 3 nd pe_bl)
    (pss_cons (ps_for PassesOwn.never rfl (pi_range1 (by rfl) B.range (pa_cons (pe_b call_lenL B.len (pa_cons (pv 0) pa_nil)) pa_nil)) (pg_nm 4 nd)
      (pss_one (ps_for PassesOwn.never rfl (pi_range1 (by rfl) B.range (pa_cons (pe_b call_lenL B.len (pa_cons (pv 0) pa_nil)) pa_nil)) (pg_nm 5 nd)
        (pss_cons (ps_cut (ps_if (PW.pt (pw_and (pt_val (pe_ix ix_list (pe_ix ix_list (pv 1) (pv 4) (fun _ _ => rfl)) (pv 5) (fun _ _ => rfl))) (pw_and1 (pt_not (pt_val (pe_ix ix_list (pe_ix ix_list (pv 2) (pv 4) (fun _ _ => rfl)) (pv 5) (fun _ _ => rfl)))))))
          (pss_cons (ps_asg pe_bl (pg_sub (pe_ix ix_list (pv 2) (pv 4) (fun _ _ => rfl)) (pv 5) set_list))
          (pss_one (ps_st 3 nd pe_bl)))
          (pss_nil)))
        (pss_cons (ps_cut (ps_st 6 nd (pe_or (pe_and (pe_ix ix_list (pe_ix ix_list (pv 2) (pv 4) (fun _ _ => rfl)) (pv 5) (fun _ _ => rfl)) (pe_one (pe_ix ix_list (pe_ix ix_list (pv 2) (pv 5) (fun _ _ => rfl)) (pv 4) (fun _ _ => rfl)))) (pe_one (pe_callH h__law_like_parts hr (pa_cons (pv 0) (pa_cons (pv 1) (pa_cons (pv 4) (pa_cons (pv 5) pa_nil)))))))))
        (pss_one (ps_if (PW.pt (pw_and (pt_val (pv 6)) (pw_and1 (pt_not (pt_val (pe_ix ix_list (pe_ix ix_list (pv 1) (pv 4) (fun _ _ => rfl)) (pv 5) (fun _ _ => rfl)))))))
          (pss_cons (ps_asg pe_bl (pg_sub (pe_ix ix_list (pv 1) (pv 4) (fun _ _ => rfl)) (pv 5) set_list))
          (pss_cons (ps_asg pe_bl (pg_sub (pe_ix ix_list (pv 1) (pv 5) (fun _ _ => rfl)) (pv 4) set_list))
          (pss_one (ps_st 3 nd pe_bl))))
          (pss_nil))))))))
    (pss_one (ps_ret (pv 3)))), ?_⟩
  obtain ⟨vT, hvT, hvD⟩ := id hT
  have lenT : [V.int ((vT.length : Nat) : Int)] = [V.int (n : Int)] := by rw [hvD.length, List.length_map, hn]
  -- what stays
  have keepT : ∀ {H' : Hp}, ButL (R ++ S) H H' → TX H H' → LD H' T (ts.map Tm.da) := fun b t => by
    refine ⟨vT, b _ _ (fun z => ?_) hvT, hvD.mono t⟩
    rcases List.mem_append.mp z with z | z
    · exact nTR z
    · exact nTS z
  have tx : ∀ {H' : Hp}, ButL (R ++ S) H H' → TX H H' := fun b a o i e => b a o (fun z => by
    rcases List.mem_append.mp z with z | z
    · obtain ⟨k, hk⟩ := List.mem_iff_getElem?.mp z
      rw [hL.row k a hk] at e; cases e; exact i
    · obtain ⟨k, hk⟩ := List.mem_iff_getElem?.mp z
      rw [hM.row k a hk] at e; cases e; exact i) e
  have inR : ∀ {a}, a ∈ R → a ∈ R ++ S := fun h => List.mem_append.mpr (.inl h)
  have inS : ∀ {a}, a ∈ S → a ∈ R ++ S := fun h => List.mem_append.mpr (.inr h)
  -- one table written, the other stays
  have keepL : ∀ {H1 : Hp} {a : Addr} {o : HO} {l'}, Mat H1 L R n l' → a ∈ S → Mat (upd H1 a o) L R n l' := fun h ha => h.move (upd_ne fun z => nLS (by rw [z]; exact ha)) fun b hb => upd_ne fun z => dRS b hb (by rw [z]; exact ha)
  have keepM : ∀ {H1 : Hp} {a : Addr} {o : HO} {m'}, Mat H1 M S n m' → a ∈ R → Mat (upd H1 a o) M S n m' := fun h ha => h.move (upd_ne fun z => nMR (by rw [z]; exact ha)) fun b hb => upd_ne fun z => dRS _ ha (by rw [← z]; exact hb)
  let St := fun (H' : Hp) (c : Bool) (Cl : Prop) => ∃ l' m', ButL (R ++ S) H H' ∧ Mat H' L R n l' ∧ Mat H' M S n m' ∧ Pass2 n A Mo l l' m m' c Cl
  refine ⟨_, rfl, T, _, rfl, SqL.of hvT, (n : Int), lenT, by omega, by omega, for_range (n := n) (fun i σ H' => ∃ c u4 u5 u6, σ = [some (.ref T), some (.ref L), some (.ref M), some (.bl c), u4, u5, u6] ∧
    St H' c (∀ i' j, i' < i → j < n → TabCl ts l m i' j)) ⟨false, _, _, _, rfl, l, m, ButL.refl _, hL, hM, .start sL sM fun _ _ h => by omega⟩ ?_ ?_⟩
  · rintro i σ H1 hi ⟨c, u4, u5, u6, rfl, l1, m1, b1, hL1, hM1, p1⟩
    rw [Int.zero_add]
    have hT1 := keepT b1 (tx b1)
    obtain ⟨vT1, hvT1, hvD1⟩ := id hT1
    have lenT1 : [V.int ((vT1.length : Nat) : Int)] = [V.int (n : Int)] := by rw [hvD1.length, List.length_map, hn]
    refine ⟨_, rfl, T, _, rfl, SqL.of hvT1, (n : Int), lenT1, by omega, by omega, for_range (n := n) (fun j σ H' => ∃ c u5 u6, σ = [some (.ref T), some (.ref L), some (.ref M), some (.bl c), some (.int i), u5, u6] ∧
      St H' c ((∀ i' j, i' < i → j < n → TabCl ts l m i' j) ∧ ∀ j', j' < j → TabCl ts l m i j')) ⟨c, _, _, rfl, l1, m1, b1, hL1, hM1, p1.imp fun _ _ h => ⟨h, fun _ h => by omega⟩⟩ ?_ ?_⟩
    · rintro j σ H2 hj ⟨c2, u5, u6, rfl, l2, m2, b2, hL2, hM2, p2⟩
      rw [Int.zero_add]
      obtain ⟨ai, li1, li2, li3, li4⟩ := hL2.at hi
      obtain ⟨bi, mi1, mi2, mi3, mi4⟩ := hM2.at hi
      -- likeness is at most
      refine ⟨fun σ H' => ∃ c m', σ = [some (.ref T), some (.ref L), some (.ref M), some (.bl c), some (.int i), some (.int j), u6] ∧ ButL (R ++ S) H H' ∧ Mat H' L R n l2 ∧ Mat H' M S n m' ∧
        Pass2 n A Mo l l2 m m' c (((∀ i' j, i' < i → j < n → TabCl ts l m i' j) ∧ ∀ j', j' < j → TabCl ts l m i j') ∧ (l i j = true → m i j = true)), ?_, ?_⟩
      · refine ⟨_, rfl, _, rfl, L, _, _, _, rfl, rfl, SqL.of hL2.at_, atI_nat li2, _, rfl, ai, _, _, _, rfl, rfl, SqL.of li3, atI_nat (rowV_get _ hj), _, rfl, ?_⟩
        cases hl : l2 i j with
        | false => exact ⟨c2, m2, rfl, b2, hL2, hM2, p2.imp fun hc he h => ⟨h, fun z => by rw [(he i j hi hj).1, z] at hl; cases hl⟩⟩
        | true =>
          refine ⟨_, rfl, _, rfl, M, _, _, _, rfl, rfl, SqL.of hM2.at_, atI_nat mi2, _, rfl, bi, _, _, _, rfl, rfl, SqL.of mi3, atI_nat (rowV_get _ hj), _, rfl, ?_⟩
          cases hm : m2 i j with
          | true => exact ⟨c2, m2, rfl, b2, hL2, hM2, p2.imp fun hc he h => ⟨h, fun z => by rw [(he i j hi hj).2] at hm; exact hm⟩⟩
          | false =>
            refine ⟨_, rfl, _, rfl, M, _, _, _, rfl, rfl, SqL.of hM2.at_, atI_nat mi2, _, rfl, bi, _, _, j, rfl, rfl, mi3, by rw [rowV_len]; exact ixn_nat hj, ?_⟩
            exact ⟨true, _, rfl, b2.trans (ButL.put (inS mi4) _ _), keepL hL2 mi4, hM2.put mi1, p2.setM hi hj (TR.of_ _ _ hi hj (p2.sndL _ _ hi hj hl)) hm⟩
      · rintro σ H3 ⟨c3, m3, rfl, b3, hL3, hM3, p3⟩
        have hT3 := keepT b3 (tx b3)
        obtain ⟨ai, li1, li2, li3, li4⟩ := hL3.at hi
        obtain ⟨aj, lj1, lj2, lj3, lj4⟩ := hL3.at hj
        obtain ⟨bi, mi1, mi2, mi3, mi4⟩ := hM3.at hi
        obtain ⟨bj, mj1, mj2, mj3, mj4⟩ := hM3.at hj
        obtain ⟨NP, eNP⟩ : ∃ P : Prop, P ↔ (m3 i j = true ∧ m3 j i = true) := ⟨_, Iff.rfl⟩
        refine ⟨fun σ H' => ∃ b, σ = [some (.ref T), some (.ref L), some (.ref M), some (.bl c3), some (.int i), some (.int j), some (.bl b)] ∧ Same H3 H' ∧ (b = true → A i j) ∧
          (b = false → ¬ NP ∧ ¬ LikeR ts (fun x y => l2 x y = true) i j), ?_, ?_⟩
        · have back : ¬ NP → ∀ b H', Same H3 H' → (b = true ↔ LikeR ts (fun x y => l2 x y = true) i j) → ∃ b', [some (V.ref T), some (.ref L), some (.ref M), some (.bl c3), some (.int i), some (.int j), some (.bl b)] = [some (V.ref T), some (.ref L), some (.ref M), some (.bl c3), some (.int i), some (.int j), some (.bl b')] ∧ Same H3 H' ∧ (b' = true → A i j) ∧
                (b' = false → ¬ NP ∧ ¬ LikeR ts (fun x y => l2 x y = true) i j) := fun no b H' S hb => ⟨b, rfl, S, fun z => TR.parts _ _ hi hj ((hb.mp z).imp ok hn fun x y hx hy h => p3.sndL _ _ hx hy h),
                  fun z => ⟨no, fun h => by rw [hb.mpr h] at z; cases z⟩⟩
          refine ⟨_, rfl, _, rfl, M, _, _, _, rfl, rfl, SqL.of hM3.at_, atI_nat mi2, _, rfl, bi, _, _, _, rfl, rfl, SqL.of mi3, atI_nat (rowV_get _ hj), _, rfl, ?_⟩
          cases hij : m3 i j with
          | false =>
            refine ⟨_, rfl, ?_⟩
            exact ⟨_, rfl, _, rfl, _, rfl, _, rfl, T, L, R, n, l2, ts, i, j, rfl, hT3, ok, okl, hn, hL3, hi, hj, back fun z => by have z := (eNP.mp z).1; rw [hij] at z; cases z⟩
          | true =>
            refine ⟨_, rfl, _, rfl, M, _, _, _, rfl, rfl, SqL.of hM3.at_, atI_nat mj2, _, rfl, bj, _, _, _, rfl, rfl, SqL.of mj3, atI_nat (rowV_get _ hi), _, rfl, ?_⟩
            cases hji : m3 j i with
            | false => exact ⟨_, rfl, _, rfl, _, rfl, _, rfl, T, L, R, n, l2, ts, i, j, rfl, hT3, ok, okl, hn, hL3, hi, hj, back fun z => by have z := (eNP.mp z).2; rw [hji] at z; cases z⟩
            | true => exact ⟨true, rfl, Same.refl _, fun _ => TR.ring _ _ hi hj (p3.sndM _ _ hi hj hij) (p3.sndM _ _ hj hi hji), fun z => by cases z⟩
        rintro σ H4 ⟨b, rfl, S4, hbA, hbN⟩
        have hL4 := hL3.same S4
        have hM4 := hM3.same S4
        have b4 := b3.trans (ButL.of S4)
        obtain ⟨ai, li1, li2, li3, li4⟩ := hL4.at hi
        obtain ⟨aj, lj1, lj2, lj3, lj4⟩ := hL4.at hj
        refine ⟨_, rfl, _, rfl, ?_⟩
        have done_ : c3 = false → (∀ x y, x < n → y < n → l2 x y = l x y ∧ m3 x y = m x y) → (b = false ∨ l2 i j = true) → ((∀ i' j, i' < i → j < n → TabCl ts l m i' j) ∧ ∀ j', j' < j → TabCl ts l m i j') ∧ (l i j = true → m i j = true) →
            (∀ i' j, i' < i → j < n → TabCl ts l m i' j) ∧ ∀ j', j' < j + 1 → TabCl ts l m i j' := fun hc he hbl h => by
          refine ⟨h.1.1, fun j' hj' => ?_⟩
          rcases Nat.lt_or_ge j' j with h' | h'
          · exact h.1.2 j' h'
          · obtain rfl : j' = j := by omega
            rcases hbl with hb | hl
            · obtain ⟨n1, n2⟩ := hbN hb
              refine ⟨h.2, fun z1 z2 => absurd (eNP.mpr ⟨?_, ?_⟩) n1, fun z => absurd (z.imp ok hn fun x y hx hy h => ?_) n2⟩
              · rw [(he _ _ hi hj).2]; exact z1
              · rw [(he _ _ hj hi).2]; exact z2
              · show l2 x y = true
                rw [(he _ _ hx hy).1]; exact h
            · rw [(he _ _ hi hj).1] at hl
              exact ⟨h.2, fun _ _ => hl, fun _ => hl⟩
        cases b with
        | false => exact ⟨c3, _, _, rfl, l2, m3, b4, hL4, hM4, p3.imp fun hc he h => done_ hc he (.inl rfl) h⟩
        | true =>
          refine ⟨_, rfl, _, rfl, L, _, _, _, rfl, rfl, SqL.of hL4.at_, atI_nat li2, _, rfl, ai, _, _, _, rfl, rfl, SqL.of li3, atI_nat (rowV_get _ hj), _, rfl, ?_⟩
          cases hl : l2 i j with
          | true => exact ⟨c3, _, _, rfl, l2, m3, b4, hL4, hM4, p3.imp fun hc he h => done_ hc he (.inr hl) h⟩
          | false =>
            have a := hbA rfl
            refine ⟨_, rfl, _, rfl, L, _, _, _, rfl, rfl, SqL.of hL4.at_, atI_nat li2, _, rfl, ai, _, _, j, rfl, rfl, li3, by rw [rowV_len]; exact ixn_nat hj, ?_⟩
            have hL5 := hL4.put (j := j) li1
            have hM5 := keepM (o := .lst ((rowV n (l2 i)).set j (.bl true))) hM4 li4
            have b5 := b4.trans (ButL.put (inR li4) _ (.lst ((rowV n (l2 i)).set j (.bl true))))
            generalize upd H4 ai (.lst ((rowV n (l2 i)).set j (.bl true))) = H5 at hL5 hM5 b5 ⊢
            obtain ⟨aj, lj1, lj2, lj3, lj4⟩ := hL5.at hj
            refine ⟨_, rfl, _, rfl, L, _, _, _, rfl, rfl, SqL.of hL5.at_, atI_nat lj2, _, rfl, aj, _, _, i, rfl, rfl, lj3, by rw [rowV_len]; exact ixn_nat hi, ?_⟩
            exact ⟨true, _, _, rfl, _, m3, b5.trans (ButL.put (inR lj4) _ _), hL5.put lj1, keepM hM5 lj4, (p3.setL (Cl' := True) hi hj a hl).setL2 (TR.symm _ _ hi hj a)⟩
    · rintro σ H2 ⟨c2, u5, u6, rfl, l2, m2, b2, hL2, hM2, p2⟩
      refine ⟨c2, _, _, _, rfl, l2, m2, b2, hL2, hM2, p2.imp fun hc he h i' j hi' hj => ?_⟩
      rcases Nat.lt_or_ge i' i with h' | h'
      · exact h.1 i' j h' hj
      · obtain rfl : i' = i := by omega
        exact h.2 j hj
  · rintro σ H1 ⟨c, u4, u5, u6, rfl, l1, m1, b1, hL1, hM1, p1⟩
    exact ⟨_, rfl, q l1 m1 c H1 b1 hL1 hM1 p1⟩
end

abbrev s__law_table : Stmt := top 56
theorem sc__law_table : FnScope ["_law_facts_here", "_law_terms", "_law_fact_here", "_law_like", "_law_j", "_law_i", "_law_most", "_law_changed", "_law_table_here"] ["_law_facts_here"] (defScope s__law_table) := ⟨rfl, rfl, rfl, by decide +kernel, rfl, by decide +kernel, by decide +kernel⟩
/-- what the facts make alike, at most, by places -/
def AlI (F : List Fc) (i j : Nat) : Prop := ∃ s t, (termsF F)[i]? = some s ∧ (termsF F)[j]? = some t ∧ Alike F s t
def MoI (F : List Fc) (i j : Nat) : Prop := ∃ s t, (termsF F)[i]? = some s ∧ (termsF F)[j]? = some t ∧ Most F s t
theorem AlI.of {F : List Fc} {s t : Tm} (hs : s ∈ termsF F) (ht : t ∈ termsF F) (h : Alike F s t) : AlI F (ixOf (termsF F) s) (ixOf (termsF F) t) := ⟨s, t, ixOf_get hs, ixOf_get ht, h⟩
theorem MoI.of {F : List Fc} {s t : Tm} (hs : s ∈ termsF F) (ht : t ∈ termsF F) (h : Most F s t) : MoI F (ixOf (termsF F) s) (ixOf (termsF F) t) := ⟨s, t, ixOf_get hs, ixOf_get ht, h⟩
theorem AlI.inv {F : List Fc} {s t : Tm} (hs : s ∈ termsF F) (ht : t ∈ termsF F) (h : AlI F (ixOf (termsF F) s) (ixOf (termsF F) t)) : Alike F s t := by
  obtain ⟨s', t', e1, e2, h⟩ := h
  rw [ixOf_get hs] at e1
  rw [ixOf_get ht] at e2
  injection e1 with e1
  injection e2 with e2
  subst e1 e2
  exact h
theorem AlI.rel {F : List Fc} (ok : TsOk (termsF F)) : TabRel (termsF F) (termsF F).length (AlI F) (MoI F) := by
  have AR := Alike.rel F
  have mem : ∀ {i s}, (termsF F)[i]? = some s → s ∈ termsF F := fun h => List.mem_of_getElem? h
  have inj : ∀ {s s' : Tm} {o : Option Tm}, o = some s → o = some s' → s = s' := fun a b => Option.some.inj (a.symm.trans b)
  refine ⟨?_, ?_, ?_, ?_⟩
  · rintro i j _ _ ⟨s, t, hs, ht, h⟩
    exact ⟨t, s, ht, hs, AR.eqv.symm _ (mem hs) _ (mem ht) h⟩
  · rintro i j _ _ ⟨s, t, hs, ht, h⟩
    exact ⟨s, t, hs, ht, AR.ring.of_ _ (mem hs) _ (mem ht) h⟩
  · rintro i j _ _ ⟨s, t, hs, ht, h⟩ ⟨t', s', ht', hs', h'⟩
    obtain rfl := inj hs hs'
    obtain rfl := inj ht ht'
    exact ⟨s, t, hs, ht, AR.ring.ring _ (mem hs) _ (mem ht) h h'⟩
  · rintro i j _ _ ⟨s, t, hs, ht, e1, e2, h⟩
    exact ⟨s, t, hs, ht, AR.parts _ (mem hs) _ (mem ht) e1 e2 fun k p q hp hq => AlI.inv (ok.parts _ (mem hs) _ (List.mem_of_getElem? hp)) (ok.parts _ (mem ht) _ (List.mem_of_getElem? hq)) (h k p q hp hq)⟩
theorem AlI.trans {F : List Fc} {n : Nat} : TrnR n (AlI F) := by
  rintro i j k _ _ _ ⟨s, t, hs, ht, h⟩ ⟨t', u, ht', hu, h'⟩
  obtain rfl := Option.some.inj (ht.symm.trans ht')
  exact ⟨s, u, hs, hu, (Alike.rel F).eqv.trans _ (List.mem_of_getElem? hs) _ (List.mem_of_getElem? ht) _ (List.mem_of_getElem? hu) h h'⟩
theorem MoI.trans {F : List Fc} {n : Nat} : TrnR n (MoI F) := by
  rintro i j k _ _ _ ⟨s, t, hs, ht, h⟩ ⟨t', u, ht', hu, h'⟩
  obtain rfl := Option.some.inj (ht.symm.trans ht')
  exact ⟨s, u, hs, hu, (Alike.rel F).ring.trans _ (List.mem_of_getElem? hs) _ (List.mem_of_getElem? ht) _ (List.mem_of_getElem? hu) h h'⟩
/-- what was told at first -/
structure TabTold (F : List Fc) (l m : Nat → Nat → Bool) : Prop where
  reflL : ∀ i, i < (termsF F).length → l i i = true
  alike : ∀ f ∈ F, f.w = .alike → l (ixOf (termsF F) f.l) (ixOf (termsF F) f.r) = true ∧ l (ixOf (termsF F) f.r) (ixOf (termsF F) f.l) = true
  most : ∀ f ∈ F, f.isM = true → m (ixOf (termsF F) f.low) (ixOf (termsF F) f.high) = true
structure TabDone (F : List Fc) (l m : Nat → Nat → Bool) : Prop where
  cl : ∀ i j, i < (termsF F).length → j < (termsF F).length → TabCl (termsF F) l m i j
  trL : TrnR (termsF F).length fun i j => l i j = true
  trM : TrnR (termsF F).length fun i j => m i j = true
/-- a table that is done tells all that follows -/
theorem TabDone.rel {F : List Fc} {l m : Nat → Nat → Bool} (fok : FsOk F (termsF F)) (ok : TsOk (termsF F)) (T : TabTold F l m) (D : TabDone F l m) :
    RelC F (termsF F) (fun s t => l (ixOf (termsF F) s) (ixOf (termsF F) t) = true ∧ l (ixOf (termsF F) t) (ixOf (termsF F) s) = true) (fun s t => m (ixOf (termsF F) s) (ixOf (termsF F) t) = true) := by
  have lt : ∀ {s}, s ∈ termsF F → ixOf (termsF F) s < (termsF F).length := fun h => ixOf_lt h
  refine ⟨fun f hf e => T.alike f hf e, ⟨fun u hu => ⟨T.reflL _ (lt hu), T.reflL _ (lt hu)⟩, fun _ _ _ _ h => ⟨h.2, h.1⟩, fun u hu v hv w hw h h' => ⟨D.trL _ _ _ (lt hu) (lt hv) (lt hw) h.1 h'.1, D.trL _ _ _ (lt hw) (lt hv) (lt hu) h'.2 h.2⟩⟩, fun s hs t ht e1 e2 h => ?_,
    ⟨fun f hf e => T.most f hf e, fun u hu v hv h => (D.cl _ _ (lt hu) (lt hv)).1 h.1, fun u hu v hv w hw h h' => D.trM _ _ _ (lt hu) (lt hv) (lt hw) h h', fun u hu v hv h h' => ⟨(D.cl _ _ (lt hu) (lt hv)).2.1 h h', (D.cl _ _ (lt hv) (lt hu)).2.1 h' h⟩⟩⟩
  exact ⟨(D.cl _ _ (lt hs) (lt ht)).2.2 ⟨s, t, ixOf_get hs, ixOf_get ht, e1, e2, fun k p q hp hq => (h k p q hp hq).1⟩,
    (D.cl _ _ (lt ht) (lt hs)).2.2 ⟨t, s, ixOf_get ht, ixOf_get hs, e1.symm, e2.symm, fun k p q hp hq => (h k q p hq hp).2⟩⟩
theorem Pass2.thenL {n : Nat} {A M : Nat → Nat → Prop} {l l' l'' m m' : Nat → Nat → Bool} {c d : Bool} {C1 C2 : Prop} (h : Pass2 n A M l l' m m' c C1) (k : PassM n A l' l'' d C2) : Pass2 n A M l l'' m m' (d || c) (C1 ∧ C2 ∧ ∀ i j, i < n → j < n → l' i j = l i j) := by
  refine ⟨h.leL.trans k.le, h.leM, k.snd, h.sndM, fun z => ?_, fun z => ?_⟩
  · have h1 := k.fle
    have h2 := fM_le h.leL
    have h3 := fM_le h.leM
    cases d with
    | true => have := k.lt rfl; omega
    | false => have := h.lt z; omega
  · rw [Bool.or_eq_false_iff] at z
    obtain ⟨h1, h2⟩ := h.done z.2
    obtain ⟨h3, h4⟩ := k.done z.1
    exact ⟨fun i j hi hj => ⟨(h3 i j hi hj).trans (h1 i j hi hj).1, (h1 i j hi hj).2⟩, h2, h4, fun i j hi hj => (h1 i j hi hj).1⟩
theorem Pass2.thenM {n : Nat} {A M : Nat → Nat → Prop} {l l' m m' m'' : Nat → Nat → Bool} {c d : Bool} {C1 C2 : Prop} (h : Pass2 n A M l l' m m' c C1) (k : PassM n M m' m'' d C2) : Pass2 n A M l l' m m'' (d || c) (C1 ∧ C2 ∧ ∀ i j, i < n → j < n → m' i j = m i j) := by
  refine ⟨h.leL, h.leM.trans k.le, h.sndL, k.snd, fun z => ?_, fun z => ?_⟩
  · have h1 := k.fle
    have h2 := fM_le h.leL
    have h3 := fM_le h.leM
    cases d with
    | true => have := k.lt rfl; omega
    | false => have := h.lt z; omega
  · rw [Bool.or_eq_false_iff] at z
    obtain ⟨h1, h2⟩ := h.done z.2
    obtain ⟨h3, h4⟩ := k.done z.1
    exact ⟨fun i j hi hj => ⟨(h1 i j hi hj).1, (h3 i j hi hj).trans (h1 i j hi hj).2⟩, h2, h4, fun i j hi hj => (h1 i j hi hj).2⟩
theorem TrnR.congr {n : Nat} {l l' : Nat → Nat → Bool} (h : TrnR n fun i j => l' i j = true) (e : ∀ i j, i < n → j < n → l' i j = l i j) : TrnR n fun i j => l i j = true := fun i j k hi hj hk a b => by
  have := h i j k hi hj hk (by show l' i j = true; rw [e i j hi hj]; exact a) (by show l' j k = true; rw [e j k hj hk]; exact b)
  show l i k = true
  rw [← e i k hi hk]
  exact this
def spTable : Sp := fun vs H Q _ => ∃ (G : Addr) (F : List Fc), vs = [.ref G] ∧ LD H G (F.map Fc.da) ∧ (∀ f ∈ F, f.lit) ∧ F.length ≤ 500 ∧
  ∀ p T L M R H' l, H p = none → Same H H' → H' p = some (.tup [.ref T, .ref L, .ref M]) → LD H' T ((termsF F).map Tm.da) → Mat H' L R (termsF F).length l → (∀ s ∈ termsF F, ∀ t ∈ termsF F, (l (ixOf (termsF F) s) (ixOf (termsF F) t) = true ↔ Alike F s t)) → Q (.ref p) H'
section
variable {e : Ev} (B : Bl e)
include B
theorem ok_table (A__law_table : At e "_law_table" ["_law_facts_here"] s__law_table) (h__law_put_parts : Has e 8 "_law_put_parts" ["_law_term_here", "_law_found"] (spPut 8)) (h__law_more : Has e 2 "_law_more" ["_law_terms", "_law_like", "_law_most"] spMore) (h__law_through : Has e 1 "_law_through" ["_law_table_here"] spThrough) : Has e 9 "_law_table" ["_law_facts_here"] spTable := by
  refine A__law_table.ok (k := 8) sc__law_table (fun vs H Q E h => ?_) (fun f cdv Ar outer s0 H vs Q E hr h => ?_)
  · obtain ⟨_, _, rfl, _⟩ := h
    rfl
  obtain ⟨G, F, rfl, hG, lit, hF5, q⟩ := h
  have nd := sc__law_table.nd
  have hls := sizeLine_eq
  refine ⟨_, pss_cons (ps_st 1 nd (pe_lst pa_nil))
    (pss_cons (ps_for PassesOwn.never rfl (pi_list (pv 0)) (pg_nm 2 nd)
      (pss_cons (ps_expr (pe_callH h__law_put_parts hr (pa_cons (pe_ix ix_tupD (pv 2) pe_int (fun _ _ => rfl)) (pa_cons (pv 1) pa_nil))))
      (pss_one (ps_expr (pe_callH h__law_put_parts hr (pa_cons (pe_ix ix_tupD (pv 2) pe_int (fun _ _ => rfl)) (pa_cons (pv 1) pa_nil)))))))
    (pss_cons (ps_setLc (i := 3) (own := [("_law_i", 5)]) (by rfl) nd rfl rfl (sw_true rfl rfl rfl (by decide +kernel)) (pi_range1 (by rfl) B.range (pa_cons (pe_b call_lenL B.len (pa_cons (pv 1) pa_nil)) pa_nil)) (blkOk_by (N := ["_law_facts_here", "_law_terms", "_law_fact_here", "_law_like", "_law_j", "_law_i", "_law_most", "_law_changed", "_law_table_here"]) (sc := defScope s__law_table) (by decide +kernel)) (fun _ _ _ _ _ => pg_nm 5 nd) (fun _ _ _ _ _ => pts_nil) (fun _ _ _ _ _ => pe_lc (own := [("_law_j", 4)]) (by rfl) nd (pi_range1 (by rfl) B.range (pa_cons (pe_b (call_lenLE (e := e)) B.len (pa_cons (pv 1) pa_nil)) pa_nil)) (blkOk_by (by kernel_rfl)) (fun _ _ _ _ _ => pg_nm 4 nd) (fun _ _ _ _ _ => pts_nil) (fun _ _ _ _ _ => pe_cmpR op_eq (pv 5) (pv 4) (nomark _))))
    (pss_cons (ps_setLc (i := 6) (own := [("_law_i", 5)]) (by rfl) nd rfl rfl (sw_true rfl rfl rfl (by decide +kernel)) (pi_range1 (by rfl) B.range (pa_cons (pe_b call_lenL B.len (pa_cons (pv 1) pa_nil)) pa_nil)) (blkOk_by (N := ["_law_facts_here", "_law_terms", "_law_fact_here", "_law_like", "_law_j", "_law_i", "_law_most", "_law_changed", "_law_table_here"]) (sc := defScope s__law_table) (by decide +kernel)) (fun _ _ _ _ _ => pg_nm 5 nd) (fun _ _ _ _ _ => pts_nil) (fun _ _ _ _ _ => pe_lc (own := [("_law_j", 4)]) (by rfl) nd (pi_range1 (by rfl) B.range (pa_cons (pe_b (call_lenLE (e := e)) B.len (pa_cons (pv 1) pa_nil)) pa_nil)) (blkOk_by (by kernel_rfl)) (fun _ _ _ _ _ => pg_nm 4 nd) (fun _ _ _ _ _ => pts_nil) (fun _ _ _ _ _ => pe_cmpR op_eq (pv 5) (pv 4) (nomark _))))
    (pss_cons (ps_for PassesOwn.never rfl (pi_list (pv 0)) (pg_nm 2 nd)
      (pss_cons (ps_st 5 nd (pe_bm PySem.F.plainAttrs_list PySem.F.slot_list_index PySem.F.type_list_index (mt_indexT (hu65 hr)) (pv 1) (pa_cons (pe_ix ix_tupD (pv 2) pe_int (fun _ _ => rfl)) pa_nil)))
      (pss_cons (ps_st 4 nd (pe_bm PySem.F.plainAttrs_list PySem.F.slot_list_index PySem.F.type_list_index (mt_indexT (hu65 hr)) (pv 1) (pa_cons (pe_ix ix_tupD (pv 2) pe_int (fun _ _ => rfl)) pa_nil)))
      (pss_cons (ps_cut (ps_if (pt_cmpR op_eq (pe_ix ix_tupD (pv 2) pe_int (fun _ _ => rfl)) pe_str (nomark _))
        (pss_cons (ps_asg pe_bl (pg_sub (pe_ix ix_list (pv 3) (pv 5) (fun _ _ => rfl)) (pv 4) set_list))
        (pss_one (ps_asg pe_bl (pg_sub (pe_ix ix_list (pv 3) (pv 4) (fun _ _ => rfl)) (pv 5) set_list))))
        (pss_nil)))
      (pss_cons (ps_cut (ps_if (pt_cmpR op_eq (pe_ix ix_tupD (pv 2) pe_int (fun _ _ => rfl)) pe_str (nomark _))
        (pss_one (ps_asg pe_bl (pg_sub (pe_ix ix_list (pv 6) (pv 5) (fun _ _ => rfl)) (pv 4) set_list)))
        (pss_nil)))
      (pss_one (ps_if (pt_cmpR op_eq (pe_ix ix_tupD (pv 2) pe_int (fun _ _ => rfl)) pe_str (nomark _))
        (pss_one (ps_asg pe_bl (pg_sub (pe_ix ix_list (pv 6) (pv 4) (fun _ _ => rfl)) (pv 5) set_list)))
        (pss_nil))))))))
    (pss_cons (ps_st 7 nd pe_bl)
    (pss_cons (ps_cut (ps_while PassesOwn.never (pt_val (pv 7))
      (pss_cons (ps_st 7 nd (pe_callH h__law_more hr (pa_cons (pv 1) (pa_cons (pv 3) (pa_cons (pv 6) pa_nil)))))
      (pss_one (ps_for PassesOwn.never rfl (pi_list (pe_lst (pa_cons (pv 3) (pa_cons (pv 6) pa_nil)))) (pg_nm 8 nd)
        (pss_one (ps_st 7 nd (pe_or (pe_callH h__law_through hr (pa_cons (pv 8) pa_nil)) (pe_one (pv 7))))))))))
    (pss_one (ps_ret (pe_tup (pa_cons (pv 1) (pa_cons (pv 3) (pa_cons (pv 6) pa_nil)))))))))))), ?_⟩
  have ok := termsF_ok lit hF5
  have fok := termsF_fs F
  have hn5 := ok.len
  obtain ⟨n, hn⟩ : ∃ n, (termsF F).length = n := ⟨_, rfl⟩
  have litK : ∀ f ∈ F, okT f.l ∧ okT f.r := fun f hf => by
    have h := lit f hf
    exact ⟨⟨Tm.good_ok h.good.1, Nat.le_trans h.dl (by decide), Nat.le_trans h.cl (by decide)⟩, ⟨Tm.good_ok h.good.2, Nat.le_trans h.dr (by decide), Nat.le_trans h.cr (by decide)⟩⟩
  have okA : ∀ i, okL ((termsF (F.take i)).map Tm.da) := fun i => okL_map fun v hv => by
    obtain ⟨f1, hf1, h1⟩ := termsF_mem.mp hv
    obtain ⟨k1, k2⟩ := litK f1 (List.mem_of_mem_take hf1)
    rcases h1 with h1 | h1
    · exact k1.subs h1
    · exact k2.subs h1
  have okl : okL ((termsF F).map Tm.da) := by
    have := okA F.length
    rw [List.take_length] at this
    exact this
  -- the terms
  refine ⟨by show 0 ≤ sizeLine; decide, fun T hT0 => ?_⟩
  generalize hH1 : upd H T (.lst []) = H1
  have S1 : Same H H1 := by rw [← hH1]; exact same_new hT0 _
  have hT1 : H1 T = some (.lst []) := by rw [← hH1]; exact upd_same
  clear hH1
  have hG1 := hG.mono S1
  have nGT : G ≠ T := by
    obtain ⟨vs, h1, _⟩ := hG
    exact ne_of_none h1 hT0
  refine ⟨_, rfl, G, rfl, for_listD hG1 (fun i σ H' => (∃ u2, σ = [some (.ref G), some (.ref T), u2, none, none, none, none, none, none]) ∧ But T H1 H' ∧ LD H' T ((termsF (F.take i)).map Tm.da)) ⟨⟨_, rfl⟩, But.refl _, [], hT1, .nil⟩ (fun i σ H' h => ?_) ?_ ?_⟩
  · obtain ⟨_, b, _⟩ := h
    obtain ⟨vs, h1, _⟩ := hG1
    exact ⟨b.txl hT1, by rw [b _ _ nGT h1, h1]⟩
  · rintro i y d' σ H2 hi hy ⟨⟨u2, rfl⟩, b2, hL2⟩
    obtain ⟨f0, hf, rfl⟩ := map_get hi
    have hfm := List.mem_of_getElem? hf
    have hil : i < F.length := (List.getElem?_eq_some_iff.mp hf).1
    have lf := lit _ hfm
    have c1 := lf.cl
    have c2 := lf.cr
    obtain ⟨k1, k2⟩ := litK _ hfm
    have hy0 : DaAt H2 y (.tup [.str f0.w.name, f0.l.da, f0.r.da]) := hy
    have hlen := termsF_len (F.take i) 100 fun f hf => ⟨(lit _ (List.mem_of_mem_take hf)).cl, (lit _ (List.mem_of_mem_take hf)).cr⟩
    rw [List.length_take] at hlen
    refine ⟨_, rfl, _, 1, _, hy0, rfl, at1, fun w1 hw1 => ⟨_, rfl, w1, f0.l, T, _, rfl, hw1, k1, Nat.le_trans lf.dl (by decide), hL2, okA i, by omega, fun H3 b3 hL3 => ?_⟩⟩
    have hlen2 := dd_len f0.l.subs (termsF (F.take i))
    have hsl := f0.l.subs_len
    refine ⟨_, rfl, _, 2, _, hy0.mono (hL2.txl b3), rfl, at2, fun w2 hw2 => ⟨_, rfl, w2, f0.r, T, _, rfl, hw2, k2, Nat.le_trans lf.dr (by decide), hL3, ?_, by omega, fun H4 b4 hL4 => ?_⟩⟩
    · refine okL_map fun v hv => ?_
      rcases (dd_mem _ _ _).mp hv with h | h
      · exact okA i _ (List.mem_map_of_mem h)
      · exact k1.subs h
    refine ⟨⟨_, rfl⟩, (b2.trans b3).trans b4, ?_⟩
    rw [termsF_take hf, dd_app]
    exact hL4
  rintro σ H2 ⟨⟨u2, rfl⟩, b2, hT2⟩
  rw [List.length_map, List.take_length] at hT2
  have S2 : Same H H2 := But.same b2 S1 hT0
  obtain ⟨vT2, hvT2, hvD2⟩ := id hT2
  have lenT2 : [V.int ((vT2.length : Nat) : Int)] = [V.int (n : Int)] := by rw [hvD2.length, List.length_map, hn]
  -- what is alike
  refine ⟨_, rfl, T, _, rfl, SqL.of hvT2, (n : Int), lenT2, by omega, by omega, fun L hL0 => lc_range (n := n) (fun i H' => ∃ rows : List Addr, H' L = some (.lst (rows.map V.ref)) ∧ rows.length = i ∧ rows.Nodup ∧ (∀ k a, rows[k]? = some a → H' a = some (.lst (rowV n fun j => decide (k = j)))) ∧ (∀ a ∈ rows, H2 a = none) ∧ ¬ L ∈ rows ∧ Same H2 H')
    ⟨[], upd_same, rfl, List.nodup_nil, (fun k a h => by simp at h), (fun a h => by simp at h), by simp, same_new hL0 _⟩ ?_ ?_⟩
  · rintro i H' hi ⟨rows, hl, hrl, hnd, hrows, hnew, hout, S⟩
    rw [Int.zero_add]
    obtain ⟨vTi, hvTi, hvDi⟩ := hT2.mono S
    have lenTi : [V.int ((vTi.length : Nat) : Int)] = [V.int (n : Int)] := by rw [hvDi.length, List.length_map, hn]
    refine ⟨rfl, _, rfl, T, _, rfl, SqL.of hvTi, (n : Int), lenTi, by omega, by omega, fun r hr0 => lc_range (n := n) (fun j H'' => H'' r = some (.lst ((List.range j).map fun j' => .bl (decide (i = j')))) ∧ Same H' H'')
      ⟨upd_same, same_new hr0 _⟩ ?_ ?_⟩
    · rintro j H'' hj ⟨hr, S2⟩
      rw [Int.zero_add]
      refine ⟨rfl, _, rfl, _, rfl, rfl, _, hr, by rw [List.length_map, List.length_range]; omega, ?_, same_put S2 hr0 _⟩
      rw [upd_same, List.range_succ, List.map_append]
      have e1 : decide (V.int (i : Int) = V.int (j : Int)) = decide (i = j) := decide_eq_decide.mpr ⟨fun z => by injection z with z; omega, fun z => by rw [z]⟩
      show some (HO.lst (_ ++ [V.bl (decide (V.int (i : Int) = V.int (j : Int)))])) = _
      rw [e1]
      rfl
    · rintro H'' ⟨hr, S2⟩
      have nr : r ≠ L := (ne_of_none hl hr0).symm
      have hrn : ¬ r ∈ rows := fun z => by
        obtain ⟨k, hk⟩ := List.mem_iff_getElem?.mp z
        rw [hrows k r hk] at hr0
        cases hr0
      refine ⟨_, S2 _ _ hl, by rw [List.length_map]; omega, rows ++ [r], by rw [upd_same, List.map_append]; rfl, by rw [List.length_append, hrl]; rfl, ?_, fun k a hk => ?_, fun a ha => ?_, fun z => ?_, same_put (S.trans S2) hL0 _⟩
      · exact List.nodup_append.mpr ⟨hnd, by simp, fun a ha b hb e => by
          rw [List.mem_singleton] at hb
          subst hb e
          exact hrn ha⟩
      · rcases Nat.lt_or_ge k rows.length with h | h
        · rw [List.getElem?_append_left h] at hk
          have h1 := hrows k a hk
          rw [upd_ne (show a ≠ L from fun z => hout (by rw [← z]; exact List.mem_of_getElem? hk))]
          exact S2 _ _ h1
        · rw [List.getElem?_append_right h] at hk
          have e1 : k = rows.length ∧ r = a := by
            cases e : k - rows.length with
            | zero => rw [e] at hk; simp at hk; exact ⟨by omega, hk⟩
            | succ x => rw [e] at hk; simp at hk
          obtain ⟨rfl, rfl⟩ := e1
          rw [upd_ne nr, hr, hrl]
          rfl
      · rcases List.mem_append.mp ha with h | h
        · exact hnew a h
        · rw [List.mem_singleton.mp h]; exact same_none S hr0
      · rcases List.mem_append.mp z with h | h
        · exact hout h
        · exact nr (List.mem_singleton.mp h).symm
  rintro H3 ⟨R, hL1, hLl, hLn, hLr, hLf, hLo, SL⟩
  have hML : Mat H3 L R n (fun i j => decide (i = j)) := ⟨hL1, hLl, hLn, hLo, hLr⟩
  clear hL1 hLl hLn hLo hLr
  have hT3 := hT2.mono SL
  obtain ⟨vT3, hvT3, hvD3⟩ := id hT3
  have lenT3 : [V.int ((vT3.length : Nat) : Int)] = [V.int (n : Int)] := by rw [hvD3.length, List.length_map, hn]
  -- what is at most
  refine ⟨_, rfl, T, _, rfl, SqL.of hvT3, (n : Int), lenT3, by omega, by omega, fun M hM0 => lc_range (n := n) (fun i H' => ∃ rows : List Addr, H' M = some (.lst (rows.map V.ref)) ∧ rows.length = i ∧ rows.Nodup ∧ (∀ k a, rows[k]? = some a → H' a = some (.lst (rowV n fun j => decide (k = j)))) ∧ (∀ a ∈ rows, H3 a = none) ∧ ¬ M ∈ rows ∧ Same H3 H')
    ⟨[], upd_same, rfl, List.nodup_nil, (fun k a h => by simp at h), (fun a h => by simp at h), by simp, same_new hM0 _⟩ ?_ ?_⟩
  · rintro i H' hi ⟨rows, hl, hrl, hnd, hrows, hnew, hout, S⟩
    rw [Int.zero_add]
    obtain ⟨vTi, hvTi, hvDi⟩ := hT3.mono S
    have lenTi : [V.int ((vTi.length : Nat) : Int)] = [V.int (n : Int)] := by rw [hvDi.length, List.length_map, hn]
    refine ⟨rfl, _, rfl, T, _, rfl, SqL.of hvTi, (n : Int), lenTi, by omega, by omega, fun r hr0 => lc_range (n := n) (fun j H'' => H'' r = some (.lst ((List.range j).map fun j' => .bl (decide (i = j')))) ∧ Same H' H'')
      ⟨upd_same, same_new hr0 _⟩ ?_ ?_⟩
    · rintro j H'' hj ⟨hr, S2⟩
      rw [Int.zero_add]
      refine ⟨rfl, _, rfl, _, rfl, rfl, _, hr, by rw [List.length_map, List.length_range]; omega, ?_, same_put S2 hr0 _⟩
      rw [upd_same, List.range_succ, List.map_append]
      have e1 : decide (V.int (i : Int) = V.int (j : Int)) = decide (i = j) := decide_eq_decide.mpr ⟨fun z => by injection z with z; omega, fun z => by rw [z]⟩
      show some (HO.lst (_ ++ [V.bl (decide (V.int (i : Int) = V.int (j : Int)))])) = _
      rw [e1]
      rfl
    · rintro H'' ⟨hr, S2⟩
      have nr : r ≠ M := (ne_of_none hl hr0).symm
      have hrn : ¬ r ∈ rows := fun z => by
        obtain ⟨k, hk⟩ := List.mem_iff_getElem?.mp z
        rw [hrows k r hk] at hr0
        cases hr0
      refine ⟨_, S2 _ _ hl, by rw [List.length_map]; omega, rows ++ [r], by rw [upd_same, List.map_append]; rfl, by rw [List.length_append, hrl]; rfl, ?_, fun k a hk => ?_, fun a ha => ?_, fun z => ?_, same_put (S.trans S2) hM0 _⟩
      · exact List.nodup_append.mpr ⟨hnd, by simp, fun a ha b hb e => by
          rw [List.mem_singleton] at hb
          subst hb e
          exact hrn ha⟩
      · rcases Nat.lt_or_ge k rows.length with h | h
        · rw [List.getElem?_append_left h] at hk
          have h1 := hrows k a hk
          rw [upd_ne (show a ≠ M from fun z => hout (by rw [← z]; exact List.mem_of_getElem? hk))]
          exact S2 _ _ h1
        · rw [List.getElem?_append_right h] at hk
          have e1 : k = rows.length ∧ r = a := by
            cases e : k - rows.length with
            | zero => rw [e] at hk; simp at hk; exact ⟨by omega, hk⟩
            | succ x => rw [e] at hk; simp at hk
          obtain ⟨rfl, rfl⟩ := e1
          rw [upd_ne nr, hr, hrl]
          rfl
      · rcases List.mem_append.mp ha with h | h
        · exact hnew a h
        · rw [List.mem_singleton.mp h]; exact same_none S hr0
      · rcases List.mem_append.mp z with h | h
        · exact hout h
        · exact nr (List.mem_singleton.mp h).symm
  rintro H4 ⟨S, hM1, hMl, hMn, hMr, hMf, hMo, SM⟩
  have hMM : Mat H4 M S n (fun i j => decide (i = j)) := ⟨hM1, hMl, hMn, hMo, hMr⟩
  clear hM1 hMl hMn hMo hMr
  have hT4 := hT3.mono SM
  have hML4 := hML.same SM
  obtain ⟨vT4, hvT4, hvD4⟩ := id hT4
  have dRS : ∀ a ∈ R, ¬ a ∈ S := fun a ha hb => by
    obtain ⟨k, hk⟩ := List.mem_iff_getElem?.mp ha
    have h1 := hML.row k a hk
    rw [hMf a hb] at h1
    cases h1
  have nLS : ¬ L ∈ S := fun h => by
    have h1 := hML.at_
    rw [hMf L h] at h1
    cases h1
  have nMR : ¬ M ∈ R := fun h => by
    obtain ⟨k, hk⟩ := List.mem_iff_getElem?.mp h
    have h1 := hML.row k M hk
    rw [hM0] at h1
    cases h1
  have nTR : ¬ T ∈ R := fun h => by rw [hLf T h] at hvT2; cases hvT2
  have nTS : ¬ T ∈ S := fun h => by rw [hMf T h] at hvT3; cases hvT3
  have SH4 : Same H H4 := (S2.trans SL).trans SM
  have fresh : ∀ a ∈ R ++ S, H a = none := fun a ha => by
    rcases List.mem_append.mp ha with h | h
    · exact same_none S2 (hLf a h)
    · exact same_none (S2.trans SL) (hMf a h)
  have inR : ∀ {a}, a ∈ R → a ∈ R ++ S := fun h => List.mem_append.mpr (.inl h)
  have inS : ∀ {a}, a ∈ S → a ∈ R ++ S := fun h => List.mem_append.mpr (.inr h)
  have keepL : ∀ {H1 : Hp} {a : Addr} {o : HO} {l'}, Mat H1 L R n l' → a ∈ S → Mat (upd H1 a o) L R n l' := fun h ha => h.move (upd_ne fun z => nLS (by rw [z]; exact ha)) fun b hb => upd_ne fun z => dRS b hb (by rw [z]; exact ha)
  have keepM : ∀ {H1 : Hp} {a : Addr} {o : HO} {m'}, Mat H1 M S n m' → a ∈ R → Mat (upd H1 a o) M S n m' := fun h ha => h.move (upd_ne fun z => nMR (by rw [z]; exact ha)) fun b hb => upd_ne fun z => dRS _ ha (by rw [← z]; exact hb)
  have tx : ∀ {H' : Hp}, ButL (R ++ S) H4 H' → TX H4 H' := fun b a o i e => b a o (fun z => by
    rcases List.mem_append.mp z with z | z
    · obtain ⟨k, hk⟩ := List.mem_iff_getElem?.mp z
      rw [hML4.row k a hk] at e; cases e; exact i
    · obtain ⟨k, hk⟩ := List.mem_iff_getElem?.mp z
      rw [hMM.row k a hk] at e; cases e; exact i) e
  have keepT : ∀ {H' : Hp}, ButL (R ++ S) H4 H' → LD H' T ((termsF F).map Tm.da) := fun b => by
    refine ⟨vT4, b _ _ (fun z => ?_) hvT4, hvD4.mono (tx b)⟩
    rcases List.mem_append.mp z with z | z
    · exact nTR z
    · exact nTS z
  have hG4 := hG.mono SH4
  have keepG : ∀ {H' : Hp}, ButL (R ++ S) H4 H' → H' G = H4 G := fun b => by
    obtain ⟨vs, h1, _⟩ := hG
    have h2 := SH4 _ _ h1
    rw [b _ _ (fun z => by rw [fresh G z] at h1; cases h1) h2, h2]
  have mem : ∀ {i s}, (termsF F)[i]? = some s → s ∈ termsF F := fun h => List.mem_of_getElem? h
  have AR := Alike.rel F
  have TR := AlI.rel ok
  rw [hn] at TR
  have s0L : SndM n (fun i j => decide (i = j)) (AlI F) := fun i j hi hj e1 => by
    have e2 : i = j := of_decide_eq_true e1
    subst e2
    obtain ⟨s, hs⟩ : ∃ s, (termsF F)[i]? = some s := ⟨_, List.getElem?_eq_getElem (by omega)⟩
    exact ⟨s, s, hs, hs, AR.eqv.refl _ (mem hs)⟩
  have s0M : SndM n (fun i j => decide (i = j)) (MoI F) := fun i j hi hj e1 => TR.of_ _ _ hi hj (s0L i j hi hj e1)
  -- what is told
  let I := fun (H' : Hp) (l m : Nat → Nat → Bool) => ButL (R ++ S) H4 H' ∧ Mat H' L R n l ∧ Mat H' M S n m ∧ SndM n l (AlI F) ∧ SndM n m (MoI F) ∧ (∀ i, i < n → l i i = true)
  refine ⟨_, rfl, G, rfl, for_listD hG4 (fun k σ H' => ∃ (l m : Nat → Nat → Bool) (u2 u4 u5 : Option V), σ = [some (.ref G), some (.ref T), u2, some (.ref L), u4, u5, some (.ref M), none, none] ∧ I H' l m ∧
    (∀ f ∈ F.take k, f.w = .alike → l (ixOf (termsF F) f.l) (ixOf (termsF F) f.r) = true ∧ l (ixOf (termsF F) f.r) (ixOf (termsF F) f.l) = true) ∧ (∀ f ∈ F.take k, f.isM = true → m (ixOf (termsF F) f.low) (ixOf (termsF F) f.high) = true))
    ⟨_, _, _, _, _, rfl, ⟨ButL.refl _, hML4, hMM, s0L, s0M, fun i _ => decide_eq_true rfl⟩, (fun f hf => by simp at hf), fun f hf => by simp at hf⟩ (fun k σ H' h => ?_) ?_ ?_⟩
  · obtain ⟨l, m, u2, u4, u5, _, h, _⟩ := h
    exact ⟨tx h.1, keepG h.1⟩
  · rintro k y d' σ H5 hiF hy ⟨l, m, u2, u4, u5, rfl, ⟨b5, hL5, hM5, sL5, sM5, rf5⟩, ta, tm⟩
    obtain ⟨f0, hf, rfl⟩ := map_get hiF
    have hfm := List.mem_of_getElem? hf
    obtain ⟨fl, fr⟩ := fok _ hfm
    have hy0 : DaAt H5 y (.tup [.str f0.w.name, f0.l.da, f0.r.da]) := hy
    have hT5 := keepT b5
    obtain ⟨vT5, hvT5, _⟩ := id hT5
    have tk : ∀ f, f ∈ F.take (k + 1) ↔ f ∈ F.take k ∨ f = f0 := fun f => by rw [take_snoc hf]; simp
    refine ⟨_, rfl, .inl ⟨rfl, _, SqL.of hvT5⟩, _, rfl, _, 1, _, hy0, rfl, at1, fun w1 hw1 => ⟨T, w1, termsF F, f0.l, rfl, rfl, hT5, hw1, okl, okl _ (List.mem_map_of_mem fl), fl, ?_⟩⟩
    refine ⟨_, rfl, .inl ⟨rfl, _, SqL.of hvT5⟩, _, rfl, _, 2, _, hy0, rfl, at2, fun w2 hw2 => ⟨T, w2, termsF F, f0.r, rfl, rfl, hT5, hw2, okl, okl _ (List.mem_map_of_mem fr), fr, ?_⟩⟩
    obtain ⟨i, hi'⟩ : ∃ i, ixOf (termsF F) f0.l = i := ⟨_, rfl⟩
    obtain ⟨j, hj'⟩ : ∃ j, ixOf (termsF F) f0.r = j := ⟨_, rfl⟩
    have hi : i < n := by rw [← hn, ← hi']; exact ixOf_lt fl
    have hj : j < n := by rw [← hn, ← hj']; exact ixOf_lt fr
    rw [hi', hj']
    -- alike
    refine ⟨fun σ H' => ∃ l', σ = [some (.ref G), some (.ref T), some y, some (.ref L), some (.int j), some (.int i), some (.ref M), none, none] ∧ I H' l' m ∧ TX H5 H' ∧ leM n l l' ∧ (f0.w = .alike → l' i j = true ∧ l' j i = true), ?_, ?_⟩
    · refine ⟨_, rfl, _, 0, _, hy0, rfl, at0, fun w hw => ?_⟩
      obtain rfl := hw.str_inv
      refine ⟨rfl, _, rfl, ?_⟩
      refine ite2 (fun c => ?_) (fun c => ?_)
      · have e1 : f0.w = .alike := by
          have := of_decide_eq_true c
          injection this with this
          exact Wd.name_inj (b := .alike) this
        have al : AlI F i j := by rw [← hi', ← hj']; exact AlI.of fl fr (AR.told _ hfm e1)
        obtain ⟨a, ha1, ha2, ha3, ha4⟩ := hL5.at hi
        refine ⟨_, rfl, _, rfl, L, _, _, _, rfl, rfl, SqL.of hL5.at_, atI_nat ha2, _, rfl, a, _, _, j, rfl, rfl, ha3, by rw [rowV_len]; exact ixn_nat hj, ?_⟩
        have hL6 := hL5.put (j := j) ha1
        have hM6 := keepM (o := .lst ((rowV n (l i)).set j (.bl true))) hM5 ha4
        have b6 := b5.trans (ButL.put (inR ha4) _ (.lst ((rowV n (l i)).set j (.bl true))))
        have t6 : TX H5 (upd H5 a (.lst ((rowV n (l i)).set j (.bl true)))) := TX.lst ha3
        generalize upd H5 a (.lst ((rowV n (l i)).set j (.bl true))) = H6 at hL6 hM6 b6 t6 ⊢
        obtain ⟨a', hb1, hb2, hb3, hb4⟩ := hL6.at hj
        refine ⟨_, rfl, _, rfl, L, _, _, _, rfl, rfl, SqL.of hL6.at_, atI_nat hb2, _, rfl, a', _, _, i, rfl, rfl, hb3, by rw [rowV_len]; exact ixn_nat hi, ?_⟩
        refine ⟨_, rfl, ⟨b6.trans (ButL.put (inR hb4) _ _), hL6.put hb1, keepM hM6 hb4, (sL5.set al).set (TR.symm _ _ hi hj al), sM5, fun x hx => setM_le (setM_le (rf5 x hx))⟩, t6.trans (TX.lst hb3), (leM.set _ _ _ _).trans (leM.set _ _ _ _), fun _ => ⟨setM_le (setM_at _ _ _), setM_at _ _ _⟩⟩
      · have e1 : ¬ f0.w = .alike := fun z => c (decide_eq_true (by rw [z]; rfl))
        exact ⟨l, rfl, ⟨b5, hL5, hM5, sL5, sM5, rf5⟩, TX.refl _, leM.refl _ _, fun z => absurd z e1⟩
    rintro σ H6 ⟨l6, rfl, ⟨b6, hL6, hM6, sL6, sM6, rf6⟩, t56, le6, al6⟩
    have hy6 := hy0.mono t56
    -- most
    refine ⟨fun σ H' => ∃ m', σ = [some (.ref G), some (.ref T), some y, some (.ref L), some (.int j), some (.int i), some (.ref M), none, none] ∧ I H' l6 m' ∧ TX H5 H' ∧ leM n m m' ∧ (f0.w = .most → m' i j = true), ?_, ?_⟩
    · refine ⟨_, rfl, _, 0, _, hy6, rfl, at0, fun w hw => ?_⟩
      obtain rfl := hw.str_inv
      refine ⟨rfl, _, rfl, ?_⟩
      refine ite2 (fun c => ?_) (fun c => ?_)
      · have e1 : f0.w = .most := by
          have := of_decide_eq_true c
          injection this with this
          exact Wd.name_inj (b := .most) this
        have al : MoI F i j := by
          rw [← hi', ← hj']
          have := AR.ring.told _ hfm (by unfold Fc.isM; rw [e1]; rfl)
          unfold Fc.low Fc.high at this
          rw [e1] at this
          exact MoI.of fl fr this
        obtain ⟨a, ha1, ha2, ha3, ha4⟩ := hM6.at hi
        refine ⟨_, rfl, _, rfl, M, _, _, _, rfl, rfl, SqL.of hM6.at_, atI_nat ha2, _, rfl, a, _, _, j, rfl, rfl, ha3, by rw [rowV_len]; exact ixn_nat hj, ?_⟩
        exact ⟨_, rfl, ⟨b6.trans (ButL.put (inS ha4) _ _), keepL hL6 ha4, hM6.put ha1, sL6, sM6.set al, rf6⟩, t56.trans (TX.lst ha3), leM.set _ _ _ _, fun _ => setM_at _ _ _⟩
      · have e1 : ¬ f0.w = .most := fun z => c (decide_eq_true (by rw [z]; rfl))
        exact ⟨m, rfl, ⟨b6, hL6, hM6, sL6, sM6, rf6⟩, t56, leM.refl _ _, fun z => absurd z e1⟩
    rintro σ H7 ⟨m7, rfl, ⟨b7, hL7, hM7, sL7, sM7, rf7⟩, t57, le7, mo7⟩
    have hy7 := hy0.mono t57
    -- over
    have fin : ∀ m8, leM n m7 m8 → (f0.w = .over → m8 j i = true) → (∀ f ∈ F.take (k + 1), f.w = .alike → l6 (ixOf (termsF F) f.l) (ixOf (termsF F) f.r) = true ∧ l6 (ixOf (termsF F) f.r) (ixOf (termsF F) f.l) = true) ∧ (∀ f ∈ F.take (k + 1), f.isM = true → m8 (ixOf (termsF F) f.low) (ixOf (termsF F) f.high) = true) := fun m8 le8 ov => by
      have lt : ∀ {s}, s ∈ termsF F → ixOf (termsF F) s < n := fun h => by rw [← hn]; exact ixOf_lt h
      refine ⟨fun f hf' e2 => ?_, fun f hf' e2 => ?_⟩
      · rcases (tk f).mp hf' with h | rfl
        · obtain ⟨g1, g2⟩ := fok f (List.mem_of_mem_take h)
          exact ⟨le6 _ _ (lt g1) (lt g2) (ta f h e2).1, le6 _ _ (lt g2) (lt g1) (ta f h e2).2⟩
        · rw [hi', hj']; exact al6 e2
      · rcases (tk f).mp hf' with h | rfl
        · obtain ⟨g1, g2⟩ := low_mem fok (List.mem_of_mem_take h)
          exact le8 _ _ (lt g1) (lt g2) (le7 _ _ (lt g1) (lt g2) (tm f h e2))
        · cases e3 : f.w with
          | alike => unfold Fc.isM at e2; rw [e3] at e2; cases e2
          | unlike => unfold Fc.isM at e2; rw [e3] at e2; cases e2
          | most =>
            unfold Fc.low Fc.high
            rw [e3, if_neg (by decide), if_neg (by decide), hi', hj']
            exact le8 _ _ hi hj (mo7 e3)
          | over =>
            unfold Fc.low Fc.high
            rw [e3, if_pos rfl, if_pos rfl, hi', hj']
            exact ov e3
    refine ⟨_, rfl, _, 0, _, hy7, rfl, at0, fun w hw => ?_⟩
    obtain rfl := hw.str_inv
    refine ⟨rfl, _, rfl, ?_⟩
    refine ite2 (fun c => ?_) (fun c => ?_)
    · have e1 : f0.w = .over := by
        have := of_decide_eq_true c
        injection this with this
        exact Wd.name_inj (b := .over) this
      have al : MoI F j i := by
        rw [← hi', ← hj']
        have := AR.ring.told _ hfm (by unfold Fc.isM; rw [e1]; rfl)
        unfold Fc.low Fc.high at this
        rw [e1] at this
        exact MoI.of fr fl this
      obtain ⟨a, ha1, ha2, ha3, ha4⟩ := hM7.at hj
      refine ⟨_, rfl, _, rfl, M, _, _, _, rfl, rfl, SqL.of hM7.at_, atI_nat ha2, _, rfl, a, _, _, i, rfl, rfl, ha3, by rw [rowV_len]; exact ixn_nat hi, ?_⟩
      obtain ⟨f1, f2⟩ := fin _ (leM.set n m7 j i) fun _ => setM_at _ _ _
      exact ⟨l6, _, _, _, _, rfl, ⟨b7.trans (ButL.put (inS ha4) _ _), keepL hL7 ha4, hM7.put ha1, sL7, sM7.set al, rf7⟩, f1, f2⟩
    · have e1 : ¬ f0.w = .over := fun z => c (decide_eq_true (by rw [z]; rfl))
      obtain ⟨f1, f2⟩ := fin m7 (leM.refl _ _) fun z => absurd z e1
      exact ⟨l6, m7, _, _, _, rfl, ⟨b7, hL7, hM7, sL7, sM7, rf7⟩, f1, f2⟩
  rintro σ H5 ⟨l0, m0, u2', u4', u5', rfl, ⟨b5, hL5, hM5, sL5, sM5, rf5⟩, ta, tm⟩
  rw [List.length_map, List.take_length] at ta tm
  have lt : ∀ {s}, s ∈ termsF F → ixOf (termsF F) s < n := fun h => by rw [← hn]; exact ixOf_lt h
  have told0 : TabTold F l0 m0 := ⟨fun i hi => rf5 i (by omega), ta, tm⟩
  have told : ∀ {l m}, leM n l0 l → leM n m0 m → TabTold F l m := fun h1 h2 => ⟨fun i hi => h1 _ _ (by omega) (by omega) (told0.reflL i hi), fun f hf e1 => ⟨h1 _ _ (lt (fok f hf).1) (lt (fok f hf).2) (told0.alike f hf e1).1, h1 _ _ (lt (fok f hf).2) (lt (fok f hf).1) (told0.alike f hf e1).2⟩, fun f hf e1 => h2 _ _ (lt (low_mem fok hf).1) (lt (low_mem fok hf).2) (told0.most f hf e1)⟩
  -- until nothing more comes
  refine ⟨fun σ H' => ∃ (l m : Nat → Nat → Bool) (u2 u4 u5 u8 : Option V), σ = [some (.ref G), some (.ref T), u2, some (.ref L), u4, u5, some (.ref M), some (.bl false), u8] ∧ I H' l m ∧ leM n l0 l ∧ leM n m0 m ∧ TabDone F l m, ?_, ?_⟩
  · refine ⟨fun k σ H' => ∃ (c : Bool) (l m : Nat → Nat → Bool) (u2 u4 u5 u8 : Option V), σ = [some (.ref G), some (.ref T), u2, some (.ref L), u4, u5, some (.ref M), some (.bl c), u8] ∧ k = fM n l + fM n m + (if c = true then 1 else 0) ∧ I H' l m ∧ leM n l0 l ∧ leM n m0 m ∧ (c = false → TabDone F l m),
      ⟨_, true, l0, m0, _, _, _, _, rfl, rfl, ⟨b5, hL5, hM5, sL5, sM5, rf5⟩, leM.refl _ _, leM.refl _ _, fun z => by cases z⟩, ?_⟩
    rintro k σ H6 ⟨c, l, m, u2, u4, u5, u8, rfl, rfl, ⟨b6, hL6, hM6, sL6, sM6, rf6⟩, leL6, leM6, dn⟩
    refine ⟨_, rfl, _, rfl, ?_⟩
    cases c with
    | false => exact ⟨l, m, _, _, _, _, rfl, ⟨b6, hL6, hM6, sL6, sM6, rf6⟩, leL6, leM6, dn rfl⟩
    | true =>
      refine ⟨_, fun σ' H' q => q, ?_⟩
      refine ⟨_, rfl, _, rfl, _, rfl, T, L, M, R, S, n, l, m, termsF F, AlI F, MoI F, rfl, keepT b6, ok, okl, hn, hL6, hM6, dRS, nLS, nMR, nTR, nTS, TR, sL6, sM6, fun l7 m7 c7 H7 b7 hL7 hM7 p7 => ?_⟩
      refine ⟨_, rfl, _, rfl, by show 2 ≤ sizeLine; decide, fun W hW0 => ?_⟩
      generalize hH8 : upd H7 W (.lst [V.ref L, V.ref M]) = H8
      have S8 : Same H7 H8 := by rw [← hH8]; exact same_new hW0 _
      have hW8 : H8 W = some (.lst [V.ref L, V.ref M]) := by rw [← hH8]; exact upd_same
      clear hH8
      have nWR : ¬ W ∈ R ++ S := fun z => by
        rcases List.mem_append.mp z with z | z
        · obtain ⟨k, hk⟩ := List.mem_iff_getElem?.mp z
          rw [hL7.row k W hk] at hW0; cases hW0
        · obtain ⟨k, hk⟩ := List.mem_iff_getElem?.mp z
          rw [hM7.row k W hk] at hW0; cases hW0
      refine ⟨W, rfl, ⟨_, SqL.of hW8⟩, for_list (xs := [V.ref L, V.ref M]) (fun i σ H' => ∃ (c : Bool) (l' m' : Nat → Nat → Bool) (u8 : Option V), σ = [some (.ref G), some (.ref T), u2, some (.ref L), u4, u5, some (.ref M), some (.bl c), u8] ∧ ButL (R ++ S) H8 H' ∧ Mat H' L R n l' ∧ Mat H' M S n m' ∧
        Pass2 n (AlI F) (MoI F) l l' m m' c ((∀ i j, i < n → j < n → TabCl (termsF F) l m i j) ∧ (0 < i → TrnR n fun i j => l i j = true) ∧ (1 < i → TrnR n fun i j => m i j = true)))
        ⟨c7, l7, m7, _, rfl, ButL.refl _, hL7.same S8, hM7.same S8, p7.imp fun _ _ h => ⟨h, (fun z => by omega), fun z => by omega⟩⟩ (fun i σ H' _ h => ?_) ?_ ?_⟩
      · obtain ⟨_, _, _, _, _, b, _⟩ := h
        exact SqL.of (b _ _ nWR hW8)
      · rintro i x σ H9 hx ⟨c9, l9, m9, u8', rfl, b9, hL9, hM9, p9⟩
        have hi2 : i = 0 ∨ i = 1 := by
          have := (List.getElem?_eq_some_iff.mp hx).1
          simp only [List.length_cons, List.length_nil] at this
          omega
        rcases hi2 with rfl | rfl
        · have hx : V.ref L = x := Option.some.inj hx
          subst hx
          refine ⟨_, rfl, L, R, n, l9, AlI F, rfl, hL9, by omega, AlI.trans, p9.sndL, fun l' d H' b hL' pd => ?_⟩
          have pp := (p9.thenL pd).imp (Cl' := (∀ i j, i < n → j < n → TabCl (termsF F) l m i j) ∧ (0 < 0 + 1 → TrnR n fun i j => l i j = true) ∧ (1 < 0 + 1 → TrnR n fun i j => m i j = true)) fun _ _ h => ⟨h.1.1, fun _ => h.2.1.congr h.2.2, fun z => by omega⟩
          have bb := b9.trans (b.mono fun a ha => inR ha)
          have hM' := hM9.keep b nMR fun a ha hb => dRS a hb ha
          refine ⟨d, rfl, ?_⟩
          cases d with
          | true => exact ⟨true, l', m9, _, rfl, bb, hL', hM', pp⟩
          | false => exact ⟨_, rfl, c9, l', m9, _, rfl, bb, hL', hM', pp⟩
        · have hx : V.ref M = x := Option.some.inj hx
          subst hx
          refine ⟨_, rfl, M, S, n, m9, MoI F, rfl, hM9, by omega, MoI.trans, p9.sndM, fun m' d H' b hM' pd => ?_⟩
          have pp := (p9.thenM pd).imp (Cl' := (∀ i j, i < n → j < n → TabCl (termsF F) l m i j) ∧ (0 < 1 + 1 → TrnR n fun i j => l i j = true) ∧ (1 < 1 + 1 → TrnR n fun i j => m i j = true)) fun _ _ h => ⟨h.1.1, fun _ => h.1.2.1 (by omega), fun _ => h.2.1.congr h.2.2⟩
          have bb := b9.trans (b.mono fun a ha => inS ha)
          have hL' := hL9.keep b nLS dRS
          refine ⟨d, rfl, ?_⟩
          cases d with
          | true => exact ⟨true, l9, m', _, rfl, bb, hL', hM', pp⟩
          | false => exact ⟨_, rfl, c9, l9, m', _, rfl, bb, hL', hM', pp⟩
      · rintro σ H9 ⟨c9, l9, m9, u8', rfl, b9, hL9, hM9, p9⟩
        have bb := (b6.trans b7).trans ((ButL.of S8).trans b9)
        refine ⟨_, ?_, c9, l9, m9, _, _, _, _, rfl, rfl, ⟨bb, hL9, hM9, p9.sndL, p9.sndM, fun i hi => p9.leL _ _ hi hi (rf6 i hi)⟩, leL6.trans p9.leL, leM6.trans p9.leM, fun z => ?_⟩
        · show _ < _ + 1
          have h1 := fM_le p9.leL
          have h2 := fM_le p9.leM
          cases c9 with
          | false => show _ + 0 < _; omega
          | true =>
            have := p9.lt rfl
            show _ + 1 < _
            omega
        · obtain ⟨e1, d1, d2, d3⟩ := p9.done z
          have d2' := (d2 (by simp)).congr fun i j hi hj => ((e1 i j hi hj).1).symm
          have d3' := (d3 (by simp)).congr fun i j hi hj => ((e1 i j hi hj).2).symm
          refine ⟨fun i j hi hj => ?_, by rw [hn]; exact d2', by rw [hn]; exact d3'⟩
          rw [hn] at hi hj
          obtain ⟨t1, t2, t3⟩ := d1 i j hi hj
          refine ⟨?_, ?_, fun z => ?_⟩
          · rw [(e1 i j hi hj).1, (e1 i j hi hj).2]; exact t1
          · rw [(e1 i j hi hj).1, (e1 i j hi hj).2, (e1 j i hj hi).2]; exact t2
          · rw [(e1 i j hi hj).1]
            exact t3 (z.imp ok hn fun x y hx hy h => by
              show l x y = true
              rw [← (e1 x y hx hy).1]
              exact h)
  · rintro σ H6 ⟨l, m, u2, u4, u5, u8, rfl, ⟨b6, hL6, hM6, sL6, sM6, rf6⟩, leL6, leM6, dn⟩
    refine ⟨_, rfl, _, rfl, _, rfl, by show 3 ≤ sizeLine; decide, fun p hp => ?_⟩
    have S6 := same_new hp (.tup [V.ref T, V.ref L, V.ref M])
    have SH6 : Same H H6 := b6.same SH4 fresh
    refine q p T L M R _ l (same_none SH6 hp) (SH6.trans S6) upd_same ((keepT b6).mono S6) (by rw [hn]; exact hL6.same S6) fun s hs t ht => ⟨fun z => AlI.inv hs ht (sL6 _ _ (lt hs) (lt ht) z), fun z => ?_⟩
    exact (z _ _ (dn.rel fok ok (told leL6 leM6))).1
end

abbrev s__law_stand : Stmt := top 57
theorem sc__law_stand : FnScope ["_law_facts_here", "_law_terms", "_law_like", "_law_most", "_law_fact_here"] ["_law_facts_here"] (defScope s__law_stand) := ⟨rfl, rfl, rfl, by decide +kernel, rfl, by decide +kernel, by decide +kernel⟩
theorem LD.at_ {H : Hp} {a : Addr} {l : List Da} (h : LD H a l) : ∃ vs, H a = some (.lst vs) ∧ DasAt H vs l := h
def spLStand : Sp := fun vs H Q _ => ∃ (G : Addr) (F : List Fc), vs = [.ref G] ∧ LD H G (F.map Fc.da) ∧ (∀ f ∈ F, f.lit) ∧ F.length ≤ 500 ∧ ∀ b H', Same H H' → (b = true ↔ Stands F) → Q (.bl b) H'
theorem Fc.lit.ok {f : Fc} (h : f.lit) : okT f.l ∧ okT f.r := ⟨⟨Tm.good_ok h.good.1, Nat.le_trans h.dl (by decide), Nat.le_trans h.cl (by decide)⟩, ⟨Tm.good_ok h.good.2, Nat.le_trans h.dr (by decide), Nat.le_trans h.cr (by decide)⟩⟩
theorem termsF_okL {F : List Fc} (lit : ∀ f ∈ F, f.lit) : okL ((termsF F).map Tm.da) := okL_map fun v hv => by
  obtain ⟨f1, hf1, h1⟩ := termsF_mem.mp hv
  obtain ⟨k1, k2⟩ := (lit f1 hf1).ok
  rcases h1 with h1 | h1
  · exact k1.subs h1
  · exact k2.subs h1
section
variable {e : Ev} (B : Bl e)
include B
theorem ok_lstand (A__law_stand : At e "_law_stand" ["_law_facts_here"] s__law_stand) (h__law_table : Has e 9 "_law_table" ["_law_facts_here"] spTable) : Has e 10 "_law_stand" ["_law_facts_here"] spLStand := by
  refine A__law_stand.ok (k := 9) sc__law_stand (fun vs H Q E h => ?_) (fun f cdv Ar outer s0 H vs Q E hr h => ?_)
  · obtain ⟨_, _, rfl, _⟩ := h
    rfl
  obtain ⟨G, F, rfl, hG, lit, hF5, q⟩ := h
  have nd := sc__law_stand.nd
  have hls := sizeLine_eq
  refine ⟨_, pss_cons (ps_asg (pe_callH h__law_table hr (pa_cons (pv 0) pa_nil)) (pg_tup (by rfl) (pgs_cons (pg_nm 1 nd) (pgs_cons (pg_nm 2 nd) (pgs_cons (pg_nm 3 nd) pgs_nil)))))
    (pss_cons (ps_for PassesOwn.never rfl (pi_list (pv 0)) (pg_nm 4 nd)
      (pss_one (ps_if (PW.pt (pw_and (pt_cmpR op_in_seq (pe_ix ix_tupD (pv 4) pe_int (fun _ _ => rfl)) (pe_lstA (pa_cons pe_str (pa_cons pe_str pa_nil))) (by rfl)) (pw_and1 (pt_val (pe_ix ix_list (pe_ix ix_list (pv 2) (pe_bm PySem.F.plainAttrs_list PySem.F.slot_list_index PySem.F.type_list_index (mt_indexT (hu65 hr)) (pv 1) (pa_cons (pe_ix ix_tupD (pv 4) pe_int (fun _ _ => rfl)) pa_nil)) (fun _ _ => rfl)) (pe_bm PySem.F.plainAttrs_list PySem.F.slot_list_index PySem.F.type_list_index (mt_indexT (hu65 hr)) (pv 1) (pa_cons (pe_ix ix_tupD (pv 4) pe_int (fun _ _ => rfl)) pa_nil)) (fun _ _ => rfl))))))
        (pss_one (ps_ret pe_bl))
        (pss_nil))))
    (pss_one (ps_ret pe_bl))), ?_⟩
  have ok := termsF_ok lit hF5
  have fok := termsF_fs F
  have okl := termsF_okL lit
  refine ⟨_, rfl, G, F, rfl, hG, lit, hF5, fun p T L M R H1 l hp S1 hp1 hT hL htab => ?_⟩
  refine ⟨p, _, rfl, SqT.of hp1, rfl, _, _, rfl, _, _, rfl, _, _, rfl, rfl, ?_⟩
  obtain ⟨n, hn⟩ : ∃ n, (termsF F).length = n := ⟨_, rfl⟩
  rw [hn] at hL
  have hG1 := hG.mono S1
  refine ⟨_, rfl, G, rfl, for_listD hG1 (fun i σ H' => (∃ u, σ = [some (.ref G), some (.ref T), some (.ref L), some (.ref M), u]) ∧ Same H1 H' ∧ ∀ f ∈ F.take i, (f.w = .unlike ∨ f.w = .over) → ¬ Alike F f.l f.r) ⟨⟨_, rfl⟩, Same.refl _, fun f hf => by simp at hf⟩
    (fun i σ H' h => ⟨TX.of_same h.2.1, by obtain ⟨vs, h1, _⟩ := hG1; rw [h.2.1 _ _ h1, h1]⟩) ?_ ?_⟩
  · rintro i y d' σ H2 hiF hy ⟨⟨u, rfl⟩, S2, ih⟩
    obtain ⟨f0, hf, rfl⟩ := map_get hiF
    have hfm := List.mem_of_getElem? hf
    obtain ⟨fl, fr⟩ := fok _ hfm
    have hy0 : DaAt H2 y (.tup [.str f0.w.name, f0.l.da, f0.r.da]) := hy
    have tk : ∀ f, f ∈ F.take (i + 1) ↔ f ∈ F.take i ∨ f = f0 := fun f => by rw [take_snoc hf]; simp
    refine ⟨_, rfl, _, 0, _, hy0, rfl, at0, fun w hw => ?_⟩
    obtain rfl := hw.str_inv
    refine ⟨by simp only [List.length_cons, List.length_nil]; omega, fun W H3 hW S3 hW3 => ?_⟩
    refine ⟨W, _, rfl, .inl (SqL.of hW3), rfl, rfl, _, rfl, ?_⟩
    have e1 : inV (V.str f0.w.name) [V.str "unlike", V.str "over"] = (f0.w == .unlike || f0.w == .over) := by cases f0.w <;> decide +kernel
    rw [e1]
    have S13 := S2.trans S3
    cases hb : (f0.w == .unlike || f0.w == .over) with
    | false =>
      refine ⟨⟨_, rfl⟩, S13, fun f hf' hw' => ?_⟩
      rcases (tk f).mp hf' with h | rfl
      · exact ih f h hw'
      · rcases hw' with h | h <;> rw [h] at hb <;> exact absurd hb (by decide)
    | true =>
      have hw' : f0.w = .unlike ∨ f0.w = .over := by
        cases e2 : f0.w with
        | alike => rw [e2] at hb; exact absurd hb (by decide)
        | most => rw [e2] at hb; exact absurd hb (by decide)
        | unlike => exact .inl rfl
        | over => exact .inr rfl
      have hL3 := hL.same S13
      have hT3 := hT.mono S13
      obtain ⟨vT, hvT, _⟩ := id hT3
      have hy3 := hy0.mono (TX.of_same S3)
      have i1 : ixOf (termsF F) f0.l < n := by rw [← hn]; exact ixOf_lt fl
      have i2 : ixOf (termsF F) f0.r < n := by rw [← hn]; exact ixOf_lt fr
      obtain ⟨a, ha1, ha2, ha3, _⟩ := hL3.at i1
      refine ⟨_, rfl, _, rfl, .inl ⟨rfl, _, SqL.of hvT⟩, _, rfl, _, 1, _, hy3, rfl, at1, fun w1 hw1 => ⟨T, w1, termsF F, f0.l, rfl, rfl, hT3, hw1, okl, okl _ (List.mem_map_of_mem fl), fl, ?_⟩⟩
      refine ⟨L, _, _, _, rfl, rfl, SqL.of hL3.at_, atI_nat ha2, ?_⟩
      refine ⟨_, rfl, .inl ⟨rfl, _, SqL.of hvT⟩, _, rfl, _, 2, _, hy3, rfl, at2, fun w2 hw2 => ⟨T, w2, termsF F, f0.r, rfl, rfl, hT3, hw2, okl, okl _ (List.mem_map_of_mem fr), fr, ?_⟩⟩
      refine ⟨a, _, _, _, rfl, rfl, SqL.of ha3, atI_nat (rowV_get _ i2), _, rfl, ?_⟩
      have key := htab _ fl _ fr
      cases hl : l (ixOf (termsF F) f0.l) (ixOf (termsF F) f0.r) with
      | true => exact q false _ (S1.trans S13) ⟨(fun z => by cases z), fun z => absurd (key.mp hl) (z f0 hfm hw')⟩
      | false =>
        refine ⟨⟨_, rfl⟩, S13, fun f hf' hw2 => ?_⟩
        rcases (tk f).mp hf' with h | rfl
        · exact ih f h hw2
        · exact fun z => by rw [key.mpr z] at hl; cases hl
  · rintro σ H2 ⟨⟨u, rfl⟩, S2, ih⟩
    rw [List.length_map, List.take_length] at ih
    exact q true _ (S1.trans S2) ⟨fun _ => ih, fun _ => rfl⟩
end

abbrev s__law_facts : Stmt := top 51
theorem sc__law_facts : FnScope ["_law_d", "_law_works_here", "_law_most", "_law_k"] ["_law_d", "_law_works_here", "_law_most"] (defScope s__law_facts) := ⟨rfl, rfl, rfl, by decide +kernel, rfl, by decide +kernel, by decide +kernel⟩
/-- facts that a law draws -/
structure Fc.drawn (f : Fc) : Prop where
  good : f.good
  dl : f.l.depth ≤ 3
  dr : f.r.depth ≤ 3
  cl : f.l.count ≤ 19
  cr : f.r.count ≤ 19
theorem Fc.drawn.lit {f : Fc} (h : f.drawn) : f.lit := ⟨h.good, Nat.le_trans h.dl (by decide), Nat.le_trans h.dr (by decide), Nat.le_trans h.cl (by decide), Nat.le_trans h.cr (by decide)⟩
theorem drawn_okL {F : List Fc} (h : ∀ f ∈ F, f.drawn) : okL (F.map Fc.da) := fun d hd => by
  obtain ⟨f, hf, rfl⟩ := List.mem_map.mp hd
  have := h f hf
  exact Fc.okD this.good ⟨Nat.le_trans this.dl (by decide), Nat.le_trans this.dr (by decide)⟩
/-- drawn facts, a new list -/
def spFacts (K : PySem.W.Frag) : Sp := fun vs H Q _ => ∃ (d l : Addr) (ds : List Da) (most : Int), vs = [.ref d, .ref l, .int most] ∧ DiceAt K H d ∧ LD H l ds ∧ WorksD ds ∧ 0 ≤ most ∧ most < 100 ∧
  ∀ (p : Addr) (F : List Fc) H', H p = none → But d H H' → DiceAt K H' d → LD H' p (F.map Fc.da) → (∀ f ∈ F, f.drawn) → (F.length : Int) ≤ most → Q (.ref p) H'
section
variable {e : Ev} (B : Bl e)
include B
theorem ok_facts (A__law_facts : At e "_law_facts" ["_law_d", "_law_works_here", "_law_most"] s__law_facts) (h__law_off : Has e 2 "_law_off" ["_law_d", "_law_most"] (spOff e.K)) (h__law_fact : Has e 6 "_law_fact" ["_law_d", "_law_works_here", "_law_deep"] (spFact e.K 3)) : Has e 7 "_law_facts" ["_law_d", "_law_works_here", "_law_most"] (spFacts e.K) := by
  refine A__law_facts.ok (k := 6) sc__law_facts (fun vs H Q E h => ?_) (fun f cdv A outer s H vs Q E hr h => ?_)
  · obtain ⟨d, l, ds, m, rfl, _⟩ := h
    rfl
  obtain ⟨d, l, ds, most, rfl, hD, hL, hW, h0, h1, q⟩ := h
  have nd := sc__law_facts.nd
  have hls := sizeLine_eq
  refine ⟨_, pss_one (ps_ret (pe_lc (own := [("_law_k", 3)]) (by rfl) nd (pi_range1 (by rfl) B.range (pa_cons (pe_callH h__law_off hr (pa_cons (pv 0) (pa_cons (pe_op op_add (pv 2) pe_int) pa_nil))) pa_nil)) (blkOk_by (N := ["_law_d", "_law_works_here", "_law_most", "_law_k"]) (sc := defScope s__law_facts) (by decide +kernel)) (fun _ _ _ _ _ => pg_nm 3 nd) (fun _ _ _ _ _ => pts_nil) (fun _ _ _ _ _ => pe_callH h__law_fact hr (pa_cons (pv 0) (pa_cons (pv 1) (pa_cons (pe_op op_add pe_int (pe_ty call_int1 B.int (pa_cons (pe_cmpR op_eq (pe_callH h__law_off hr (pa_cons (pv 0) (pa_cons pe_int pa_nil))) pe_int (nomark _)) pa_nil))) pa_nil)))))), ?_⟩
  have ndl := works_ne hD hL hW
  refine ⟨_, rfl, _, rfl, _, _, rfl, rfl, d, most + 1, rfl, hD, by omega, by omega, fun m H1 m0 m1 B1 D1 => ?_⟩
  refine ⟨m, rfl, by omega, by omega, fun R hR => lc_range (n := m.toNat) (fun i H' => ∃ (acc : List V) (F : List Fc), H' R = some (.lst acc) ∧ But d H1 H' ∧ DiceAt e.K H' d ∧ DasAt H' acc (F.map Fc.da) ∧ F.length = i ∧ ∀ f ∈ F, f.drawn) ?_ ?_ ?_⟩
  · have S4 := same_new hR (.lst [])
    exact ⟨[], [], upd_same, But.of S4, D1.same S4, .nil, rfl, fun f hf => by simp at hf⟩
  · rintro i H' hi ⟨acc, F, hRl, T, D, hA, hl, hg⟩
    have hLi := LD.but T D1 ndl (hL.but B1 hD ndl)
    refine ⟨rfl, _, rfl, _, rfl, _, rfl, d, 4, rfl, D, by decide, by decide, fun k H2 k0 k1 B2 D2 => ⟨rfl, .inr ⟨_, rfl, ?_⟩⟩⟩
    have hL2 := hLi.but B2 D ndl
    have nRd : R ≠ d := fun z => by
      obtain ⟨_, hd3⟩ := D1.lst
      rw [z, hd3] at hR
      cases hR
    have hb : (if decide (V.int k = V.int 0) = true then (1 : Int) else 0) = 0 ∨ (if decide (V.int k = V.int 0) = true then (1 : Int) else 0) = 1 := by split <;> simp
    refine ⟨_, _, rfl, rfl, d, l, ds, 1 + (if decide (V.int k = V.int 0) = true then (1 : Int) else 0), rfl, D2, hL2, hW, by omega, by omega, fun v f H3 B3 D3 hv g1 c1 c2 n1 n2 => ?_⟩
    have hR3 := B3 _ _ nRd (B2 _ _ nRd hRl)
    have X := TX.lst (o := .lst (acc ++ [v])) hR3
    have hp : 5 * 2 ^ (1 + (if decide (V.int k = V.int 0) = true then (1 : Int) else 0)).toNat ≤ 20 := by
      rcases hb with h | h <;> rw [h] <;> decide
    refine ⟨acc, hR3, ?_, acc ++ [v], F ++ [f], upd_same, ?_, ?_, ?_, ?_, ?_⟩
    · rw [hA.length, List.length_map]
      omega
    · exact fun b o nb hb' => by
        have h2 := B3 _ _ nb (B2 _ _ nb (T _ _ nb hb'))
        rw [upd_ne (ne_of_none hb' hR)]
        exact h2
    · exact D3.tx X (upd_ne nRd.symm)
    · rw [List.map_append]
      exact (((hA.mono (B2.tx D)).mono (B3.tx D2)).append (.one hv)).mono X
    · rw [List.length_append, hl]; rfl
    · intro f' hf'
      rcases List.mem_append.mp hf' with z | z
      · exact hg f' z
      · rw [List.mem_singleton.mp z]
        exact ⟨g1, by omega, by omega, by omega, by omega⟩
  · rintro H' ⟨acc, F, hRl, T, D, hA, hl, hg⟩
    have hR0 : H R = none := by
      cases e1 : H R with
      | none => rfl
      | some o =>
        have : R ≠ d := fun z => by
          obtain ⟨_, hd3⟩ := D1.lst
          rw [z, hd3] at hR
          cases hR
        rw [B1 _ _ this e1] at hR
        cases hR
    exact q R F H' hR0 (B1.trans T) D ⟨acc, hRl, hA⟩ hg (by omega)
end

/-! ### what stands together, of fewer facts -/
theorem Alike.mono {F F' : List Fc} (h : ∀ f ∈ F, f ∈ F') {s t : Tm} (a : Alike F s t) : Alike F' s t := fun A M R => by
  have ht : ∀ u ∈ termsF F, u ∈ termsF F' := fun u hu => by
    obtain ⟨f, hf, h1⟩ := termsF_mem.mp hu
    exact termsF_mem.mpr ⟨f, h f hf, h1⟩
  exact a A M ⟨fun f hf e => R.told f (h f hf) e, ⟨fun u hu => R.eqv.refl u (ht u hu), fun u hu v hv => R.eqv.symm u (ht u hu) v (ht v hv), fun u hu v hv w hw => R.eqv.trans u (ht u hu) v (ht v hv) w (ht w hw)⟩,
    fun s hs t ht' => R.parts s (ht s hs) t (ht t ht'),
    ⟨fun f hf e => R.ring.told f (h f hf) e, fun u hu v hv => R.ring.of_ u (ht u hu) v (ht v hv), fun u hu v hv w hw => R.ring.trans u (ht u hu) v (ht v hv) w (ht w hw), fun u hu v hv => R.ring.ring u (ht u hu) v (ht v hv)⟩⟩
theorem Stands.mono {F F' : List Fc} (h : ∀ f ∈ F, f ∈ F') (s : Stands F') : Stands F := fun f hf hw a => s f (h f hf) hw (a.mono h)
theorem Stands.congr {F F' : List Fc} (h : ∀ f, f ∈ F ↔ f ∈ F') : Stands F ↔ Stands F' := ⟨fun s => s.mono fun f hf => (h f).mpr hf, fun s => s.mono fun f hf => (h f).mp hf⟩
/-- the facts at some places -/
def rowsF (F : List Fc) (ns : List Nat) : List Fc := ns.filterMap fun i => F[i]?
theorem rowsF_mem {F : List Fc} {ns : List Nat} {f : Fc} : f ∈ rowsF F ns ↔ ∃ i ∈ ns, F[i]? = some f := by simp [rowsF]
theorem rowsF_in {F : List Fc} {ns : List Nat} {f : Fc} (h : f ∈ rowsF F ns) : f ∈ F := by
  obtain ⟨i, _, h⟩ := rowsF_mem.mp h
  exact List.mem_of_getElem? h
theorem rowsF_len (F : List Fc) (ns : List Nat) : (rowsF F ns).length ≤ ns.length := List.length_filterMap_le _ _
theorem rowsF_all {F : List Fc} {f : Fc} : f ∈ rowsF F (List.range F.length) ↔ f ∈ F := by
  refine ⟨rowsF_in, fun h => ?_⟩
  obtain ⟨i, hi, e⟩ := List.mem_iff_getElem.mp h
  exact rowsF_mem.mpr ⟨i, List.mem_range.mpr hi, by rw [List.getElem?_eq_getElem hi, e]⟩
theorem rowsF_mono {F : List Fc} {ns ms : List Nat} (h : ∀ n ∈ ns, n ∈ ms) : ∀ f ∈ rowsF F ns, f ∈ rowsF F ms := fun f hf => by
  obtain ⟨i, hi, e⟩ := rowsF_mem.mp hf
  exact rowsF_mem.mpr ⟨i, h i hi, e⟩
theorem snoc_mono {F G : List Fc} {f : Fc} (h : ∀ g ∈ F, g ∈ G) : ∀ g ∈ F ++ [f], g ∈ G ++ [f] := fun g hg => by
  rcases List.mem_append.mp hg with h1 | h1
  · exact List.mem_append.mpr (.inl (h g h1))
  · exact List.mem_append.mpr (.inr h1)
theorem all2_rows {H : Hp} {F : List Fc} : ∀ {ns : List Nat} {ws : List V}, All2 (fun n w => ∃ f, F[n]? = some f ∧ DaAt H w f.da) ns ws → DasAt H ws ((rowsF F ns).map Fc.da)
  | _, _, .nil => .nil
  | n :: r, _, .cons h t => by
    obtain ⟨f, e, hw⟩ := h
    have e2 : rowsF F (n :: r) = f :: rowsF F r := by unfold rowsF; rw [List.filterMap_cons, e]
    rw [e2]
    exact .cons hw (all2_rows t)
/-- a row of places that can't stand with f, none of which can be left out -/
structure RowOk (F : List Fc) (f : Fc) (ns : List Nat) : Prop where
  sub : ns.Sublist (List.range F.length)
  no : ¬ Stands (rowsF F ns ++ [f])
  min : ∀ p ∈ ns, Stands (rowsF F (ns.filter fun n => n != p) ++ [f])
theorem RowOk.lt {F : List Fc} {f : Fc} {ns : List Nat} (h : RowOk F f ns) {p : Nat} (hp : p ∈ ns) : p < F.length := List.mem_range.mp (h.sub.subset hp)
theorem lits_snoc {F : List Fc} {f : Fc} (h : ∀ g ∈ F, g.lit) (hf : f.lit) : ∀ g ∈ F ++ [f], g.lit := fun g hg => by
  rcases List.mem_append.mp hg with h1 | h1
  · exact h g h1
  · rw [List.mem_singleton.mp h1]; exact hf

abbrev s_cut_down : Stmt := top 32
theorem sc_cut_down : FnScope ["facts", "places", "more", "kept", "place", "rest", "other"] ["facts", "places", "more"] (defScope s_cut_down) := ⟨rfl, rfl, rfl, by decide +kernel, rfl, by decide +kernel, by decide +kernel⟩
abbrev s_why_not : Stmt := top 33
theorem sc_why_not : FnScope ["facts", "fact"] ["facts", "fact"] (defScope s_why_not) := ⟨rfl, rfl, rfl, by decide +kernel, rfl, by decide +kernel, by decide +kernel⟩
def spCut : Sp := fun vs H Q _ => ∃ (a pl : Addr) (v : V) (F : List Fc) (f : Fc) (ns : List Nat), vs = [.ref a, .ref pl, v] ∧ LD H a (F.map Fc.da) ∧ H pl = some (.lst (natsV ns)) ∧ DaAt H v f.da ∧ (∀ g ∈ F, g.lit) ∧ f.lit ∧ F.length ≤ 400 ∧ ns.Sublist (List.range F.length) ∧ ¬ Stands (rowsF F ns ++ [f]) ∧
  ∀ p ks H', H p = none → Same H H' → H' p = some (.lst (natsV ks)) → RowOk F f ks → Q (.ref p) H'
def spWhyNot : Sp := fun vs H Q _ => ∃ (a : Addr) (v : V) (F : List Fc) (f : Fc), vs = [.ref a, v] ∧ LD H a (F.map Fc.da) ∧ DaAt H v f.da ∧ (∀ g ∈ F, g.lit) ∧ f.lit ∧ F.length ≤ 400 ∧
  (Stands (F ++ [f]) → ∀ H', Same H H' → Q .non H') ∧ (¬ Stands (F ++ [f]) → ∀ p ks H', H p = none → Same H H' → H' p = some (.lst (natsV ks)) → RowOk F f ks → Q (.ref p) H')
section
variable {e : Ev} (B : Bl e)
include B
theorem ok_cut (A_cut_down : At e "cut_down" ["facts", "places", "more"] s_cut_down) (h_stand : Has e 11 "stand" ["facts"] spStand) : Has e 12 "cut_down" ["facts", "places", "more"] spCut := by
  refine A_cut_down.ok (k := 11) sc_cut_down (fun vs H Q E h => ?_) (fun f0 cdv A outer s H vs Q E hr h => ?_)
  · obtain ⟨_, _, _, _, _, _, rfl, _⟩ := h
    rfl
  obtain ⟨a, pl, v, F, f, ns, rfl, hF, hpl, hv, lit, litf, hF4, hsub, hno, q⟩ := h
  have nd := sc_cut_down.nd
  have hls := sizeLine_eq
  refine ⟨_, pss_cons (ps_st 3 nd (pe_ty call_list_of B.list (pa_cons (pv 1) pa_nil)))
    (pss_cons (ps_for PassesOwn.never rfl (pi_list (pv 1)) (pg_nm 4 nd)
      (pss_cons (ps_setLc (i := 5) (own := [("other", 6)]) (by rfl) nd rfl rfl (sw_true rfl rfl rfl (by decide +kernel)) (pi_list (pv 3)) (blkOk_by (N := ["facts", "places", "more", "kept", "place", "rest", "other"]) (sc := defScope s_cut_down) (by decide +kernel)) (fun _ _ _ _ _ => pg_nm 6 nd) (fun _ _ _ _ _ => pts_one (pt_cmpR op_ne (pv 6) (pv 4) (nomark _))) (fun _ _ _ _ _ => pv 6))
      (pss_one (ps_if (pt_not (pt_val (pe_callH h_stand hr (pa_cons (pe_op op_catLD (pe_lc (own := [("other", 6)]) (by rfl) nd (pi_list (pv 5)) (blkOk_by (N := ["facts", "places", "more", "kept", "place", "rest", "other"]) (sc := defScope s_cut_down) (by decide +kernel)) (fun _ _ _ _ _ => pg_nm 6 nd) (fun _ _ _ _ _ => pts_nil) (fun _ _ _ _ _ => pe_ix ix_listD (pv 0) (pv 6) (fun _ _ => rfl))) (pe_lstA (pa_cons (pv 2) pa_nil))) pa_nil))))
        (pss_one (ps_st 3 nd (pv 5)))
        (pss_nil)))))
    (pss_one (ps_ret (pv 3)))), ?_⟩
  have hnl : ns.length ≤ F.length := by have := hsub.length_le; rw [List.length_range] at this; exact this
  refine ⟨_, rfl, pl, _, rfl, .inl (SqL.of hpl), fun K0 hK0 => ?_⟩
  generalize hH1 : upd H K0 (.lst (natsV ns)) = H1
  have S1 : Same H H1 := by rw [← hH1]; exact same_new hK0 _
  have hK1 : H1 K0 = some (.lst (natsV ns)) := by rw [← hH1]; exact upd_same
  clear hH1
  refine ⟨_, rfl, pl, rfl, for_listD (nats_ld (S1 _ _ hpl)) (fun i σ H' => ∃ (kp : Addr) (ks : List Nat) (u4 u5 u6 : Option V), σ = [some (.ref a), some (.ref pl), some v, some (.ref kp), u4, u5, u6] ∧ Same H1 H' ∧ H' kp = some (.lst (natsV ks)) ∧ H kp = none ∧ ks.Sublist ns ∧ ¬ Stands (rowsF F ks ++ [f]) ∧
    ∀ p ∈ ns.take i, p ∈ ks → Stands (rowsF F (ks.filter fun n => n != p) ++ [f])) ⟨K0, ns, _, _, _, rfl, Same.refl _, hK1, hK0, List.Sublist.refl _, hno, fun p hp => by simp at hp⟩
    (fun i σ H' h => by obtain ⟨_, _, _, _, _, _, S, _⟩ := h; exact ⟨TX.of_same S, by rw [S _ _ (S1 _ _ hpl), S1 _ _ hpl]⟩) ?_ ?_⟩
  · rintro i y d' σ H2 hi hy ⟨kp, ks, u4, u5, u6, rfl, S2, hkp, hkp0, hks, hkn, hmin⟩
    obtain ⟨pv0, hp0, rfl⟩ : ∃ n, ns[i]? = some n ∧ d' = .int (n : Int) := map_get hi
    obtain rfl := hy.int_inv
    have tk : ∀ n, n ∈ ns.take (i + 1) ↔ n ∈ ns.take i ∨ n = pv0 := fun n => by rw [take_snoc hp0]; simp
    have hkl : ks.length ≤ ns.length := hks.length_le
    have ltF : ∀ n ∈ ks, n < F.length := fun n hn => List.mem_range.mp (hsub.subset (hks.subset hn))
    -- the rest
    refine ⟨_, rfl, kp, rfl, lc_listG (l := ks) (Gm := fun n : Nat => Da.int (n : Int)) (pr := fun n => n != pv0) (R := fun n w _ => w = V.int (n : Int)) (nats_ld hkp) (fun _ _ _ _ _ h => h) (by omega) ?_ ?_⟩
    · intro x n H3 hm hx S3 Q' N k1 k2
      obtain rfl := hx.int_inv
      refine ⟨rfl, _, rfl, _, rfl, rfl, _, rfl, ?_⟩
      by_cases e1 : n = pv0
      · rw [show decide (V.int (n : Int) = V.int (pv0 : Int)) = true from decide_eq_true (by rw [e1])]
        exact k2 (by simp [e1]) _ (Same.refl _)
      · rw [show decide (V.int (n : Int) = V.int (pv0 : Int)) = false from decide_eq_false (fun z => e1 (by injection z with z; omega))]
        exact ⟨_, rfl, k1 (by simp [e1]) _ _ (Same.refl _) rfl⟩
    · intro R H3 ws hR S3 hRw hall
      obtain ⟨rs, hrs⟩ : ∃ rs, rs = ks.filter fun n => n != pv0 := ⟨_, rfl⟩
      have ews : ws = natsV rs := by rw [hall.eqs, hrs]; rfl
      subst ews
      have hrl : rs.length ≤ ks.length := by rw [hrs]; exact List.length_filter_le _ _
      have hrm : ∀ n ∈ rs, n ∈ ks := fun n hn => by rw [hrs] at hn; exact (List.mem_filter.mp hn).1
      have S13 := S2.trans S3
      have hF3 := hF.mono (S1.trans S13)
      -- does the rest stand
      refine ⟨_, rfl, R, rfl, lc_listG (l := rs) (Gm := fun n : Nat => Da.int (n : Int)) (pr := fun _ => true) (R := fun n w H' => ∃ g, F[n]? = some g ∧ DaAt H' w g.da) (nats_ld hRw) (fun _ _ _ _ t h => let ⟨g, e1, e2⟩ := h; ⟨g, e1, e2.mono t⟩) (by omega) ?_ ?_⟩
      · intro x n H4 hm hx S4 Q' N k1 k2
        obtain rfl := hx.int_inv
        obtain ⟨g, hg⟩ : ∃ g, F[n]? = some g := ⟨_, List.getElem?_eq_getElem (ltF n (hrm n hm))⟩
        exact ⟨rfl, _, rfl, _, rfl, a, F.map Fc.da, (n : Int), g.da, rfl, hF3.mono S4, rfl, atI_nat (by rw [List.getElem?_map, hg]; rfl), fun w hw => k1 rfl _ _ (Same.refl _) ⟨g, hg, hw⟩⟩
      · intro D H4 ws hD S4 hDw hall4
        have hrf : rs.filter (fun _ => true) = rs := List.filter_eq_self.mpr fun _ _ => rfl
        rw [hrf] at hall4
        have hLD : LD H4 D ((rowsF F rs).map Fc.da) := ⟨ws, hDw, all2_rows hall4⟩
        have hrl2 := rowsF_len F rs
        have S14 := S13.trans S4
        refine ⟨_, rfl, by show 1 ≤ sizeLine; decide, fun p3 H5 hp3 S5 w5 => ?_⟩
        have hv5 := hv.mono (TX.of_same ((S1.trans S14).trans S5))
        refine ⟨D, p3, _, [f.da], rfl, rfl, hLD.mono S5, ⟨_, w5, .one hv5⟩, by rw [List.length_map, List.length_singleton]; omega, fun p4 H6 hp4 S6 L6 => ?_⟩
        have L6' : LD H6 p4 ((rowsF F rs ++ [f]).map Fc.da) := by rw [List.map_append]; exact L6
        refine ⟨p4, rowsF F rs ++ [f], rfl, L6', lits_snoc (fun g hg => lit g (rowsF_in hg)) litf, by rw [List.length_append, List.length_singleton]; omega, fun b H7 S7 hb => ⟨_, rfl, ?_⟩⟩
        have S17 := ((S14.trans S5).trans S6).trans S7
        have stay : ∀ {q : Addr} {xs : List V}, H3 q = some (.lst xs) → H7 q = some (.lst xs) := fun h => S7 _ _ (S6 _ _ (S5 _ _ (S4 _ _ h)))
        cases b with
        | false =>
          have hns : ¬ Stands (rowsF F rs ++ [f]) := fun z => by have := hb.mpr z; cases this
          refine ⟨_, rfl, R, rs, _, _, _, rfl, S17, stay hRw, same_none (S1.trans S2) hR, ?_, hns, fun p hp hpr => ?_⟩
          · rw [hrs]; exact List.Sublist.trans List.filter_sublist hks
          · rcases (tk p).mp hp with h | rfl
            · refine (hmin p h (hrm p hpr)).mono (snoc_mono (rowsF_mono fun n hn => ?_))
              obtain ⟨h1, h2⟩ := List.mem_filter.mp hn
              exact List.mem_filter.mpr ⟨hrm n h1, h2⟩
            · rw [hrs] at hpr
              have := (List.mem_filter.mp hpr).2
              simp at this
        | true =>
          refine ⟨kp, ks, _, _, _, rfl, S17, stay (S3 _ _ hkp), hkp0, hks, hkn, fun p hp hpk => ?_⟩
          rcases (tk p).mp hp with h | rfl
          · exact hmin p h hpk
          · rw [← hrs]; exact hb.mp rfl
  · rintro σ H2 ⟨kp, ks, u4, u5, u6, rfl, S2, hkp, hkp0, hks, hkn, hmin⟩
    rw [natsD_len, List.take_length] at hmin
    exact ⟨_, rfl, q kp ks H2 hkp0 (S1.trans S2) hkp ⟨hks.trans hsub, hkn, fun p hp => hmin p (hks.subset hp) hp⟩⟩
theorem ok_whynot (A_why_not : At e "why_not" ["facts", "fact"] s_why_not) (h_stand : Has e 11 "stand" ["facts"] spStand) (h_cut_down : Has e 12 "cut_down" ["facts", "places", "more"] spCut) : Has e 13 "why_not" ["facts", "fact"] spWhyNot := by
  refine A_why_not.ok (k := 12) sc_why_not (fun vs H Q E h => ?_) (fun f0 cdv A outer s H vs Q E hr h => ?_)
  · obtain ⟨_, _, _, _, rfl, _⟩ := h
    rfl
  obtain ⟨a, v, F, f, rfl, hF, hv, lit, litf, hF4, q1, q2⟩ := h
  have nd := sc_why_not.nd
  have hls := sizeLine_eq
  refine ⟨_, pss_cons (ps_if (pt_val (pe_callH h_stand hr (pa_cons (pe_op op_catLD (pv 0) (pe_lstA (pa_cons (pv 1) pa_nil))) pa_nil)))
      (pss_one (ps_ret pe_non))
      (pss_nil))
    (pss_one (ps_ret (pe_callH h_cut_down hr (pa_cons (pv 0) (pa_cons (pe_listRg rfl (by rfl) B.list (prg_1 (by rfl) B.range (pe_b call_lenL B.len (pa_cons (pv 0) pa_nil)))) (pa_cons (pv 1) pa_nil)))))), ?_⟩
  refine ⟨_, rfl, _, rfl, by show 1 ≤ sizeLine; decide, fun p1 H1 hp1 S1 w1 => ?_⟩
  refine ⟨a, p1, _, [f.da], rfl, rfl, hF.mono S1, ⟨_, w1, .one (hv.mono (TX.of_same S1))⟩, by rw [List.length_map, List.length_singleton]; omega, fun p2 H2 hp2 S2 L2 => ?_⟩
  have L2' : LD H2 p2 ((F ++ [f]).map Fc.da) := by rw [List.map_append]; exact L2
  refine ⟨p2, F ++ [f], rfl, L2', lits_snoc lit litf, by rw [List.length_append, List.length_singleton]; omega, fun b H3 S3 hb => ⟨_, rfl, ?_⟩⟩
  have S13 := (S1.trans S2).trans S3
  cases b with
  | true => exact q1 (hb.mp rfl) _ S13
  | false =>
    have hns : ¬ Stands (F ++ [f]) := fun z => by have := hb.mpr z; cases this
    have hF3 := hF.mono S13
    obtain ⟨vF, hvF, hvD⟩ := id hF3
    have hlen : vF.length = F.length := by rw [hvD.length, List.length_map]
    refine ⟨_, rfl, _, rfl, a, _, rfl, SqL.of hvF, (F.length : Int), by rw [hlen], RgOk.of_le (by decide) (by omega) (by decide) (by omega), fun p4 hp4 => ?_⟩
    rw [rgV_nats]
    generalize hH4 : upd H3 p4 (.lst (natsV (List.range F.length))) = H4
    have S4 : Same H3 H4 := by rw [← hH4]; exact same_new hp4 _
    have w4 : H4 p4 = some (.lst (natsV (List.range F.length))) := by rw [← hH4]; exact upd_same
    clear hH4
    have S14 := S13.trans S4
    refine ⟨_, rfl, a, p4, v, F, f, List.range F.length, rfl, hF3.mono S4, w4, hv.mono (TX.of_same S14), lit, litf, hF4, List.Sublist.refl _, fun z => hns ((Stands.congr fun g => ?_).mp z), fun p ks H5 hp S5 w5 hr => q2 hns p ks H5 (same_none S14 hp) (S14.trans S5) w5 hr⟩
    rw [List.mem_append, List.mem_append, rowsF_all]
end

abbrev s__law_good : Stmt := top 58
theorem sc__law_good : FnScope ["_law_d", "_law_works_here", "_law_most", "_law_found", "_law_fact_here"] ["_law_d", "_law_works_here", "_law_most"] (defScope s__law_good) := ⟨rfl, rfl, rfl, by decide +kernel, rfl, by decide +kernel, by decide +kernel⟩
/-- drawn facts that stand together, a new list -/
def spGood (K : PySem.W.Frag) : Sp := fun vs H Q _ => ∃ (d l : Addr) (ds : List Da) (most : Int), vs = [.ref d, .ref l, .int most] ∧ DiceAt K H d ∧ LD H l ds ∧ WorksD ds ∧ 0 ≤ most ∧ most < 100 ∧
  ∀ (p : Addr) (F : List Fc) H', H p = none → But d H H' → DiceAt K H' d → LD H' p (F.map Fc.da) → (∀ f ∈ F, f.drawn) → (F.length : Int) ≤ most → Stands F → Q (.ref p) H'
theorem stands_nil : Stands [] := fun f hf => by cases hf
section
variable {e : Ev} (B : Bl e)
include B
theorem ok_good (A__law_good : At e "_law_good" ["_law_d", "_law_works_here", "_law_most"] s__law_good) (h__law_facts : Has e 7 "_law_facts" ["_law_d", "_law_works_here", "_law_most"] (spFacts e.K)) (h__law_stand : Has e 10 "_law_stand" ["_law_facts_here"] spLStand) : Has e 11 "_law_good" ["_law_d", "_law_works_here", "_law_most"] (spGood e.K) := by
  refine A__law_good.ok (k := 10) sc__law_good (fun vs H Q E h => ?_) (fun f cdv A outer s H vs Q E hr h => ?_)
  · obtain ⟨d, l, ds, m, rfl, _⟩ := h
    rfl
  obtain ⟨d, l, ds, most, rfl, hD, hL, hW, h0, h1, q⟩ := h
  have nd := sc__law_good.nd
  have hls := sizeLine_eq
  refine ⟨_, pss_cons (ps_st 3 nd (pe_lstA pa_nil))
    (pss_cons (ps_for PassesOwn.never rfl (pi_list (pe_callH h__law_facts hr (pa_cons (pv 0) (pa_cons (pv 1) (pa_cons (pv 2) pa_nil))))) (pg_nm 4 nd)
      (pss_one (ps_if (pt_val (pe_callH h__law_stand hr (pa_cons (pe_op op_catLD (pv 3) (pe_lstA (pa_cons (pv 4) pa_nil))) pa_nil)))
        (pss_one (ps_expr (pe_app (pv 3) (pa_cons (pv 4) pa_nil))))
        (pss_nil))))
    (pss_one (ps_ret (pv 3)))), ?_⟩
  have ndl := works_ne hD hL hW
  refine ⟨by show 0 ≤ sizeLine; decide, fun g H1 hg S1 w1 => ?_⟩
  have D1 := hD.same S1
  have ngd : g ≠ d := fun z => by
    obtain ⟨_, hd3⟩ := hD.lst
    rw [z, hd3] at hg
    cases hg
  refine ⟨_, rfl, _, rfl, _, rfl, d, l, ds, most, rfl, D1, hL.mono S1, hW, h0, h1, fun p F H2 hp B2 D2 F2 hFd hFl => ?_⟩
  have w2 := B2 _ _ ngd w1
  have npg : p ≠ g := (ne_of_none w1 hp).symm
  refine ⟨p, rfl, for_listD F2 (fun i σ H' => ∃ (u4 : Option V) (G : List Fc), σ = [some (.ref d), some (.ref l), some (.int most), some (.ref g), u4] ∧ But g H2 H' ∧ LD H' g (G.map Fc.da) ∧ (∀ f ∈ G, f ∈ F) ∧ G.length ≤ i ∧ Stands G) ⟨_, [], rfl, But.refl _, ⟨[], w2, .nil⟩, (fun f hf => by cases hf), Nat.le_refl _, stands_nil⟩
    (fun i σ H' h => ?_) ?_ ?_⟩
  · obtain ⟨_, _, _, b, _⟩ := h
    obtain ⟨vs, h1, _⟩ := F2
    exact ⟨b.txl w2, by rw [b _ _ npg h1, h1]⟩
  · rintro i y d' σ H3 hi hy ⟨u4, G, rfl, b3, hG, hGF, hGl, hst⟩
    obtain ⟨f0, hf, rfl⟩ := map_get hi
    have hfm := List.mem_of_getElem? hf
    have hil : i < F.length := (List.getElem?_eq_some_iff.mp hf).1
    refine ⟨_, rfl, _, rfl, by show 1 ≤ sizeLine; decide, fun p1 H4 hp1 S4 w4 => ?_⟩
    refine ⟨g, p1, _, [f0.da], rfl, rfl, hG.mono S4, ⟨_, w4, .one (hy.mono (TX.of_same S4))⟩, by rw [List.length_map, List.length_singleton]; omega, fun p2 H5 hp2 S5 L5 => ?_⟩
    have L5' : LD H5 p2 ((G ++ [f0]).map Fc.da) := by rw [List.map_append]; exact L5
    refine ⟨p2, G ++ [f0], rfl, L5', fun f hf' => ?_, by rw [List.length_append, List.length_singleton]; omega, fun b H6 S6 hb => ⟨_, rfl, ?_⟩⟩
    · rcases List.mem_append.mp hf' with h | h
      · exact (hFd f (hGF f h)).lit
      · rw [List.mem_singleton.mp h]; exact (hFd _ hfm).lit
    have S36 := (S4.trans S5).trans S6
    cases b with
    | false => exact ⟨_, G, rfl, b3.trans (But.of S36), hG.mono S36, hGF, by omega, hst⟩
    | true =>
      obtain ⟨xs, hx1, hx2⟩ := hG.mono S36
      have hy6 := hy.mono (TX.of_same S36)
      refine ⟨_, rfl, .inl ⟨rfl, _, SqL.of hx1⟩, _, rfl, g, xs, y, rfl, rfl, hx1, by rw [hx2.length, List.length_map]; omega, ?_⟩
      refine ⟨_, G ++ [f0], rfl, (b3.trans (But.of S36)).trans (But.put _ _), ⟨_, upd_same, ?_⟩, fun f hf' => ?_, by rw [List.length_append, List.length_singleton]; omega, hb.mp rfl⟩
      · rw [List.map_append]
        exact (hx2.append (.one hy6)).mono (TX.lst hx1)
      · rcases List.mem_append.mp hf' with h | h
        · exact hGF f h
        · rw [List.mem_singleton.mp h]; exact hfm
  · rintro σ H3 ⟨u4, G, rfl, b3, hG, hGF, hGl, hst⟩
    rw [List.length_map] at hGl
    refine ⟨_, rfl, q g G H3 hg (fun b o n h => ?_) (D2.tx (b3.txl w2) ?_) hG (fun f hf => hFd f (hGF f hf)) (by omega) hst⟩
    · exact b3 b o (ne_of_none h hg) (B2 b o n (S1 _ _ h))
    · obtain ⟨xs, h⟩ := D2.lst
      rw [b3 _ _ ngd.symm h, h]
end

abbrev s_Clash___init__ : Stmt := inClass (top 8) 0
theorem sc_Clash___init__ : FnScope ["self", "row"] ["self", "row"] (defScope s_Clash___init__) := ⟨rfl, rfl, rfl, by decide +kernel, rfl, by decide +kernel, by decide +kernel⟩
abbrev s_Board___init__ : Stmt := inClass (top 40) 0
theorem sc_Board___init__ : FnScope ["self"] ["self"] (defScope s_Board___init__) := ⟨rfl, rfl, rfl, by decide +kernel, rfl, by decide +kernel, by decide +kernel⟩
abbrev s_Board_tell : Stmt := inClass (top 40) 1
theorem sc_Board_tell : FnScope ["self", "fact", "row"] ["self", "fact"] (defScope s_Board_tell) := ⟨rfl, rfl, rfl, by decide +kernel, rfl, by decide +kernel, by decide +kernel⟩
abbrev s_Board_facts : Stmt := inClass (top 40) 2
theorem sc_Board_facts : FnScope ["self"] ["self"] (defScope s_Board_facts) := ⟨rfl, rfl, rfl, by decide +kernel, rfl, by decide +kernel, by decide +kernel⟩
structure BdC (e : Ev) (C : Addr) : Prop where
  mg : e.mg "Board" = some (.ref C)
  cl : Cls e.K C
  told : NoAttr e.K C "told"
  marks : NoAttr e.K C "marks"
/-- a board at b -/
structure BdS (C : Addr) (H : Hp) (b dx T M : Addr) (F : List Fc) (ms : List Nat) : Prop where
  obj : H b = some (.ins C dx [("told", .ref T), ("marks", .ref M)])
  told : LD H T (F.map Fc.da)
  marks : H M = some (.lst (natsV ms))
  ne : T ≠ M
theorem BdS.same {C : Addr} {H H' : Hp} {b dx T M : Addr} {F : List Fc} {ms : List Nat} (h : BdS C H b dx T M F ms) (s : Same H H') : BdS C H' b dx T M F ms := ⟨s _ _ h.obj, h.told.mono s, s _ _ h.marks, h.ne⟩
theorem BdS.bT {C : Addr} {H : Hp} {b dx T M : Addr} {F : List Fc} {ms : List Nat} (h : BdS C H b dx T M F ms) : b ≠ T ∧ b ≠ M := by
  obtain ⟨vs, h1, _⟩ := h.told
  exact ⟨ne_of h.obj h1 (fun z => by cases z), ne_of h.obj h.marks (fun z => by cases z)⟩
/-- what is written elsewhere -/
theorem BdS.but {C : Addr} {H H' : Hp} {b dx T M d : Addr} {F : List Fc} {ms : List Nat} (h : BdS C H b dx T M F ms) (B : But d H H') (t : TX H H') (n1 : b ≠ d) (n2 : T ≠ d) (n3 : M ≠ d) : BdS C H' b dx T M F ms := by
  obtain ⟨vs, h1, h2⟩ := h.told
  exact ⟨B _ _ n1 h.obj, ⟨vs, B _ _ n2 h1, h2.mono t⟩, B _ _ n3 h.marks, h.ne⟩
def spClashI (C : Addr) : Sp := fun vs H Q _ => ∃ (a : Addr) (v : V), vs = [.ref a, v] ∧ H a = some (exo a C none) ∧ ∀ dx, H dx = none → dx ≠ a → Q .non (upd (upd H dx (exd dx [("row", v)])) a (exo a C (some dx)))
def spBInit (C : Addr) : Sp := fun vs H Q _ => ∃ (b dx : Addr), vs = [.ref b] ∧ H b = some (.ins C dx []) ∧ ∀ T M H', But b H H' → H T = none → H M = none → BdS C H' b dx T M [] [] → Q .non H'
/-- a fact told -/
def spTell (C Cn Cf Cu Cc : Addr) (n : Nat) : Sp := fun vs H Q E => ∃ (b dx T M : Addr) (v : V) (z : Str) (ts : List Tm) (F : List Fc) (ms : List Nat), vs = [.ref b, v] ∧ BdS C H b dx T M F ms ∧ (∀ g ∈ F, g.lit) ∧ F.length ≤ 40 ∧ DaAt H v (.tup (.str z :: ts.map Tm.da)) ∧ (∀ t ∈ ts, t.short ∧ t.depth ≤ n) ∧ ts.length ≤ 1000 ∧
  ((¬ z ∈ signsK.map (·.1) ∨ ts.length ≠ 2) → ∀ H', Same H H' → E (.ref Cf) none H') ∧
  (∀ (w : Wd) (s t : Tm), z = w.name → ts = [s, t] → ¬ (s.fine ∧ t.fine) → ∀ H', Same H H' → E (.ref Cn) none H') ∧
  (∀ (w : Wd) (s t : Tm), z = w.name → ts = [s, t] → s.fine → t.fine → (⟨w, s, t⟩ : Fc).lit ∧
    (F.length = 40 → ∀ H', Same H H' → E (.ref Cu) none H') ∧
    (F.length < 40 → ¬ Stands (F ++ [⟨w, s, t⟩]) → ∀ xd rp ks H', H xd = none → H rp = none → Same H H' → H' xd = some (.xd [("row", .ref rp)]) → H' rp = some (.lst (natsV ks)) → RowOk F ⟨w, s, t⟩ ks → E (.ref Cc) (some xd) H') ∧
    (F.length < 40 → Stands (F ++ [⟨w, s, t⟩]) → ∀ H', But T H H' → TX H H' → BdS C H' b dx T M (F ++ [⟨w, s, t⟩]) ms → Q (.int F.length) H'))
def spBFacts (C : Addr) : Sp := fun vs H Q _ => ∃ (b dx T M : Addr) (F : List Fc) (ms : List Nat), vs = [.ref b] ∧ BdS C H b dx T M F ms ∧ ∀ p H', H p = none → Same H H' → LD H' p (F.map Fc.da) → Q (.ref p) H'
section
variable {e : Ev} (B : Bl e)
include B
theorem ok_clashi (A_Clash___init__ : AtE e C_Clash "Clash.__init__" ["self", "row"] s_Clash___init__) {C_BoardError : Addr} (k_Clash : ExI e "Clash" C_Clash) (no_row : PySem.W.findIn e.K (.ref C_Clash) "row" = some none) (b_BoardError : BiK e "BoardError" C_BoardError) : HasE e 1 C_Clash ["self", "row"] (spClashI C_Clash) := by
  refine A_Clash___init__.ok sc_Clash___init__ (fun vs H Q E h => ?_) (fun f cdv A outer s H vs Q E hr h => ?_)
  · obtain ⟨_, _, rfl, _⟩ := h
    rfl
  obtain ⟨a, v, rfl, ha, q⟩ := h
  have nd := sc_Clash___init__.nd
  refine ⟨_, pss_cons (ps_expr (pe_binit b_BoardError (pa_cons (pv 0) (pa_cons pe_str pa_nil))))
    (pss_one (ps_ost (pv 0) (pv 1))), ?_⟩
  exact ⟨_, rfl, a, C_Clash, _, rfl, by simp, k_Clash.oex, ha, _, rfl, _, rfl, a, C_Clash, rfl, k_Clash.oex, no_row, .inl ⟨ha, fun dx hd hn => q dx hd hn⟩⟩
theorem ok_binit (A_Board___init__ : AtI e C_Board "Board.__init__" ["self"] s_Board___init__) (c_Board : BdC e C_Board) : HasI e 1 C_Board ["self"] (spBInit C_Board) := by
  refine A_Board___init__.ok sc_Board___init__ (fun vs H Q E h => ?_) (fun f cdv A outer s H vs Q E hr h => ?_)
  · obtain ⟨_, _, rfl, _⟩ := h
    rfl
  obtain ⟨b, dx, rfl, h0, q⟩ := h
  have nd := sc_Board___init__.nd
  refine ⟨_, pss_cons (ps_fld (pv 0) (pe_lstA pa_nil) rfl)
    (pss_one (ps_fld (pv 0) (pe_lstA pa_nil) rfl)), ?_⟩
  refine ⟨by show 0 ≤ sizeLine; decide, fun T H1 hT S1 w1 => ⟨_, rfl, b, C_Board, dx, _, rfl, S1 _ _ h0, c_Board.cl, c_Board.told, by simp, ?_⟩⟩
  generalize hH2 : upd H1 b (.ins C_Board dx (putF "told" (.ref T) [])) = H2
  have nTb : T ≠ b := (ne_of_none h0 hT).symm
  have o2 : H2 b = some (.ins C_Board dx [("told", .ref T)]) := by rw [← hH2, upd_same]; rfl
  have w2 : H2 T = some (.lst []) := by rw [← hH2, upd_ne nTb]; exact w1
  have b2 : But b H H2 := by rw [← hH2]; exact (But.of S1).trans (But.put _ _)
  clear hH2
  refine ⟨by show 0 ≤ sizeLine; decide, fun M H3 hM S3 w3 => ⟨_, rfl, b, C_Board, dx, _, rfl, S3 _ _ o2, c_Board.cl, c_Board.marks, by simp, ?_⟩⟩
  generalize hH4 : upd H3 b (.ins C_Board dx (putF "marks" (.ref M) [("told", .ref T)])) = H4
  have nMb : M ≠ b := (ne_of_none o2 hM).symm
  have o4 : H4 b = some (.ins C_Board dx [("told", .ref T), ("marks", .ref M)]) := by rw [← hH4, upd_same]; rfl
  have w4 : H4 M = some (.lst []) := by rw [← hH4, upd_ne nMb]; exact w3
  have w5 : H4 T = some (.lst []) := by rw [← hH4, upd_ne nTb]; exact S3 _ _ w2
  have b4 : But b H H4 := by rw [← hH4]; exact (b2.trans (But.of S3)).trans (But.put _ _)
  have hM0 : H M = none := by
    cases e1 : H M with
    | none => rfl
    | some o => rw [b2 _ _ nMb e1] at hM; cases hM
  exact q T M H4 b4 hT hM0 ⟨o4, ⟨[], w5, .nil⟩, w4, ne_of_none w2 hM⟩
theorem ok_bfacts (A_Board_facts : AtM e C_Board "facts" "Board.facts" ["self"] s_Board_facts) (c_Board : BdC e C_Board) : HasM e 1 C_Board "facts" ["self"] (spBFacts C_Board) := by
  refine A_Board_facts.ok sc_Board_facts (fun vs H Q E h => ?_) (fun f cdv A outer s H vs Q E hr h => ?_)
  · obtain ⟨_, _, _, _, _, _, rfl, _⟩ := h
    rfl
  obtain ⟨b, dx, T, M, F, ms, rfl, hB, q⟩ := h
  have nd := sc_Board_facts.nd
  refine ⟨_, pss_one (ps_ret (pe_ty call_listD B.list (pa_cons (pe_fldE (e := e) (pv 0) rfl) pa_nil))), ?_⟩
  exact ⟨_, rfl, b, C_Board, dx, _, _, rfl, hB.obj, c_Board.cl, c_Board.told, by rfl, T, _, rfl, hB.told, fun p H1 hp S1 L1 => q p H1 hp S1 L1⟩
theorem ok_tell (A_Board_tell : AtM e C_Board "tell" "Board.tell" ["self", "fact"] s_Board_tell) (c_Board : BdC e C_Board) {C_Clash Cn Cf Cu : Addr} (n : Nat) (hn : n ≤ 60) (k_MOST_FACTS : Cst e "MOST_FACTS" (.int 40)) (k_Full : ExK e "Full" Cu) (k_Clash : ExI e "Clash" C_Clash) (h_Clash___init__ : HasE e 1 C_Clash ["self", "row"] (spClashI C_Clash))
    (h_need_fact : Has e (n + 3) "need_fact" ["fact"] (spNeedF n Cn Cf)) (h_why_not : Has e 13 "why_not" ["facts", "fact"] spWhyNot) : HasM e (n + 14) C_Board "tell" ["self", "fact"] (spTell C_Board Cn Cf Cu C_Clash n) := by
  refine A_Board_tell.okX (k := n + 13) sc_Board_tell (fun vs H Q E h => ?_) (fun f cdv A outer s H vs Q E hr h => ?_)
  · obtain ⟨_, _, _, _, _, _, _, _, _, rfl, _⟩ := h
    rfl
  obtain ⟨b, dx, T, M, v, z, ts, F, ms, rfl, hB, lit, hF, hv, hts, htl, qf, qn, q⟩ := h
  have nd := sc_Board_tell.nd
  have hls := sizeLine_eq
  refine ⟨_, pss_cons (ps_expr (pe_callX h_need_fact hr (takes_of rfl rfl rfl rfl) (pa_cons (pv 1) pa_nil)))
    (pss_cons (ps_if (pt_cmpR op_eq (pe_b call_lenL B.len (pa_cons (pe_fldE (e := e) (pv 0) rfl) pa_nil)) (pe_cst k_MOST_FACTS) (nomark _))
      (pss_one (ps_raiseE k_Full (takes_of rfl rfl rfl rfl)))
      (pss_nil))
    (pss_cons (ps_st 2 nd (pe_callH h_why_not hr (pa_cons (pe_fldE (e := e) (pv 0) rfl) (pa_cons (pv 1) pa_nil))))
    (pss_cons (ps_if (pt_cmpR op_notN (pv 2) pe_non (nomark _))
      (pss_one (ps_raiseC k_Clash h_Clash___init__ hr (takes_of rfl rfl rfl rfl) (pa_cons (pv 2) pa_nil)))
      (pss_nil))
    (pss_cons (ps_expr (pe_app (pe_fldE (e := e) (pv 0) rfl) (pa_cons (pv 1) pa_nil)))
    (pss_one (ps_ret (pe_op op_sub (pe_b call_lenL B.len (pa_cons (pe_fldE (e := e) (pv 0) rfl) pa_nil)) pe_int))))))), ?_⟩
  refine ⟨_, rfl, v, z, ts, rfl, hv, hts, htl, fun w s t ez et fs ft H1 S1 => ?_, fun hx H1 S1 => qf hx H1 S1, fun w s t ez et hx H1 S1 => qn w s t ez et hx H1 S1⟩
  subst ez et
  obtain ⟨litf, qu, qc, qs⟩ := q w s t rfl rfl fs ft
  have hB1 := hB.same S1
  have hv1 : DaAt H1 v (⟨w, s, t⟩ : Fc).da := hv.mono (TX.of_same S1)
  obtain ⟨vT, hvT, hvD⟩ := hB1.told
  have hlen : vT.length = F.length := by rw [hvD.length, List.length_map]
  refine ⟨_, rfl, b, C_Board, dx, _, _, rfl, hB1.obj, c_Board.cl, c_Board.told, by rfl, T, _, rfl, SqL.of hvT, rfl, _, rfl, ?_⟩
  rw [hlen]
  by_cases h40 : F.length = 40
  · rw [show decide (V.int (F.length : Int) = V.int 40) = true from decide_eq_true (by rw [h40]; rfl)]
    exact qu h40 _ S1
  rw [show decide (V.int (F.length : Int) = V.int 40) = false from decide_eq_false (fun z => h40 (by injection z with z; omega))]
  have h40' : F.length < 40 := by omega
  refine ⟨_, rfl, b, C_Board, dx, _, _, rfl, hB1.obj, c_Board.cl, c_Board.told, by rfl, _, rfl, T, v, F, ⟨w, s, t⟩, rfl, hB1.told, hv1, lit, litf, by omega, fun hs H2 S2 => ?_, fun hs rp ks H2 hrp S2 wr row => ?_⟩
  · have hB2 := hB1.same S2
    obtain ⟨vT2, hvT2, hvD2⟩ := hB2.told
    have hlen2 : vT2.length = F.length := by rw [hvD2.length, List.length_map]
    refine ⟨_, rfl, rfl, _, rfl, ?_⟩
    refine ⟨_, rfl, b, C_Board, dx, _, .ref T, rfl, hB2.obj, c_Board.cl, c_Board.told, by rfl, .inl ⟨rfl, _, SqL.of hvT2⟩, _, rfl, T, vT2, v, rfl, rfl, hvT2, by omega, ?_⟩
    have X2 := TX.lst (o := .lst (vT2 ++ [v])) hvT2
    have B2 : But T H2 (upd H2 T (.lst (vT2 ++ [v]))) := But.put _ _
    have hB3 : BdS C_Board (upd H2 T (.lst (vT2 ++ [v]))) b dx T M (F ++ [⟨w, s, t⟩]) ms := ⟨by rw [upd_ne hB2.bT.1]; exact hB2.obj, ⟨_, upd_same, by rw [List.map_append]; exact (hvD2.append (.one (hv1.mono (TX.of_same S2)))).mono X2⟩, by rw [upd_ne hB2.ne.symm]; exact hB2.marks, hB2.ne⟩
    refine ⟨_, rfl, b, C_Board, dx, _, _, rfl, hB3.obj, c_Board.cl, c_Board.told, by rfl, T, _, rfl, SqL.of upd_same, _, _, rfl, rfl, ?_⟩
    have e1 : (((vT2 ++ [v]).length : Nat) : Int) - 1 = (F.length : Int) := by rw [List.length_append, hlen2]; simp
    show Q (.int ((((vT2 ++ [v]).length : Nat) : Int) - 1)) _
    rw [e1]
    exact qs h40' hs _ ((But.of (S1.trans S2)).trans B2) ((TX.of_same (S1.trans S2)).trans X2) hB3
  · refine ⟨_, rfl, rfl, _, rfl, ?_⟩
    refine ⟨_, rfl, by simp, fun ea hea => ⟨ea, .ref rp, rfl, upd_same, fun xd hxd hne => ⟨rfl, xd, [("row", .ref rp)], upd_same, ?_, ?_, ?_⟩⟩⟩
    · rw [upd_ne hne, upd_same]
    · rw [upd_ne hne] at hxd; exact hxd
    · have hxd2 : H2 xd = none := by rw [upd_ne hne] at hxd; exact hxd
      have S12 := S1.trans S2
      have keep : ∀ b o, H2 b = some o → upd (L2.del (upd (upd (upd H2 ea (exo ea C_Clash none)) xd (exd xd [("row", .ref rp)])) ea (exo ea C_Clash (some xd))) ea) xd (.xd [("row", .ref rp)]) b = some o := fun c o h => by
        have n1 : c ≠ xd := ne_of_none h hxd2
        have n2 : c ≠ ea := ne_of_none h hea
        rw [upd_ne n1, del_ne n2, upd_ne n2, upd_ne n1, upd_ne n2]
        exact h
      exact qc h40' hs xd rp ks _ (same_none S12 hxd2) (same_none S1 hrp) (fun c o h => keep c o (S12 _ _ h)) upd_same (keep _ _ wr) row
end

theorem Fc.drawn.fine {f : Fc} (h : f.drawn) : f.l.fine ∧ f.r.fine := ⟨⟨h.good.1, Nat.le_trans h.cl (by decide)⟩, ⟨h.good.2, Nat.le_trans h.cr (by decide)⟩⟩
/-- a fact told that can stand -/
theorem tell_ok {C Cn Cf Cu Cc b dx T M : Addr} {H : Hp} {v : V} {F : List Fc} {ms : List Nat} {f : Fc} {Q : VK} {E : XK} (hB : BdS C H b dx T M F ms) (lit : ∀ g ∈ F, g.lit) (hF : F.length < 40) (hv : DaAt H v f.da) (litf : f.lit) (ff : f.l.fine ∧ f.r.fine) (hs : Stands (F ++ [f]))
    (q : ∀ H', But T H H' → TX H H' → BdS C H' b dx T M (F ++ [f]) ms → Q (.int F.length) H') : spTell C Cn Cf Cu Cc 8 [.ref b, v] H Q E := by
  refine ⟨b, dx, T, M, v, f.w.name, [f.l, f.r], F, ms, rfl, hB, lit, by omega, hv, fun t ht => ?_, by simp, fun z => ?_, fun w s t ez et hx => ?_, fun w s t ez et fs ft => ?_⟩
  · simp only [List.mem_cons, List.not_mem_nil, or_false] at ht
    rcases ht with rfl | rfl
    · exact ⟨Tm.good_short litf.good.1, Nat.le_trans litf.dl (by decide)⟩
    · exact ⟨Tm.good_short litf.good.2, Nat.le_trans litf.dr (by decide)⟩
  · exfalso
    rcases z with z | z
    · exact z (Wd.name_in f.w)
    · exact z rfl
  · exfalso
    simp only [List.cons.injEq, and_true] at et
    obtain ⟨rfl, rfl⟩ := et
    exact hx ff
  simp only [List.cons.injEq, and_true] at et
  obtain ⟨rfl, rfl⟩ := et
  obtain rfl : w = f.w := (Wd.name_inj ez).symm
  exact ⟨litf, (fun z => by omega), fun _ hns => absurd hs hns, fun _ _ H' B' t' hB' => q H' B' t' hB'⟩
theorem stands_take {F : List Fc} (h : Stands F) {i : Nat} {f : Fc} (hf : F[i]? = some f) : Stands (F.take i ++ [f]) := by
  rw [← take_snoc hf]
  exact h.mono fun g hg => List.mem_of_mem_take hg

/-- with no likeness and no at most told, just the same is alike -/
theorem alike_eq {F : List Fc} (h : ∀ f ∈ F, f.w = .unlike) {s t : Tm} (hs : s ∈ termsF F) (ht : t ∈ termsF F) (a : Alike F s t) : s = t := by
  refine a (fun s t => s = t) (fun s t => s = t) ⟨fun f hf e => ?_, ⟨fun _ _ => rfl, fun _ _ _ _ e => e.symm, fun _ _ _ _ _ _ e e' => e.trans e'⟩, fun s _ t _ e1 e2 h3 => ?_, ⟨fun f hf e => ?_, fun _ _ _ _ e => e, fun _ _ _ _ _ _ e e' => e.trans e', fun _ _ _ _ e _ => e⟩⟩
  · rw [h f hf] at e; cases e
  · cases s with
    | mk n ps =>
      cases t with
      | mk m qs =>
        have e1 : n = m := e1
        have e2 : ps.length = qs.length := e2
        subst e1
        have : ps = qs := List.ext_getElem? fun i => by
          cases e3 : ps[i]? with
          | none =>
            rw [List.getElem?_eq_none_iff] at e3
            exact (List.getElem?_eq_none_iff.mpr (by omega)).symm
          | some p =>
            obtain ⟨q, hq⟩ : ∃ q, qs[i]? = some q := by
              have := (List.getElem?_eq_some_iff.mp e3).1
              exact ⟨_, List.getElem?_eq_getElem (by omega)⟩
            rw [hq, h3 i p q e3 hq]
        rw [this]
  · have := h f hf
    unfold Fc.isM at e
    rw [this] at e
    cases e
def nmT (s : Str) : Tm := .mk s []
theorem nmT_da {H : Hp} {v : V} {s : Str} (h : DaAt H v (.tup [.str s])) : DaAt H v (nmT s).da := by unfold nmT; rw [Tm.da_eq]; exact h
/-- a name alone -/
def Tm.one (t : Tm) : Prop := t.good ∧ t.depth = 1 ∧ t.count = 1
theorem nmT_one {s : Str} (h : goodName s) : (nmT s).one := ⟨⟨h, by simp, trivial⟩, rfl, rfl⟩
theorem one_drawn {w : Wd} {a b : Tm} (ha : a.one) (hb : b.one) : (⟨w, a, b⟩ : Fc).drawn := ⟨⟨ha.1, hb.1⟩, by rw [show (⟨w, a, b⟩ : Fc).l.depth = 1 from ha.2.1]; decide, by rw [show (⟨w, a, b⟩ : Fc).r.depth = 1 from hb.2.1]; decide, by rw [show (⟨w, a, b⟩ : Fc).l.count = 1 from ha.2.2]; decide, by rw [show (⟨w, a, b⟩ : Fc).r.count = 1 from hb.2.2]; decide⟩
theorem sgn_good {s : Str} (h : s.cps.toList.length = 1 ∧ ∀ x ∈ s.cps.toList, 97 ≤ x ∧ x ≤ 122) : goodName s := ⟨by rw [len_cps]; omega, by rw [len_cps]; omega, h.2⟩
theorem g_a : goodName "a" := sgn_good (by decide +kernel)
theorem g_b : goodName "b" := sgn_good (by decide +kernel)
theorem g_x : goodName "x" := sgn_good (by decide +kernel)
theorem g_y : goodName "y" := sgn_good (by decide +kernel)
theorem g_z : goodName "z" := sgn_good (by decide +kernel)
theorem g_w : goodName "w" := sgn_good (by decide +kernel)
theorem g_v : goodName "v" := sgn_good (by decide +kernel)

/-! ### l.count(b), l a list of truths -/
def rCntB (K : PySem.W.Frag) : V → List V → Hp → VK → Prop := fun x xs H Q => ∃ (p : Addr) (bs : List Bool) (k : Bool), x = .ref p ∧ xs = [.bl k] ∧ SqL K H p (bs.map V.bl) ∧ Q (.int ((bs.count k : Nat) : Int)) H
theorem bls_vals : ∀ {bs : List Bool} {its : List Value}, Vals (bs.map V.bl) its → its = bs.map Value.bool
  | [], _, .nil => rfl
  | b :: r, _, .cons h t => by
    obtain rfl : _ = Value.bool b := h
    rw [bls_vals t]; rfl
theorem mt_countB {X : Cx} : MtR X "list.count" (rCntB X.K) := by
  intro pins s σ H x xs v us Q I rx rxs h
  obtain ⟨p, bs, k, rfl, rfl, hl, q⟩ := h
  cases rx
  obtain ⟨u, rfl, ru⟩ := vals1 rxs
  obtain rfl : u = .bool k := ru
  obtain ⟨its, r, ⟨⟨cls, d0, data, sl⟩, n, ho, hc, hd, hs⟩, _⟩ := I.list hl
  simp only at hc hd hs
  subst hc hd hs
  have e := bls_vals r
  subst e
  refine call_meets F.slot_list_count ⟨_, ho, rfl⟩ F.entry_list_count (F.args_list_count_2 _ _) (SeqAt.list_countAt p (bs.map Value.bool).toArray n none sl (.bool k) (fun y => match y with | .bool b => b == k | _ => false)) ⟨ho, fun y hy => ?_, ?_⟩
  · obtain ⟨b, hb, rfl⟩ := List.mem_map.mp (List.mem_toArray.mp hy)
    exact SeqAt.EqAt.bool_bool b k
  · refine ⟨.int _, H, I.tok _, ⟨_, rfl⟩, ?_⟩
    have e2 : List.countP (fun y => match y with | Value.bool b => b == k | _ => false) (bs.map Value.bool).toArray.toList = bs.count k := by
      simp only [List.countP_map]
      rfl
    rw [e2]
    exact q
theorem mt_indexE {e : Ev} {X : Cx} (hX : Of e X := by exact ⟨rfl, rfl, rfl, rfl, rfl⟩) : MtR X "list.index" (rIndex e.K) := by rw [← hX.K]; exact mt_index
theorem mt_countE {e : Ev} {X : Cx} (hX : Of e X := by exact ⟨rfl, rfl, rfl, rfl, rfl⟩) : MtR X "list.count" (rCntB e.K) := by rw [← hX.K]; exact mt_countB

theorem count_rep {a : Nat} {l : List Nat} : ∀ n : Nat, (List.replicate n l).flatten.count a = n * l.count a
  | 0 => by simp
  | n + 1 => by rw [List.replicate_succ, List.flatten_cons, List.count_append, count_rep n, Nat.succ_mul, Nat.add_comm]
theorem len_rep {l : List Nat} : ∀ n : Nat, (List.replicate n l).flatten.length = n * l.length
  | 0 => by simp
  | n + 1 => by rw [List.replicate_succ, List.flatten_cons, List.length_append, len_rep n, Nat.succ_mul, Nat.add_comm]
theorem count_drop_le {a : Nat} {l : List Nat} {i j : Nat} (h : i ≤ j) : (l.take i).count a + (l.drop j).count a ≤ l.count a := by
  have h1 : l.count a = (l.take i).count a + (l.drop i).count a := by rw [← List.count_append, List.take_append_drop]
  have h2 : (l.drop j).count a ≤ (l.drop i).count a := by
    have : l.drop j = (l.drop i).drop (j - i) := by rw [List.drop_drop]; congr 1; omega
    rw [this]
    exact (List.drop_sublist _ _).count_le _
  omega
theorem at_ex {α : Type} {l : List α} {i : Int} (h0 : 0 ≤ i) (h1 : i < (l.length : Int)) : ∃ c, atI l i = some c := by
  obtain ⟨n, rfl⟩ : ∃ n : Nat, i = n := ⟨i.toNat, by omega⟩
  have h2 : n < l.length := by omega
  exact ⟨l[n], atI_nat (List.getElem?_eq_getElem h2)⟩
theorem nat_of_at {α : Type} {l : List α} {n : Nat} {c : α} (h : atI l ((n : Nat) : Int) = some c) : l[n]? = some c := by
  cases e : l[n]? with
  | some d =>
    have := atI_nat e
    rw [this] at h
    exact h
  | none =>
    unfold atI ixN at h
    have := List.getElem?_eq_none_iff.mp e
    rw [if_pos (by omega), if_neg (by omega)] at h
    cases h

abbrev s__law_row : Stmt := top 60
theorem sc__law_row : FnScope ["_law_fact_here", "_law_sign"] ["_law_fact_here"] (defScope s__law_row) := ⟨rfl, rfl, rfl, by decide +kernel, rfl, by decide +kernel, by decide +kernel⟩
abbrev s_written : Stmt := top 42
theorem sc_written : FnScope ["board", "fact"] ["board"] (defScope s_written) := ⟨rfl, rfl, rfl, by decide +kernel, rfl, by decide +kernel, by decide +kernel⟩
abbrev s_opened : Stmt := top 43
theorem sc_opened : FnScope ["rows", "board", "fact", "row"] ["rows"] (defScope s_opened) := ⟨rfl, rfl, rfl, by decide +kernel, rfl, by decide +kernel, by decide +kernel⟩
/-- a row's text and the fact that it writes, if it writes one -/
structure RowZ (z : Str) (o : Option Fc) : Prop where
  len : z.length ≤ 1000000
  cut : ∀ p ∈ Txt.split z " ", p.length ≤ 1000000 ∧ (p.length ≤ 320 → p.cps.toList.count 40 < 41)
  rd : readF 41 z = o
  dr : ∀ f, o = some f → f.drawn
theorem rowZ_text {f : Fc} (h : f.drawn) : RowZ f.text (some f) := by
  have l1 := text_len f.l
  have l2 := text_len f.r
  have l3 := f.w.sign_len
  have e3 : (" " : Str).length = 1 := by decide +kernel
  have k1 := Tm.codes_le h.good.1
  have k2 := Tm.codes_le h.good.2
  have c1 := h.cl
  have c2 := h.cr
  have fl : f.text.length ≤ 1000 := by
    rw [← Fc.spaced]
    have l4 := f.w.spaced_len
    simp only [len_cps, app_cps, List.length_append] at l1 l2 l4 ⊢
    omega
  refine ⟨by omega, fun p hp => ?_, readF_text h.fine ⟨Nat.le_trans h.dl (by decide), Nat.le_trans h.dr (by decide)⟩, fun g hg => by cases hg; exact h⟩
  rw [Fc.split h.good] at hp
  simp only [List.mem_cons, List.not_mem_nil, or_false] at hp
  rcases hp with rfl | rfl | rfl
  · exact ⟨by omega, fun _ => by rw [text_cps]; have := Tm.codes_opens h.good.1; omega⟩
  · refine ⟨by omega, fun _ => ?_⟩
    have : f.w.sign.cps.toList.count 40 = 0 := by cases f.w <;> decide +kernel
    omega
  · exact ⟨by omega, fun _ => by rw [text_cps]; have := Tm.codes_opens h.good.2; omega⟩
theorem drawn_shown {f : Fc} (h : f.drawn) : f.shown 41 := by
  have k1 := Tm.codes_le h.good.1
  have k2 := Tm.codes_le h.good.2
  have c1 := h.cl
  have c2 := h.cr
  exact ⟨Tm.good_short h.good.1, Tm.good_short h.good.2, Nat.le_trans h.dl (by decide), Nat.le_trans h.dr (by decide), by omega, by omega⟩
def badK : List Str := ["", "a", "a = ", "a == b", "A = b"]
theorem rowZ_bad : ∀ z ∈ badK, RowZ z none := fun z hz => by
  have h : ∀ z ∈ badK, z.length ≤ 1000000 ∧ (∀ p ∈ Txt.split z " ", p.length ≤ 1000000 ∧ (p.length ≤ 320 → p.cps.toList.count 40 < 41)) ∧ (readF 41 z).isNone = true := by decide +kernel
  obtain ⟨h1, h2, h3⟩ := h z hz
  exact ⟨h1, h2, Option.isNone_iff_eq_none.mp h3, fun f hf => by cases hf⟩
def spLRow : Sp := fun vs H Q _ => ∃ (v : V) (f : Fc), vs = [v] ∧ DaAt H v f.da ∧ f.drawn ∧ ∀ H', Same H H' → Q (.str f.text) H'
def textsV (F : List Fc) : List V := F.map fun f => V.str f.text
def spWritten (C : Addr) : Sp := fun vs H Q _ => ∃ (b dx T M : Addr) (F : List Fc) (ms : List Nat), vs = [.ref b] ∧ BdS C H b dx T M F ms ∧ (∀ f ∈ F, f.drawn) ∧ F.length ≤ 40 ∧ ∀ p H', H p = none → Same H H' → H' p = some (.lst (textsV F)) → Q (.ref p) H'
/-- rows -/
def RowsAt (H : Hp) (r : Addr) (l : List (Str × Option Fc)) : Prop := LD H r (l.map fun p => Da.str p.1)
/-- rows read to a board -/
def spOpened (C Cb Cu Cc : Addr) : Sp := fun vs H Q E => ∃ (r : Addr) (l : List (Str × Option Fc)), vs = [.ref r] ∧ RowsAt H r l ∧ (∀ p ∈ l, RowZ p.1 p.2) ∧ l.length ≤ 100 ∧
  (none ∈ l.map (·.2) → ∀ H', Same H H' → E (.ref Cb) none H') ∧
  (∀ F : List Fc, l.map (·.2) = F.map some → (Stands F ∨ F.length ≤ 40) ∧
    (Stands F → F.length ≤ 40 → ∀ b dx T M H', H b = none → H T = none → H M = none → Same H H' → BdS C H' b dx T M F [] → Q (.ref b) H') ∧
    (¬ Stands F → ∀ xd rp H', Same H H' → H' xd = some (.xd [("row", .ref rp)]) → E (.ref Cc) (some xd) H') ∧
    (Stands F → 40 < F.length → ∀ H', Same H H' → E (.ref Cu) none H'))
theorem spOpened_mono {C Cb Cu Cc : Addr} {vs : List V} {H : Hp} {Q : VK} {E E' : XK} (hE : ∀ c d H', E' c d H' → E c d H') (h : spOpened C Cb Cu Cc vs H Q E') : spOpened C Cb Cu Cc vs H Q E := by
  obtain ⟨r, l, h1, h2, h3, h4, h5, h6⟩ := h
  exact ⟨r, l, h1, h2, h3, h4, fun a H' S => hE _ _ _ (h5 a H' S), fun F e => let ⟨a, b, c, d⟩ := h6 F e; ⟨a, b, fun x xd rp H' S w => hE _ _ _ (c x xd rp H' S w), fun x y H' S => hE _ _ _ (d x y H' S)⟩⟩
theorem all2_some {H : Hp} : ∀ {l : List (Str × Option Fc)} {ws : List V}, All2 (fun p w => ∃ f, p.2 = some f ∧ DaAt H w f.da) l ws → ∃ F : List Fc, l.map (·.2) = F.map some ∧ DasAt H ws (F.map Fc.da)
  | _, _, .nil => ⟨[], rfl, .nil⟩
  | _, _, .cons ⟨f, e, h⟩ t => by
    obtain ⟨F, e2, h2⟩ := all2_some t
    exact ⟨f :: F, by rw [List.map_cons, List.map_cons, e, e2], .cons h h2⟩
section
variable {e : Ev} (B : Bl e)
include B
theorem ok_lrow (A__law_row : At e "_law_row" ["_law_fact_here"] s__law_row) (h__law_text : Has e 41 "_law_text" ["_law_term_here"] (spShown 41)) : Has e 42 "_law_row" ["_law_fact_here"] spLRow := by
  refine A__law_row.ok (k := 41) sc__law_row (fun vs H Q E h => ?_) (fun f0 cdv A outer s H vs Q E hr h => ?_)
  · obtain ⟨_, _, rfl, _⟩ := h
    rfl
  obtain ⟨v, fc, rfl, hv, fd, q⟩ := h
  have nd := sc__law_row.nd
  have hls := sizeLine_eq
  refine ⟨_, pss_cons (ps_st 1 nd (pe_dget (hu1 hr) (pe_disp (pps_cons pe_str pe_str (pps_cons pe_str pe_str (pps_cons pe_str pe_str (pps_cons pe_str pe_str pps_nil)))) rfl rfl (by simp) (by decide)) (pe_ix ix_tupD (pv 0) pe_int (fun _ _ => rfl)) (fun _ _ => rfl)))
    (pss_one (ps_ret (pe_op op_add_str (pe_op op_add_str (pe_callH h__law_text hr (pa_cons (pe_ix ix_tupD (pv 0) pe_int (fun _ _ => rfl)) pa_nil)) (pv 1)) (pe_callH h__law_text hr (pa_cons (pe_ix ix_tupD (pv 0) pe_int (fun _ _ => rfl)) pa_nil))))), ?_⟩
  obtain ⟨s1, s2, d1, d2, n1, n2⟩ := drawn_shown fd
  refine fun p hp => ⟨upd_same, spacedK, rfl, by decide, ?_⟩
  obtain ⟨H4, eH4⟩ : ∃ H4, H4 = upd (upd H p (.dK [])) p (.dK (mergeK [] spacedK)) := ⟨_, rfl⟩
  rw [← eH4]
  have S4 : Same H H4 := by rw [eH4]; exact same_put (same_new hp _) hp _
  have hd4 : H4 p = some (.dK (mergeK [] spacedK)) := by rw [eH4]; exact upd_same
  clear eH4
  have hv4 : DaAt H4 v (.tup [.str fc.w.name, fc.l.da, fc.r.da]) := hv.mono (TX.of_same S4)
  refine ⟨_, rfl, _, 0, _, hv4, rfl, at0, fun w hw => ?_⟩
  obtain rfl := hw.str_inv
  have hg : DGet H4 p (.str fc.w.name) (some (.str fc.w.spaced)) := by
    have h := DGet.k (k := .inr fc.w.name) hd4
    rw [Wd.in_spaced] at h
    exact h
  refine ⟨p, _, rfl, hg, ?_⟩
  have l1 := text_len fc.l
  have l2 := text_len fc.r
  have l3 := fc.w.spaced_len
  refine ⟨_, rfl, _, 1, _, hv4, rfl, at1, fun v1 h1 => ⟨v1, fc.l, rfl, h1, s1, by omega, by omega, fun H5 S5 => ?_⟩⟩
  have hv5 := hv4.mono (TX.of_same S5)
  refine ⟨_, rfl, _, _, rfl, rfl, by omega, _, rfl, _, 2, _, hv5, rfl, at2, fun v2 h2 => ⟨v2, fc.r, rfl, h2, s2, by omega, by omega, fun H6 S6 => ⟨_, _, rfl, rfl, ?_, ?_⟩⟩⟩
  · have : (fc.l.text ++ fc.w.spaced).length = fc.l.text.length + fc.w.spaced.length := by rw [len_cps, app_cps, List.length_append, ← len_cps, ← len_cps]
    omega
  rw [Fc.spaced]
  exact q _ ((S4.trans S5).trans S6)
theorem ok_written (A_written : At e "written" ["board"] s_written) (c_Board : BdC e C_Board) (h_Board_facts : HasM e 1 C_Board "facts" ["self"] (spBFacts C_Board)) (h_shown_fact : Has e 42 "shown_fact" ["fact"] (spShownF 41)) : Has e 43 "written" ["board"] (spWritten C_Board) := by
  refine A_written.ok (k := 42) sc_written (fun vs H Q E h => ?_) (fun f0 cdv A outer s H vs Q E hr h => ?_)
  · obtain ⟨_, _, _, _, _, _, rfl, _⟩ := h
    rfl
  obtain ⟨b, dx, T, M, F, ms, rfl, hB, hFd, hFl, q⟩ := h
  have nd := sc_written.nd
  have hls := sizeLine_eq
  refine ⟨_, pss_one (ps_ret (pe_lc (own := [("fact", 1)]) (by rfl) nd (pi_list (pe_methH0 h_Board_facts hr c_Board.cl (pv 0))) (blkOk_by (N := ["board", "fact"]) (sc := defScope s_written) (by decide +kernel)) (fun _ _ _ _ _ => pg_nm 1 nd) (fun _ _ _ _ _ => pts_nil) (fun _ _ _ _ _ => pe_callH h_shown_fact hr (pa_cons (pv 1) pa_nil)))), ?_⟩
  refine ⟨_, rfl, b, dx, _, rfl, hB.obj, by rfl, b, dx, T, M, F, ms, rfl, hB, fun p H1 hp S1 L1 => ?_⟩
  refine ⟨p, rfl, lc_listG (l := F) (Gm := Fc.da) (pr := fun _ => true) (R := fun f w _ => w = V.str f.text) L1 (fun _ _ _ _ _ h => h) (by omega) ?_ ?_⟩
  · intro x f H2 hfm hx S2 Q' N' k1 k2
    exact ⟨rfl, _, rfl, x, f, rfl, hx, drawn_shown (hFd f hfm), fun H3 S3 => k1 rfl _ _ S3 rfl⟩
  intro D H2 ws hD S2 hDl hall
  rw [show F.filter (fun _ => true) = F from List.filter_eq_self.mpr fun _ _ => rfl] at hall
  have ew : ws = textsV F := hall.eqs (F := fun f : Fc => V.str f.text)
  rw [ew] at hDl
  exact q D H2 (same_none S1 hD) (S1.trans S2) hDl
theorem ok_opened (A_opened : At e "opened" ["rows"] s_opened) (c_Board : BdC e C_Board) {Cn Cf Cb Cu Cc : Addr} (h_Board___init__ : HasI e 1 C_Board ["self"] (spBInit C_Board)) (h_Board_tell : HasM e 22 C_Board "tell" ["self", "fact"] (spTell C_Board Cn Cf Cu Cc 8))
    (h_read_fact : Has e 86 "read_fact" ["text"] (spReadF Cb 41)) : Has e 87 "opened" ["rows"] (spOpened C_Board Cb Cu Cc) := by
  refine A_opened.okX (k := 86) sc_opened (fun vs H Q E h => ?_) (fun f0 cdv A outer s H vs Q E hr h => ?_)
  · obtain ⟨_, _, rfl, _⟩ := h
    rfl
  obtain ⟨r, l, rfl, hR, hZ, hl, qb, q⟩ := h
  have nd := sc_opened.nd
  have hls := sizeLine_eq
  refine ⟨_, pss_cons (ps_st 1 nd (pe_makeH0 h_Board___init__ c_Board.mg hr))
    (pss_cons (ps_for (passes_of rfl) rfl (pi_list (pe_lcX (own := [("row", 3)]) (by rfl) nd (pi_list (pv 0)) (blkOk_by (N := ["rows", "board", "fact", "row"]) (sc := defScope s_opened) (by decide +kernel)) rfl rfl (takes_of rfl rfl rfl rfl) (fun _ _ _ _ _ => pg_nm 3 nd) (fun _ _ _ _ _ _ => pe_callB h_read_fact rfl rfl rfl hr (pa_cons (pv 3) pa_nil)))) (pg_nm 2 nd)
      (pss_one (ps_expr (pe_methX h_Board_tell hr (takes_of rfl rfl rfl rfl) c_Board.cl (pv 1) (pa_cons (pv 2) pa_nil)))))
    (pss_one (ps_ret (pv 1)))), ?_⟩
  refine fun b dx hb hdx hne => ?_
  have S1 : Same H (upd (upd H dx (.own b)) b (.ins C_Board dx [])) := same_put (same_new hdx _) hb _
  have o1 : (upd (upd H dx (.own b)) b (.ins C_Board dx [])) b = some (.ins C_Board dx []) := upd_same
  generalize upd (upd H dx (.own b)) b (.ins C_Board dx []) = H1 at S1 o1 ⊢
  refine ⟨b, dx, rfl, o1, fun T M H2 B2 hT hM hB2 => ⟨rfl, ?_⟩⟩
  have S2 : Same H H2 := B2.same S1 hb
  have hT0 : H T = none := same_none S1 hT
  have hM0 : H M = none := same_none S1 hM
  refine ⟨_, rfl, r, rfl, lc_listG (l := l) (Gm := fun p : Str × Option Fc => Da.str p.1) (pr := fun _ => true) (R := fun p w H' => ∃ f, p.2 = some f ∧ DaAt H' w f.da) (hR.mono S2) (fun _ _ _ _ t h => let ⟨f, e1, e2⟩ := h; ⟨f, e1, e2.mono t⟩) (by omega) ?_ ?_⟩
  · intro x p H3 hpm hx S3 Q' N' k1 k2
    obtain rfl := hx.str_inv
    have z := hZ p hpm
    refine ⟨rfl, _, rfl, p.1, rfl, z.len, z.cut, by decide, fun f hf v H4 S4 hv => ?_, fun hf H4 S4 => ?_⟩
    · rw [z.rd] at hf
      exact k1 rfl _ _ S4 ⟨f, hf, hv⟩
    · rw [z.rd] at hf
      exact qb (List.mem_map.mpr ⟨p, hpm, hf⟩) _ ((S2.trans S3).trans S4)
  intro D H3 ws hD S3 hDl hall
  rw [show l.filter (fun _ => true) = l from List.filter_eq_self.mpr fun _ _ => rfl] at hall
  obtain ⟨F, eF, hDas⟩ := all2_some hall
  obtain ⟨h41, qq, qc, qu⟩ := q F eF
  have hFd : ∀ f ∈ F, f.drawn := fun f hf => by
    have : some f ∈ l.map (·.2) := by rw [eF]; exact List.mem_map_of_mem hf
    obtain ⟨p, hp, e1⟩ := List.mem_map.mp this
    exact (hZ p hp).dr f e1
  have S03 := S2.trans S3
  have hB3 := hB2.same S3
  have hlen : ws.length = F.length := by rw [hDas.length, List.length_map]
  have nDT : D ≠ T := by
    obtain ⟨_, h1, _⟩ := hB2.told
    exact (ne_of_none h1 hD).symm
  refine ⟨D, rfl, ⟨_, SqL.of hDl⟩, for_list (xs := ws) (fun i σ H' => (∃ u2 u3, σ = [some (.ref r), some (.ref b), u2, u3]) ∧ But T H3 H' ∧ TX H3 H' ∧ BdS C_Board H' b dx T M (F.take i) [] ∧ Stands (F.take i) ∧ i ≤ 40) ⟨⟨_, _, rfl⟩, But.refl _, TX.refl _, hB3, stands_nil, Nat.zero_le _⟩
    (fun i σ H' _ h => SqL.of (h.2.1 _ _ nDT hDl)) ?_ ?_⟩
  · rintro i x σ J1 hx ⟨⟨u2, u3, rfl⟩, k1, t1, hBi, hst, h40⟩
    obtain ⟨dx0, hdx0, hxd⟩ := hDas.at hx
    rw [List.getElem?_map] at hdx0
    obtain ⟨f, hf, rfl⟩ := Option.map_eq_some_iff.mp hdx0
    have hfd := hFd f (List.mem_of_getElem? hf)
    have hil : i < F.length := (List.getElem?_eq_some_iff.mp hf).1
    have SJ : Same H J1 := k1.same S03 hT0
    refine ⟨_, rfl, b, dx, _, rfl, hBi.obj, by rfl, _, rfl, ?_⟩
    have litf := hfd.lit
    refine ⟨b, dx, T, M, x, f.w.name, [f.l, f.r], F.take i, [], rfl, hBi, fun g hg => (hFd g (List.mem_of_mem_take hg)).lit, by rw [List.length_take]; omega, hxd.mono t1, fun t ht => ?_, by simp, fun z => ?_, fun w s t ez et hx => ?_, fun w s t ez et fs ft => ?_⟩
    · simp only [List.mem_cons, List.not_mem_nil, or_false] at ht
      rcases ht with rfl | rfl
      · exact ⟨Tm.good_short litf.good.1, Nat.le_trans litf.dl (by decide)⟩
      · exact ⟨Tm.good_short litf.good.2, Nat.le_trans litf.dr (by decide)⟩
    · exfalso
      rcases z with z | z
      · exact z (Wd.name_in f.w)
      · exact z rfl
    · exfalso
      simp only [List.cons.injEq, and_true] at et
      obtain ⟨rfl, rfl⟩ := et
      exact hx hfd.fine
    simp only [List.cons.injEq, and_true] at et
    obtain ⟨rfl, rfl⟩ := et
    obtain rfl : w = f.w := (Wd.name_inj ez).symm
    have htl : (F.take i).length = i := by rw [List.length_take]; omega
    refine ⟨litf, fun z H' S => ?_, fun z hns xd rp ks H' _ _ S wx _ _ => ?_, fun z hs H' b2 t2 hB2 => ?_⟩
    · have hs : Stands F := by
        rcases h41 with h | h
        · exact h
        · omega
      exact qu hs (by omega) _ (SJ.trans S)
    · exact qc (fun hs => hns (stands_take hs hf)) xd rp _ (SJ.trans S) wx
    · rw [show (⟨f.w, f.l, f.r⟩ : Fc) = f from rfl, ← take_snoc hf] at hB2
      rw [show (⟨f.w, f.l, f.r⟩ : Fc) = f from rfl, ← take_snoc hf] at hs
      exact ⟨⟨_, _, rfl⟩, k1.trans b2, t1.trans t2, hB2, hs, by omega⟩
  rintro σ H4 ⟨⟨u2, u3, rfl⟩, k1, t1, hBi, hst, h40⟩
  rw [hlen, List.take_length] at hBi hst
  rw [hlen] at h40
  exact ⟨_, rfl, qq hst h40 b dx T M H4 hb hT0 hM0 (k1.same S03 hT0) hBi⟩
end

abbrev s__law_word : Stmt := top 61
theorem sc__law_word : FnScope ["_law_rows", "e", "_law_kinds"] ["_law_rows"] (defScope s__law_word) := ⟨rfl, rfl, rfl, by decide +kernel, rfl, by decide +kernel, by decide +kernel⟩
/-- the word by which rows are refused, nothing where they are taken -/
def spLWord : Sp := fun vs H Q _ => ∃ (r : Addr) (l : List (Str × Option Fc)), vs = [.ref r] ∧ RowsAt H r l ∧ (∀ p ∈ l, RowZ p.1 p.2) ∧ l.length ≤ 100 ∧
  (none ∈ l.map (·.2) → ∀ H', Same H H' → Q (.str "text") H') ∧
  (∀ F : List Fc, l.map (·.2) = F.map some → (Stands F ∨ F.length ≤ 40) ∧
    (Stands F → F.length ≤ 40 → ∀ H', Same H H' → Q (.str "") H') ∧ (¬ Stands F → ∀ H', Same H H' → Q (.str "clash") H') ∧ (Stands F → 40 < F.length → ∀ H', Same H H' → Q (.str "full") H'))
def kinds3 : List (Bool × Bool × Bool × Str) := [(true, false, false, "clash"), (false, true, false, "text"), (false, false, true, "full")]
section
variable {e : Ev} (B : Bl e)
include B
theorem ok_word21 (A__law_word : At e "_law_word" ["_law_rows"] s__law_word) {C_Board C_BoardError C_NoTerm C_NoFact C_Full C_NoMark C_Clash C_BadText : Addr} (g_BoardError : Glo e "BoardError" C_BoardError) (g_NoTerm : Glo e "NoTerm" C_NoTerm) (g_NoFact : Glo e "NoFact" C_NoFact)
    (g_Full : Glo e "Full" C_Full) (g_NoMark : Glo e "NoMark" C_NoMark) (g_Clash : Glo e "Clash" C_Clash) (g_BadText : Glo e "BadText" C_BadText) (t_BadText : Takes1 e C_BadText C_BoardError) (t_Clash : Takes1 e C_Clash C_BoardError) (t_Full : Takes1 e C_Full C_BoardError)
    (x_BadText : ExcK e C_BadText (kts [(C_NoTerm, false), (C_NoFact, false), (C_Full, false), (C_NoMark, false), (C_Clash, false), (C_BadText, true)]))
    (x_Clash : ExcK e C_Clash (kts [(C_NoTerm, false), (C_NoFact, false), (C_Full, false), (C_NoMark, false), (C_Clash, true), (C_BadText, false)]))
    (x_Full : ExcK e C_Full (kts [(C_NoTerm, false), (C_NoFact, false), (C_Full, true), (C_NoMark, false), (C_Clash, false), (C_BadText, false)]))
    (h_opened : Has e 87 "opened" ["rows"] (spOpened C_Board C_BadText C_Full C_Clash)) : Has e 88 "_law_word" ["_law_rows"] spLWord := by
  refine A__law_word.ok (k := 87) sc__law_word (fun vs H Q E h => ?_) (fun f0 cdv A outer s H vs Q E hr h => ?_)
  · obtain ⟨_, _, rfl, _⟩ := h
    rfl
  obtain ⟨r, l, rfl, hR, hZ, hl, qb, q⟩ := h
  have nd := sc__law_word.nd
  have hls := sizeLine_eq
  refine ⟨_, pss_cons (ps_try_as (i := 1) rfl rfl nd rfl rfl (names_own g_BoardError) takes0 (fun W pn xe tk hp => pss_one (ps_expr (pe_callX h_opened hr tk (pa_cons (pv 0) pa_nil))))
      (fun a oe cls d pn hz hf => pss_cons (ps_st 2 nd (pe_lstA (pa_cons (pe_b (call_isGH hz hf) B.isinstance (pa_cons (pv 1) (pa_cons (pe_glo g_Clash) pa_nil))) (pa_cons (pe_b (call_isGH hz hf) B.isinstance (pa_cons (pv 1) (pa_cons (pe_glo g_BadText) pa_nil))) (pa_cons (pe_b (call_isGH hz hf) B.isinstance (pa_cons (pv 1) (pa_cons (pe_glo g_Full) pa_nil))) pa_nil)))))
        (pss_cons (ps_if (PW.pt (pw_or (pt_val (pe_b (call_isTH hz hf) B.isinstance (pa_cons (pv 1) (pa_cons (pe_tup (pa_cons (pe_glo g_NoTerm) (pa_cons (pe_glo g_NoFact) (pa_cons (pe_glo g_NoMark) pa_nil)))) pa_nil)))) (pw_or (pt_not (pt_val (pe_b (call_isGH hz hf) B.isinstance (pa_cons (pv 1) (pa_cons (pe_tyv (T := "ValueError") B.ValueError) pa_nil))))) (pw_or1 (pt_cmpR op_ne (pe_bmE (e := e) PySem.F.plainAttrs_list PySem.F.slot_list_count PySem.F.type_list_count (mt_countE (e := e)) (pv 2) (pa_cons pe_bl pa_nil)) pe_int (nomark _))))))
          (pss_one (ps_ret pe_str))
          (pss_nil))
        (pss_one (ps_ret (pe_ix (ix_listE (e := e)) (pe_lstA (pa_cons pe_str (pa_cons pe_str (pa_cons pe_str pa_nil)))) (pe_bmE (e := e) PySem.F.plainAttrs_list PySem.F.slot_list_index PySem.F.type_list_index (mt_indexE (e := e)) (pv 2) (pa_cons pe_bl pa_nil)) (fun _ _ => rfl)))))))
    (pss_one (ps_ret pe_str)), ?_⟩
  refine ⟨_, rfl, ?_⟩
  unfold tNil
  refine spOpened_mono (E' := fun cls d H' => ∃ (C : Addr) (b1 b2 b3 : Bool) (z : Str), cls = .ref C ∧ XdAt d H' ∧ Takes1 e C C_BoardError ∧ ExcK e C (kts [(C_NoTerm, false), (C_NoFact, false), (C_Full, b3), (C_NoMark, false), (C_Clash, b1), (C_BadText, b2)]) ∧ (b1, b2, b3, z) ∈ kinds3 ∧ ∀ H'', Same H' H'' → Q (.str z) H'')
    (fun cls d H' hE => ?_) ⟨r, l, rfl, hR, hZ, hl, fun hn H' S => ?_, fun F eF => ?_⟩
  rotate_left
  · exact ⟨C_BadText, false, true, false, "text", rfl, .inl rfl, t_BadText, x_BadText, by simp [kinds3], fun H'' S' => qb hn _ (S.trans S')⟩
  · obtain ⟨h41, q0, qc, qu⟩ := q F eF
    refine ⟨h41, fun hs h40 b dx T M H' _ _ _ S _ => q0 hs h40 _ S, fun hns xd rp H' S wx => ?_, fun hs h40 H' S => ?_⟩
    · exact ⟨C_Clash, true, false, false, "clash", rfl, .inr ⟨xd, _, rfl, wx⟩, t_Clash, x_Clash, by simp [kinds3], fun H'' S' => qc hns _ (S.trans S')⟩
    · exact ⟨C_Full, false, false, true, "full", rfl, .inl rfl, t_Full, x_Full, by simp [kinds3], fun H'' S' => qu hs h40 _ (S.trans S')⟩
  obtain ⟨C, b1, b2, b3, z, rfl, hd, tk, xk, hk, hq⟩ := hE
  have key : [b1, b2, b3].count true = 1 ∧ ∃ j : Nat, [b1, b2, b3][j]? = some true ∧ (∀ i, i < j → [b1, b2, b3][i]? = some false) ∧ (["clash", "text", "full"] : List Str)[j]? = some z := by
    simp only [kinds3, List.mem_cons, List.not_mem_nil, or_false, Prod.mk.injEq] at hk
    rcases hk with ⟨rfl, rfl, rfl, rfl⟩ | ⟨rfl, rfl, rfl, rfl⟩ | ⟨rfl, rfl, rfl, rfl⟩
    · exact ⟨rfl, 0, rfl, (fun i hi => by omega), rfl⟩
    · exact ⟨rfl, 1, rfl, (fun i hi => by have h0 : i = 0 := (by omega); subst h0; rfl), rfl⟩
    · exact ⟨rfl, 2, rfl, (fun i hi => by rcases (show i = 0 ∨ i = 1 by omega) with rfl | rfl <;> rfl), rfl⟩
  obtain ⟨hcount, j, hj, hji, hz⟩ := key
  clear hk
  refine ⟨true, tk, fun _ a ha => ?_, fun z => nomatch z⟩
  have ix : ∀ {D : Addr} {bb : Bool}, (D, bb) ∈ [(C_NoTerm, false), (C_NoFact, false), (C_Full, b3), (C_NoMark, false), (C_Clash, b1), (C_BadText, b2)] → (V.ref D, Value.ref D, bb) ∈ kts [(C_NoTerm, false), (C_NoFact, false), (C_Full, b3), (C_NoMark, false), (C_Clash, b1), (C_BadText, b2)] := fun h => kts_of h
  refine ⟨_, rfl, C, _, _, _, b1, rfl, hd, xk, rfl, ix (by simp), _, rfl, C, _, _, _, b2, rfl, hd, xk, rfl, ix (by simp), _, rfl, C, _, _, _, b3, rfl, hd, xk, rfl, ix (by simp), ?_⟩
  refine ⟨by simp only [List.length_cons, List.length_nil]; omega, fun p1 H1 hp1 S1 w1 => ?_⟩
  have hd1 : XdAt d H1 := by
    rcases hd with h | ⟨dd, fs, h1, h2⟩
    · exact .inl h
    · exact .inr ⟨dd, fs, h1, S1 _ _ h2⟩
  refine ⟨_, rfl, by simp only [List.length_cons, List.length_nil]; omega, fun p hp => ?_⟩
  have S2 : Same H1 (upd H1 p (.tup [V.ref C_NoTerm, V.ref C_NoFact, V.ref C_NoMark])) := same_new hp _
  have wp : (upd H1 p (.tup [V.ref C_NoTerm, V.ref C_NoFact, V.ref C_NoMark])) p = some (.tup [V.ref C_NoTerm, V.ref C_NoFact, V.ref C_NoMark]) := upd_same
  generalize upd H1 p (.tup [V.ref C_NoTerm, V.ref C_NoFact, V.ref C_NoMark]) = H2 at S2 wp ⊢
  have hd2 : XdAt d H2 := by
    rcases hd1 with h | ⟨dd, fs, h1, h2⟩
    · exact .inl h
    · exact .inr ⟨dd, fs, h1, S2 _ _ h2⟩
  have w2 : H2 p1 = some (.lst ([b1, b2, b3].map V.bl)) := S2 _ _ w1
  refine ⟨C, _, ktt [(C_NoTerm, false), (C_NoFact, false), (C_NoMark, false)], p, rfl, hd2, xk, rfl, wp, ktt_sub (by simp), _, rfl, ?_⟩
  refine ⟨_, rfl, C, _, _, _, true, rfl, hd2, xk, rfl, kts_ve, _, rfl, ?_⟩
  refine ⟨_, rfl, .inl ⟨rfl, _, SqL.of w2⟩, p1, [b1, b2, b3], true, rfl, rfl, SqL.of w2, rfl, _, rfl, ?_⟩
  rw [hcount]
  refine ⟨by simp only [List.length_cons, List.length_nil]; omega, fun p3 H3 hp3 S3 w3 => ?_⟩
  refine ⟨_, rfl, .inl ⟨rfl, _, SqL.of (S3 _ _ w2)⟩, p1, [b1, b2, b3].map V.bl, .bl true, j, .bl true, rfl, rfl, SqL.of (S3 _ _ w2), rfl, by simp [flatV], by rw [List.getElem?_map, hj]; rfl, rfl, fun m z' hm hz' => ?_, ?_⟩
  · rw [List.getElem?_map, hji m hm] at hz'
    obtain rfl := Option.some.inj hz'
    rfl
  refine ⟨p3, _, (j : Int), .str z, rfl, rfl, SqL.of w3, atI_nat ?_, hq _ ((S1.trans S2).trans S3)⟩
  have : ([V.str "clash", V.str "text", V.str "full"] : List V) = (["clash", "text", "full"] : List Str).map V.str := rfl
  rw [this, List.getElem?_map, hz]
  rfl
end

abbrev s_law : Stmt := top 62
theorem sc_law : FnScope ["_law_script", "_law_works_here", "_law_facts_here", "_law_board", "_law_fact_here", "_law_due", "_law_found", "_law_handed", "_law_d", "_law_every", "_law_rows", "_law_word_here", "_law_at", "_law_many", "_law_one"] ["_law_script"] (defScope s_law) := ⟨rfl, rfl, rfl, by decide +kernel, rfl, by decide +kernel, by decide +kernel⟩
theorem cutV_to (l : List V) {k : Nat} (h : k ≤ l.length) : cutV l none (some (k : Int)) = l.take k := cutD_to l h
theorem strs_das {H : Hp} : ∀ zs : List Str, DasAt H (zs.map V.str) (zs.map Da.str)
  | [] => .nil
  | _ :: r => .cons .str (strs_das r)
theorem strs_ld {H : Hp} {p : Addr} {zs : List Str} (h : H p = some (.lst (zs.map V.str))) : LD H p (zs.map Da.str) := ⟨_, h, strs_das zs⟩
theorem okS_text {f : Fc} (h : f.good) : okS f.text = true := by
  unfold AB.okS
  rw [← Array.all_toList, List.all_eq_true]
  intro c hc
  simp only [decide_eq_true_eq]
  have tm : ∀ {t : Tm}, t.good → c ∈ t.codes → c < 1114112 := fun {t} ht hc => by
    rcases Tm.codes_signs ht c hc with h | h | h | h
    · unfold letter at h
      simp only [Bool.and_eq_true, decide_eq_true_eq] at h
      omega
    · omega
    · omega
    · omega
  rw [← Fc.spaced, app_cps, app_cps, text_cps, text_cps] at hc
  rcases List.mem_append.mp hc with hc | hc
  · rcases List.mem_append.mp hc with hc | hc
    · exact tm h.1 hc
    · have : ∀ c ∈ f.w.spaced.cps.toList, c < 1114112 := by cases f.w <;> decide +kernel
      exact this c hc
  · exact tm h.2 hc
theorem okL_strs {zs : List Str} (h : ∀ z ∈ zs, okS z = true) : okL (zs.map Da.str) := fun d hd => by
  obtain ⟨z, hz, rfl⟩ := List.mem_map.mp hd
  exact ⟨h z hz, by simp [Da.depth]⟩
def texts (F : List Fc) : List Str := F.map Fc.text
theorem textsV_eq (F : List Fc) : textsV F = (texts F).map V.str := by unfold textsV texts; rw [List.map_map]; rfl
theorem okL_texts {F : List Fc} (h : ∀ f ∈ F, f.drawn) : okL ((texts F).map Da.str) := okL_strs fun z hz => by
  obtain ⟨f, hf, rfl⟩ := List.mem_map.mp hz
  exact okS_text (h f hf).good
/-- rows of facts -/
def rowsT (F : List Fc) : List (Str × Option Fc) := F.map fun f => (f.text, some f)
theorem rowsT_at {H : Hp} {p : Addr} {F : List Fc} (h : H p = some (.lst (textsV F))) : RowsAt H p (rowsT F) := by
  rw [textsV_eq] at h
  have h2 := strs_ld h
  unfold RowsAt rowsT
  unfold texts at h2
  rw [List.map_map] at h2 ⊢
  exact h2
theorem rowsT_ok {F : List Fc} (h : ∀ f ∈ F, f.drawn) : ∀ p ∈ rowsT F, RowZ p.1 p.2 := fun p hp => by
  obtain ⟨f, hf, rfl⟩ := List.mem_map.mp hp
  exact rowZ_text (h f hf)
theorem rowsT_some (F : List Fc) : (rowsT F).map (·.2) = F.map some := by unfold rowsT; rw [List.map_map]; rfl
theorem rowsT_no (F : List Fc) : none ∉ (rowsT F).map (·.2) := fun h => by
  rw [rowsT_some] at h
  obtain ⟨f, _, e⟩ := List.mem_map.mp h
  cases e
theorem map_some_inj : ∀ {F G : List Fc}, F.map some = G.map some → F = G
  | [], [], _ => rfl
  | [], _ :: _, h => by cases h
  | _ :: _, [], h => by cases h
  | f :: F, g :: G, h => by
    rw [List.map_cons, List.map_cons] at h
    injection h with h1 h2
    injection h1 with h1
    rw [h1, map_some_inj h2]
theorem stands_pos {F : List Fc} (h : ∀ f ∈ F, f.w = .alike ∨ f.w = .most) : Stands F := fun f hf hw => by
  rcases h f hf with h | h <;> rcases hw with hw | hw <;> rw [h] at hw <;> cases hw
/-- "a = a" -/
def aaF : Fc := ⟨.alike, nmT "a", nmT "a"⟩
theorem aaF_drawn : aaF.drawn := one_drawn (nmT_one g_a) (nmT_one g_a)
theorem aaF_text : aaF.text = "a = a" := str_ext (by decide +kernel)
theorem aa_stands {F : List Fc} (h : ∀ f ∈ F, f = aaF) : Stands F := stands_pos fun f hf => by rw [h f hf]; exact .inl rfl
def aaR : Str × Option Fc := ("a = a", some aaF)
theorem aaR_ok : RowZ aaR.1 aaR.2 := by
  have := rowZ_text aaF_drawn
  rw [aaF_text] at this
  exact this
theorem rep_rows {n : Nat} {H : Hp} {p : Addr} {k : Int} (hk : k.toNat = n) (h : H p = some (.lst (List.replicate k.toNat [V.str "a = a"]).flatten)) : H p = some (.lst ((List.replicate n ("a = a" : Str)).map V.str)) := by
  rw [hk] at h
  rw [h]
  congr 2
  clear h hk
  induction n with
  | zero => rfl
  | succ n ih => rw [List.replicate_succ, List.flatten_cons, ih, List.replicate_succ]; rfl
theorem rep_at {n : Nat} {H : Hp} {p : Addr} (h : H p = some (.lst ((List.replicate n ("a = a" : Str)).map V.str))) : RowsAt H p (List.replicate n aaR) := by
  have h2 := strs_ld h
  unfold RowsAt
  rw [List.map_replicate] at h2 ⊢
  exact h2
theorem rep_some {n : Nat} {F : List Fc} (h : (List.replicate n aaR).map (·.2) = F.map some) : F = List.replicate n aaF := by
  rw [List.map_replicate] at h
  refine map_some_inj ?_
  rw [← h, List.map_replicate]
  rfl
/-- a comprehension over what a list holds -/
theorem lc_refs {K : PySem.W.Frag} {H0 : Hp} {a : Addr} {xs : List V} {R : V → V → Prop} {g : TG} {tt : TT} {te : TE} {vs : List Nat} {σ : St} {Qd : Addr → Hp → Prop} (hv : H0 a = some (.lst xs)) (hz : xs.length ≤ 1000000)
    (hs : ∀ x H, x ∈ xs → Same H0 H → ∀ (Q' : V → Hp → Prop) (N : Hp → Prop), (∀ y H', Same H H' → R x y → Q' y H') → g x (wipe σ vs) H fun σ2 H2 => wipe σ2 vs = wipe σ vs ∧ tt σ2 H2 fun b H3 => if b = true then te σ2 H3 Q' else N H3)
    (hd : ∀ D H ws, H0 D = none → Same H0 H → H D = some (.lst ws) → All2 R xs ws → Qd D H) :
    (∃ xs, SqL K H0 a xs) ∧ ∀ D, H0 D = none → ∃ W : Nat → Nat → Hp → Prop, (∃ m, W 0 m (upd H0 D (.lst []))) ∧ ∀ i m H, W i m H →
      ((Itl K a).stop i H ∧ Qd D H) ∨ ((Itl K a).go i H ∧ ∃ Nx : Hp → Prop, (∀ H', Nx H' → ∃ m', m' < m ∧ W (i + 1) m' H') ∧ ∀ x H', (Itl K a).yld i H x H' → g x (wipe σ vs) H' fun σ2 H2 => wipe σ2 vs = wipe σ vs ∧ tt σ2 H2 fun b H3 =>
        if b = true then te σ2 H3 fun y H4 => ∃ acc, H4 D = some (.lst acc) ∧ acc.length < sizeLine ∧ Nx (upd H4 D (.lst (acc ++ [y]))) else Nx H3) := by
  refine ⟨⟨xs, SqL.of hv⟩, fun D hD => ?_⟩
  refine lc_list (K := K) (a := a) (xs := xs) (Qd := fun H => Qd D H) (fun i H => Same H0 H ∧ ∃ acc, H D = some (.lst acc) ∧ All2 R (xs.take i) acc)
    ⟨same_put (Same.refl H0) hD _, [], upd_same, .nil⟩ (fun i H _ p => SqL.of (p.1 _ _ hv)) (fun i x H hi p => ?_) (fun H p => by
      obtain ⟨s, acc, h5, h6⟩ := p
      rw [List.take_length] at h6
      exact hd D H acc hD s h5 h6)
  obtain ⟨s1, acc, h5, h6⟩ := p
  have hil : i < xs.length := (List.getElem?_eq_some_iff.mp hi).1
  refine hs x H (List.mem_of_getElem? hi) s1 _ _ fun y H' s2 hy => ?_
  refine ⟨acc, s2 _ _ h5, by rw [h6.length, List.length_take, sizeLine_eq]; omega, same_put (s1.trans s2) hD _, acc ++ [y], upd_same, ?_⟩
  rw [take_snoc hi]
  exact h6.append (.cons hy .nil)
/-- the word that rows are due -/
def DueZ (rs : List (Str × Option Fc)) (z : Str) : Prop := (none ∈ rs.map (·.2) → z = "text") ∧ ∀ F : List Fc, rs.map (·.2) = F.map some → (Stands F → z = "") ∧ (¬ Stands F → z = "clash")
theorem due_facts (F : List Fc) (b : Bool) (h : b = true ↔ Stands F) : DueZ (rowsT F) (if b = true then "" else "clash") := by
  refine ⟨fun hn => absurd hn (rowsT_no F), fun F' e => ?_⟩
  obtain rfl : F = F' := map_some_inj (by rw [← rowsT_some]; exact e)
  refine ⟨fun hs => if_pos (h.mpr hs), fun hs => if_neg fun hb => hs (h.mp hb)⟩
theorem due_bad {a b : List (Str × Option Fc)} {z : Str} : DueZ (a ++ [(z, none)] ++ b) "text" := by
  refine ⟨fun _ => rfl, fun F e => ?_⟩
  exfalso
  have : (none : Option Fc) ∈ F.map some := by rw [← e]; simp
  obtain ⟨f, _, e2⟩ := List.mem_map.mp this
  cases e2
theorem some_len {rs : List (Str × Option Fc)} {F : List Fc} (h : rs.map (·.2) = F.map some) : F.length = rs.length := by
  have := congrArg List.length h
  simpa using this.symm
section
variable {e : Ev} (B : Bl e)
include B
theorem ok_law (A_law : At e "law" ["_law_script"] s_law) (T0 : List (Addr × Str)) {Cn Cf Cu Cc Cb : Addr} (c_Board : BdC e C_Board) (h__law_dice : Has e 2 "_law_dice" ["_law_script", "_law_k"] (spDice e.K)) (h__law_off : Has e 2 "_law_off" ["_law_d", "_law_most"] (spOff e.K)) (h__law_works : Has e 3 "_law_works" ["_law_d"] (spWorks e.K))
    (h__law_facts : Has e 7 "_law_facts" ["_law_d", "_law_works_here", "_law_most"] (spFacts e.K)) (h__law_good : Has e 11 "_law_good" ["_law_d", "_law_works_here", "_law_most"] (spGood e.K)) (h__law_stand : Has e 10 "_law_stand" ["_law_facts_here"] spLStand)
    (h_Board___init__ : HasI e 1 C_Board ["self"] (spBInit C_Board)) (h_Board_tell : HasM e 22 C_Board "tell" ["self", "fact"] (spTell C_Board Cn Cf Cu Cc 8)) (h_Board_facts : HasM e 1 C_Board "facts" ["self"] (spBFacts C_Board))
    (h__law_row : Has e 42 "_law_row" ["_law_fact_here"] spLRow) (h_written : Has e 43 "written" ["board"] (spWritten C_Board)) (h_opened : Has e 87 "opened" ["rows"] (spOpened C_Board Cb Cu Cc)) (h__law_word : Has e 88 "_law_word" ["_law_rows"] spLWord) : Has e 90 "law" ["_law_script"] (spLawT e.K T0) := by
  refine A_law.ok (k := 89) sc_law (fun vs H Q E h => ?_) (fun f0 cdv A outer s H vs Q E hr h => ?_)
  · obtain ⟨a, ns, rfl, _⟩ := h
    rfl
  obtain ⟨a, ns, rfl, hS, h63, _, q⟩ := h
  have nd := sc_law.nd
  have hls := sizeLine_eq
  refine ⟨_, pss_cons (ps_st 1 nd (pe_callH h__law_works hr (pa_cons (pe_callH h__law_dice hr (pa_cons (pv 0) (pa_cons pe_int pa_nil))) pa_nil)))
    (pss_cons (ps_st 2 nd (pe_callH h__law_good hr (pa_cons (pe_callH h__law_dice hr (pa_cons (pv 0) (pa_cons pe_int pa_nil))) (pa_cons (pv 1) (pa_cons pe_int pa_nil)))))
    (pss_cons (ps_st 3 nd (pe_makeH0 h_Board___init__ c_Board.mg hr))
    (pss_cons (ps_for PassesOwn.never rfl (pi_list (pv 2)) (pg_nm 4 nd)
      (pss_one (ps_expr (pe_methH h_Board_tell hr c_Board.cl (pv 3) (pa_cons (pv 4) pa_nil)))))
    (pss_cons (ps_setLc (i := 5) (own := [("_law_fact_here", 4)]) (by rfl) nd rfl rfl (sw_true rfl rfl rfl (by decide +kernel)) (pi_list (pv 2)) (blkOk_by (N := ["_law_script", "_law_works_here", "_law_facts_here", "_law_board", "_law_fact_here", "_law_due", "_law_found", "_law_handed", "_law_d", "_law_every", "_law_rows", "_law_word_here", "_law_at", "_law_many", "_law_one"]) (sc := defScope s_law) (by decide +kernel)) (fun _ _ _ _ _ => pg_nm 4 nd) (fun _ _ _ _ _ => pts_nil) (fun _ _ _ _ _ => pe_callH h__law_row hr (pa_cons (pv 4) pa_nil)))
    (pss_cons (ps_st 6 nd (pe_callH h_written hr (pa_cons (pv 3) pa_nil)))
    (pss_cons (ps_if (PW.pt (pw_or (pt_not (pt_val (pe_b call_isi B.isinstance (pa_cons (pv 6) (pa_cons (pe_tyv (T := "list") B.list) pa_nil))))) (pw_or1 (pt_cmpR (op_neLa (hu64 hr)) (pv 6) (pv 5) (nomark _)))))
      (pss_one (ps_ret pe_bl))
      (pss_nil))
    (pss_cons (ps_st 7 nd (pe_ty call_list_of B.list (pa_cons (pv 5) pa_nil)))
    (pss_cons (ps_if (PW.pt (pw_or (pt_cmpR (op_neLa (hu64 hr)) (pe_methH0 h_Board_facts hr c_Board.cl (pe_callH h_opened hr (pa_cons (pv 7) pa_nil))) (pv 2) (nomark _)) (pw_or1 (pt_cmpR (op_neLa (hu64 hr)) (pv 7) (pv 5) (nomark _)))))
      (pss_one (ps_ret pe_bl))
      (pss_nil))
    (pss_cons (ps_expr (pe_app (pv 6) (pa_cons pe_str pa_nil)))
    (pss_cons (ps_st 8 nd (pe_callH h__law_dice hr (pa_cons (pv 0) (pa_cons pe_int pa_nil))))
    (pss_cons (ps_st 9 nd (pe_callH h__law_facts hr (pa_cons (pv 8) (pa_cons (pv 1) (pa_cons pe_int pa_nil)))))
    (pss_cons (ps_setLc (i := 10) (own := [("_law_fact_here", 4)]) (by rfl) nd rfl rfl (sw_true rfl rfl rfl (by decide +kernel)) (pi_list (pv 9)) (blkOk_by (N := ["_law_script", "_law_works_here", "_law_facts_here", "_law_board", "_law_fact_here", "_law_due", "_law_found", "_law_handed", "_law_d", "_law_every", "_law_rows", "_law_word_here", "_law_at", "_law_many", "_law_one"]) (sc := defScope s_law) (by decide +kernel)) (fun _ _ _ _ _ => pg_nm 4 nd) (fun _ _ _ _ _ => pts_nil) (fun _ _ _ _ _ => pe_callH h__law_row hr (pa_cons (pv 4) pa_nil)))
    (pss_cons (ps_st 11 nd (pe_ix ix_list (pe_lstA (pa_cons pe_str (pa_cons pe_str pa_nil))) (pe_ty call_int1 B.int (pa_cons (pe_callH h__law_stand hr (pa_cons (pv 9) pa_nil)) pa_nil)) (fun _ _ => rfl)))
    (pss_cons (ps_cut (ps_if (pt_cmpR op_eq (pe_callH h__law_off hr (pa_cons (pv 8) (pa_cons pe_int pa_nil))) pe_int (nomark _))
      (pss_cons (ps_st 12 nd (pe_callH h__law_off hr (pa_cons (pv 8) (pa_cons (pe_op op_add (pe_b call_lenL B.len (pa_cons (pv 10) pa_nil)) pe_int) pa_nil))))
      (pss_cons (ps_st 10 nd (pe_op op_cat (pe_op op_cat (pe_slice sl_list (pv 10) po_none (po_some (pv 12))) (pe_lstA (pa_cons (pe_ix ix_list (pe_lstA (pa_cons pe_str (pa_cons pe_str (pa_cons pe_str (pa_cons pe_str (pa_cons pe_str pa_nil)))))) (pe_callH h__law_off hr (pa_cons (pv 8) (pa_cons pe_int pa_nil))) (fun _ _ => rfl)) pa_nil))) (pe_slice sl_list (pv 10) (po_some (pv 12)) po_none)))
      (pss_one (ps_st 11 nd pe_str))))
      (pss_nil)))
    (pss_cons (ps_st 13 nd (pe_lstA (pa_cons (pe_op op_rep (pe_lstA (pa_cons pe_str pa_nil)) pe_int) (pa_cons (pe_op op_rep (pe_lstA (pa_cons pe_str pa_nil)) pe_int) (pa_cons (pe_op op_cat (pe_op op_rep (pe_lstA (pa_cons pe_str pa_nil)) pe_int) (pe_lstA (pa_cons pe_str pa_nil))) pa_nil)))))
    (pss_cons (ps_if (pt_cmpR (op_neLa (hu64 hr)) (pe_lc (own := [("_law_one", 14)]) (by rfl) nd (pi_list (pv 13)) (blkOk_by (N := ["_law_script", "_law_works_here", "_law_facts_here", "_law_board", "_law_fact_here", "_law_due", "_law_found", "_law_handed", "_law_d", "_law_every", "_law_rows", "_law_word_here", "_law_at", "_law_many", "_law_one"]) (sc := defScope s_law) (by decide +kernel)) (fun _ _ _ _ _ => pg_nm 14 nd) (fun _ _ _ _ _ => pts_nil) (fun _ _ _ _ _ => pe_callH h__law_word hr (pa_cons (pv 14) pa_nil))) (pe_lstA (pa_cons pe_str (pa_cons pe_str (pa_cons pe_str pa_nil)))) (nomark _))
      (pss_one (ps_ret pe_bl))
      (pss_nil))
    (pss_one (ps_ret (pe_and (pe_cmpR (op_eqLa (hu64 hr)) (pe_callH h_written hr (pa_cons (pv 3) pa_nil)) (pv 5) (nomark _)) (pe_one (pe_cmpR op_eq (pe_callH h__law_word hr (pa_cons (pv 10) pa_nil)) (pv 11) (nomark _)))))))))))))))))))))), ?_⟩
  refine ⟨_, rfl, a, ns, 0, rfl, hS, h63, by decide, fun d0 H1 hd0 S1 D1 => ?_⟩
  refine ⟨d0, rfl, D1, fun l ds H2 hl2 B2 D2 L2 hW => ?_⟩
  have t02 : TX H H2 := (TX.of_same S1).trans (B2.tx D1)
  have hS2 := hS.mono t02
  refine ⟨_, rfl, a, ns, 1, rfl, hS2, h63, by decide, fun d1 H3 hd1 S3 D3 => ?_⟩
  have L3 := L2.mono S3
  refine ⟨_, rfl, d1, l, ds, 6, rfl, D3, L3, hW, by decide, by decide, fun pF F H4 hpF B4 D4 LF4 hFd hFl hst => ?_⟩
  have ndl1 := works_ne D3 L3 hW
  have L4 := LD.but B4 D3 ndl1 L3
  have hS4 := (hS2.mono (TX.of_same S3)).mono (B4.tx D3)
  have lit : ∀ g ∈ F, g.lit := fun g hg => (hFd g hg).lit
  have hF6 : F.length ≤ 6 := by omega
  clear D1 B2 D2 L2 t02 hS2 S1 hd0 hl2 D3 L3 S3 hd1 hpF B4 D4 ndl1 hS
  -- the board
  refine fun b dx hb hdx hne => ?_
  have S5 : Same H4 (upd (upd H4 dx (.own b)) b (.ins C_Board dx [])) := same_put (same_new hdx _) hb _
  have o5 : (upd (upd H4 dx (.own b)) b (.ins C_Board dx [])) b = some (.ins C_Board dx []) := upd_same
  generalize upd (upd H4 dx (.own b)) b (.ins C_Board dx []) = H5 at S5 o5 ⊢
  refine ⟨b, dx, rfl, o5, fun T M H6 B6 hT hM hB6 => ⟨rfl, ?_⟩⟩
  have S46 : Same H4 H6 := B6.same S5 hb
  have hT4 : H4 T = none := same_none S5 hT
  have hM4 : H4 M = none := same_none S5 hM
  have L6 := L4.mono S46
  have LF6 := LF4.mono S46
  have hS6 := hS4.mono (TX.of_same S46)
  have nFT : pF ≠ T := by
    obtain ⟨_, h1, _⟩ := LF4
    exact ne_of_none h1 hT4
  have nlT : l ≠ T := by
    obtain ⟨_, h1, _⟩ := L4
    exact ne_of_none h1 hT4
  obtain ⟨vF, hvF, hvD⟩ := LF6
  have hlen : vF.length = F.length := by rw [hvD.length, List.length_map]
  refine ⟨_, rfl, pF, rfl, ⟨_, SqL.of hvF⟩, for_list (xs := vF) (fun i σ H' => (∃ u4, σ = [some (.ref a), some (.ref l), some (.ref pF), some (.ref b), u4, none, none, none, none, none, none, none, none, none, none]) ∧ But T H6 H' ∧ TX H6 H' ∧ BdS C_Board H' b dx T M (F.take i) []) ⟨⟨_, rfl⟩, But.refl _, TX.refl _, hB6⟩
    (fun i σ H' _ h => SqL.of (h.2.1 _ _ nFT hvF)) ?_ ?_⟩
  · rintro i x σ J1 hx ⟨⟨u4, rfl⟩, k1, t1, hBi⟩
    obtain ⟨dx0, hdx0, hxd⟩ := hvD.at hx
    rw [List.getElem?_map] at hdx0
    obtain ⟨f, hf, rfl⟩ := Option.map_eq_some_iff.mp hdx0
    have hfd := hFd f (List.mem_of_getElem? hf)
    have hil : i < F.length := (List.getElem?_eq_some_iff.mp hf).1
    refine ⟨_, rfl, b, dx, _, rfl, hBi.obj, by rfl, _, rfl, ?_⟩
    dsimp only
    unfold tNil
    refine tell_ok (v := x) hBi (fun g hg => lit g (List.mem_of_mem_take hg)) (by rw [List.length_take]; omega) (hxd.mono t1) hfd.lit hfd.fine (stands_take hst hf) fun J2 b2 t2 hB2 => ?_
    rw [← take_snoc hf] at hB2
    exact ⟨⟨_, rfl⟩, k1.trans b2, t1.trans t2, hB2⟩
  rintro σ H7 ⟨⟨u4, rfl⟩, k7, t7, hB7⟩
  rw [hlen, List.take_length] at hB7
  have LF7 : LD H7 pF (F.map Fc.da) := ⟨vF, k7 _ _ nFT hvF, hvD.mono t7⟩
  have L7 : LD H7 l ds := by
    obtain ⟨vs, h1, h2⟩ := L6
    exact ⟨vs, k7 _ _ nlT h1, h2.mono t7⟩
  have hS7 := hS6.mono t7
  clear hvF hvD hlen L6 hS6 k7 t7 hB6 S46 hT4 hM4 L4 LF4 hS4 hT hM B6 S5 o5 hb hdx hne vF nFT nlT
  -- what is due
  refine ⟨_, rfl, pF, rfl, lc_listG (l := F) (Gm := Fc.da) (pr := fun _ => true) (R := fun f w _ => w = V.str f.text) LF7 (fun _ _ _ _ _ h => h) (by omega) ?_ ?_⟩
  · intro x f Hx hfm hx Sx Q' N' k1 k2
    exact ⟨rfl, _, rfl, x, f, rfl, hx, hFd f hfm, fun Hy Sy => k1 rfl _ _ Sy rfl⟩
  intro pd H8 ws hpd S8 wd hall
  rw [show F.filter (fun _ => true) = F from List.filter_eq_self.mpr fun _ _ => rfl] at hall
  obtain rfl : ws = textsV F := hall.eqs (F := fun f : Fc => V.str f.text)
  clear hall
  have hB8 := hB7.same S8
  refine ⟨_, rfl, b, dx, T, M, F, [], rfl, hB8, hFd, by omega, fun pf H9 hpf S9 wf => ?_⟩
  have wd9 := S9 _ _ wd
  have okT := okL_texts hFd
  have Lf9 : LD H9 pf ((texts F).map Da.str) := strs_ld (by rw [← textsV_eq]; exact wf)
  have Ld9 : LD H9 pd ((texts F).map Da.str) := strs_ld (by rw [← textsV_eq]; exact wd9)
  refine ⟨_, rfl, _, .ty "list", .type "list", .type "list", true, rfl, .ty _, .base (.lst wf), kit_ty (by decide +kernel), _, rfl, ?_⟩
  refine ⟨_, rfl, _, rfl, pf, pd, _, _, rfl, rfl, Lf9, Ld9, okT, okT, _, rfl, ?_⟩
  rw [show (!decide ((texts F).map Da.str = (texts F).map Da.str)) = false by simp]
  -- opened
  refine ⟨_, rfl, pd, _, rfl, .inl (SqL.of wd9), fun ph hph => ?_⟩
  have S10 : Same H9 (upd H9 ph (.lst (textsV F))) := same_new hph _
  have wh10 : (upd H9 ph (.lst (textsV F))) ph = some (.lst (textsV F)) := upd_same
  generalize upd H9 ph (.lst (textsV F)) = H10 at S10 wh10 ⊢
  have nhf : ph ≠ pf := (ne_of_none wf hph).symm
  refine ⟨_, rfl, ph, rowsT F, rfl, rowsT_at wh10, rowsT_ok hFd, by unfold rowsT; rw [List.length_map]; omega, fun hn => absurd hn (rowsT_no F), fun F' eF' => ?_⟩
  obtain rfl : F = F' := map_some_inj (by rw [← rowsT_some]; exact eF')
  refine ⟨.inl hst, fun _ _ b2 dx2 T2 M2 H11 _ _ _ S11 hB11 => ?_, fun hns => absurd hst hns, fun _ h41 => by omega⟩
  have S411 : Same H7 H11 := ((S8.trans S9).trans S10).trans S11
  refine ⟨b2, dx2, _, rfl, hB11.obj, by rfl, b2, dx2, T2, M2, F, [], rfl, hB11, fun pq H12 hpq S12 Lq => ?_⟩
  have okF := drawn_okL hFd
  have S712 := S411.trans S12
  refine ⟨_, rfl, pq, pF, _, _, rfl, rfl, Lq, LF7.mono S712, okF, okF, _, rfl, ?_⟩
  rw [show (!decide (F.map Fc.da = F.map Fc.da)) = false by simp]
  have S912 := (S10.trans S11).trans S12
  have Lh12 : LD H12 ph ((texts F).map Da.str) := strs_ld (by rw [← textsV_eq]; exact (S11.trans S12) _ _ wh10)
  refine ⟨_, rfl, _, rfl, ph, pd, _, _, rfl, rfl, Lh12, Ld9.mono S912, okT, okT, _, rfl, ?_⟩
  rw [show (!decide ((texts F).map Da.str = (texts F).map Da.str)) = false by simp]
  -- what was told is changed
  have wf12 := S912 _ _ wf
  have hl9 : (textsV F).length = F.length := by unfold textsV; rw [List.length_map]
  refine ⟨_, rfl, .inl ⟨rfl, _, SqL.of wf12⟩, pf, textsV F, .str "", rfl, rfl, wf12, by omega, ?_⟩
  have Bf : But pf H12 (upd H12 pf (.lst (textsV F ++ [.str ""]))) := But.put _ _
  have tf : TX H12 (upd H12 pf (.lst (textsV F ++ [.str ""]))) := TX.lst wf12
  generalize upd H12 pf (.lst (textsV F ++ [.str ""])) = H13 at Bf tf ⊢
  have S812 := S9.trans S912
  have hpf8 : ∀ {c : Addr} {o : HO}, H8 c = some o → c ≠ pf := fun h => ne_of_none h hpf
  have wd13 := Bf _ _ (hpf8 wd) (S812 _ _ wd)
  have hB12 := hB8.same S812
  have hB13 : BdS C_Board H13 b dx T M F [] := hB12.but Bf tf (hpf8 hB8.obj) (by obtain ⟨_, h, _⟩ := hB8.told; exact hpf8 h) (hpf8 hB8.marks)
  have L13 : LD H13 l ds := by
    obtain ⟨vs, h1, h2⟩ := L7.mono S8
    exact ⟨vs, Bf _ _ (hpf8 h1) (S812 _ _ h1), (h2.mono (TX.of_same S812)).mono tf⟩
  have hS13 := (hS7.mono (TX.of_same S712)).mono tf
  clear hB7 hB8 hB11 hB12 L7 hS7 LF7 S8 S9 S10 S11 S12 wd wd9 Lf9 Ld9 wf wf12 wh10 Lq Lh12 hl9 S812 S712 S912 S411 hpf8 hpd hpf hph hpq Bf tf nhf
  -- facts that need not stand
  refine ⟨_, rfl, a, ns, 2, rfl, hS13, h63, by decide, fun d H14 hd S14 D14 => ?_⟩
  have L14 := L13.mono S14
  have hB14 := hB13.same S14
  have wd14 := S14 _ _ wd13
  refine ⟨_, rfl, _, rfl, d, l, ds, 6, rfl, D14, L14, hW, by decide, by decide, fun pe G H15 hpe B15 D15 LG15 hGd hGl => ?_⟩
  have hG6 : G.length ≤ 6 := by omega
  have nd_ : ∀ {c : Addr} {o : HO}, H13 c = some o → c ≠ d := fun h => ne_of_none h hd
  have hB15 : BdS C_Board H15 b dx T M F [] := hB14.but B15 (B15.tx D14) (nd_ hB13.obj) (by obtain ⟨_, h, _⟩ := hB13.told; exact nd_ h) (nd_ hB13.marks)
  have wd15 := B15 _ _ (nd_ wd13) wd14
  have litG : ∀ g ∈ G, g.lit := fun g hg => (hGd g hg).lit
  refine ⟨_, rfl, pe, rfl, lc_listG (l := G) (Gm := Fc.da) (pr := fun _ => true) (R := fun f w _ => w = V.str f.text) LG15 (fun _ _ _ _ _ h => h) (by omega) ?_ ?_⟩
  · intro x f Hx hfm hx Sx Q' N' k1 k2
    exact ⟨rfl, _, rfl, x, f, rfl, hx, hGd f hfm, fun Hy Sy => k1 rfl _ _ Sy rfl⟩
  intro pr H16 ws hpr S16 wr hall
  rw [show G.filter (fun _ => true) = G from List.filter_eq_self.mpr fun _ _ => rfl] at hall
  obtain rfl : ws = textsV G := hall.eqs (F := fun f : Fc => V.str f.text)
  clear hall
  -- the word that is due
  refine ⟨by simp only [List.length_cons, List.length_nil]; omega, fun p2 H17 hp2 S17 w2 => ?_⟩
  refine ⟨_, rfl, pe, G, rfl, (LG15.mono S16).mono S17, litG, by omega, fun bb H18 S18 hbb => .inr ⟨_, rfl, ?_⟩⟩
  have w2' := S18 _ _ w2
  have hat : atI [V.str "clash", V.str ""] (if bb = true then 1 else 0) = some (.str (if bb = true then "" else "clash")) := by cases bb <;> rfl
  refine ⟨p2, _, _, _, rfl, rfl, SqL.of w2', hat, ?_⟩
  have S1518 := (S16.trans S17).trans S18
  have npr : pr ≠ d := by
    obtain ⟨_, h⟩ := D15.lst
    exact (ne_of_none h hpr).symm
  have D18 := D15.same S1518
  have wr18 := (S17.trans S18) _ _ wr
  have hB18 := hB15.same S1518
  have wd18 := S1518 _ _ wd15
  have ndB : b ≠ d ∧ T ≠ d ∧ M ≠ d ∧ pd ≠ d := ⟨nd_ hB13.obj, by obtain ⟨_, h, _⟩ := hB13.told; exact nd_ h, nd_ hB13.marks, nd_ wd13⟩
  have hdl : (textsV G).length = G.length := by unfold textsV; rw [List.length_map]
  have due1 := due_facts G bb hbb
  generalize (if bb = true then ("" : Str) else "clash") = z0 at due1 ⊢
  clear hat w2' w2 hbb S16 S17 S18 S1518 LG15 hp2 hB13 hB14 hB15 wd13 wd14 wd15 D14 L14 S14 B15 nd_ hd hS13 hpe litG L13
  -- now and then with a row that is none
  refine ⟨fun σ H' => ∃ (rs : List (Str × Option Fc)) (pr' : Addr) (z : Str) (u12 : Option V), σ = [some (.ref a), some (.ref l), some (.ref pF), some (.ref b), u4, some (.ref pd), some (.ref pf), some (.ref ph), some (.ref d), some (.ref pe), some (.ref pr'), some (.str z), u12, none, none] ∧
    RowsAt H' pr' rs ∧ (∀ p ∈ rs, RowZ p.1 p.2) ∧ rs.length ≤ 7 ∧ DueZ rs z ∧ BdS C_Board H' b dx T M F [] ∧ H' pd = some (.lst (textsV F)), ?_, ?_⟩
  · refine ⟨_, rfl, d, 3, rfl, D18, by decide, by decide, fun m H19 m0 m1 B19 D19 => ⟨rfl, _, rfl, ?_⟩⟩
    have wr19 := B19 _ _ npr wr18
    have hB19 := hB18.but B19 (B19.tx D18) ndB.1 ndB.2.1 ndB.2.2.1
    have wd19 := B19 _ _ ndB.2.2.2 wd18
    refine ite2 (fun c => ?_) (fun c => ?_)
    · refine ⟨_, rfl, _, rfl, pr, _, rfl, SqL.of wr19, _, _, rfl, rfl, d, _, rfl, D19, by omega, by omega, fun k H20 k0 k1 B20 D20 => ?_⟩
      obtain ⟨i, rfl⟩ : ∃ i : Nat, k = i := ⟨k.toNat, by omega⟩
      have hi : i ≤ G.length := by omega
      have wr20 := B20 _ _ npr wr19
      have hB20 := hB19.but B20 (B20.tx D19) ndB.1 ndB.2.1 ndB.2.2.1
      have wd20 := B20 _ _ ndB.2.2.2 wd19
      refine ⟨_, rfl, _, rfl, _, rfl, pr, _, rfl, SqL.of wr20, fun p1 hp1 => ?_⟩
      rw [cutV_to _ (by rw [hdl]; exact hi)]
      have S21 := same_new hp1 (.lst ((textsV G).take i))
      have w21 : (upd H20 p1 (.lst ((textsV G).take i))) p1 = some (.lst ((textsV G).take i)) := upd_same
      generalize upd H20 p1 (.lst ((textsV G).take i)) = H21 at S21 w21 ⊢
      refine ⟨by simp only [List.length_cons, List.length_nil]; omega, fun p2 H22 hp2 S22 w22 => ?_⟩
      refine ⟨_, rfl, d, 5, rfl, D20.same (S21.trans S22), by decide, by decide, fun j H23 j0 j1 B23 D23 => ?_⟩
      have dne : ∀ {c : Addr} {H0 : Hp}, DiceAt e.K H0 d → H0 c = none → c ≠ d := fun h hc z => by
        obtain ⟨_, hd3⟩ := h.lst
        rw [z, hd3] at hc
        cases hc
      have n1 : p1 ≠ d := dne D20 hp1
      have n2 : p2 ≠ d := dne (D20.same S21) hp2
      obtain ⟨zb, hzb⟩ : ∃ zb, atI badK j = some zb := at_ex j0 (by show j < 5; exact j1)
      have hzm : zb ∈ badK := by
        obtain ⟨n, rfl⟩ : ∃ n : Nat, j = n := ⟨j.toNat, by omega⟩
        exact List.mem_of_getElem? (nat_of_at hzb)
      have hzb2 : atI (badK.map V.str) j = some (.str zb) := by
        obtain ⟨n, rfl⟩ : ∃ n : Nat, j = n := ⟨j.toNat, by omega⟩
        have hzn := nat_of_at hzb
        exact atI_nat (by rw [List.getElem?_map, hzn]; rfl)
      refine ⟨p2, _, j, _, rfl, rfl, SqL.of (B23 _ _ n2 w22), hzb2, ?_⟩
      refine ⟨by simp only [List.length_cons, List.length_nil]; omega, fun p3 H24 hp3 S24 w24 => ?_⟩
      have w24' := S24 _ _ (B23 _ _ n1 (S22 _ _ w21))
      refine ⟨p1, p3, _, _, rfl, rfl, w24', w24, by rw [List.length_take, List.length_singleton]; omega, fun p4 hp4 => ?_⟩
      have S25 := same_new hp4 (.lst ((textsV G).take i ++ [V.str zb]))
      have w25 : (upd H24 p4 (.lst ((textsV G).take i ++ [V.str zb]))) p4 = some (.lst ((textsV G).take i ++ [V.str zb])) := upd_same
      generalize upd H24 p4 (.lst ((textsV G).take i ++ [V.str zb])) = H25 at S25 w25 ⊢
      have tx2 : ∀ {c : Addr} {o : HO}, c ≠ d → H20 c = some o → H25 c = some o := fun n h => S25 _ _ (S24 _ _ (B23 _ _ n (S22 _ _ (S21 _ _ h))))
      refine ⟨_, rfl, _, rfl, _, rfl, pr, _, rfl, SqL.of (tx2 npr wr20), fun p5 hp5 => ?_⟩
      have ecut : cutV (textsV G) (some (i : Int)) none = (textsV G).drop i := cutD_from _ (by rw [hdl]; exact hi)
      rw [ecut]
      have S26 := same_new hp5 (.lst ((textsV G).drop i))
      have w26 : (upd H25 p5 (.lst ((textsV G).drop i))) p5 = some (.lst ((textsV G).drop i)) := upd_same
      generalize upd H25 p5 (.lst ((textsV G).drop i)) = H26 at S26 w26 ⊢
      refine ⟨p4, p5, _, _, rfl, rfl, S26 _ _ w25, w26, by simp only [List.length_append, List.length_take, List.length_drop, List.length_singleton]; omega, fun p6 hp6 => ?_⟩
      have S27 := same_new hp6 (.lst ((textsV G).take i ++ [V.str zb] ++ (textsV G).drop i))
      have w27 : (upd H26 p6 (.lst ((textsV G).take i ++ [V.str zb] ++ (textsV G).drop i))) p6 = some (.lst ((textsV G).take i ++ [V.str zb] ++ (textsV G).drop i)) := upd_same
      show gName _ _ _ (upd H26 p6 (.lst ((textsV G).take i ++ [V.str zb] ++ (textsV G).drop i))) _
      generalize upd H26 p6 (.lst ((textsV G).take i ++ [V.str zb] ++ (textsV G).drop i)) = H27 at S27 w27 ⊢
      have hB27 : BdS C_Board H27 b dx T M F [] := ((hB20.same (S21.trans S22)).but B23 (B23.tx (D20.same (S21.trans S22))) ndB.1 ndB.2.1 ndB.2.2.1).same (((S24.trans S25).trans S26).trans S27)
      have eR : (textsV G).take i ++ [V.str zb] ++ (textsV G).drop i = (((rowsT G).take i ++ [(zb, (none : Option Fc))] ++ (rowsT G).drop i).map (fun p : Str × Option Fc => p.1)).map V.str := by
        unfold rowsT textsV
        simp only [List.map_append, List.map_take, List.map_drop, List.map_map, List.map_cons, List.map_nil]
        rfl
      rw [eR] at w27
      have hR27 := strs_ld w27
      refine ⟨_, p6, "text", _, rfl, by unfold RowsAt; rw [List.map_map] at hR27; exact hR27, fun p hp => ?_, ?_, due_bad, hB27, S27 _ _ (S26 _ _ (tx2 ndB.2.2.2 wd20))⟩
      · rcases List.mem_append.mp hp with hp | hp
        · rcases List.mem_append.mp hp with hp | hp
          · exact rowsT_ok hGd p (List.mem_of_mem_take hp)
          · rw [List.mem_singleton.mp hp]
            exact rowZ_bad zb hzm
        · exact rowsT_ok hGd p (List.mem_of_mem_drop hp)
      · have : (rowsT G).length = G.length := by unfold rowsT; rw [List.length_map]
        simp only [List.length_append, List.length_take, List.length_drop, List.length_singleton]
        omega
    · exact ⟨rowsT G, pr, z0, _, rfl, rowsT_at wr19, rowsT_ok hGd, by unfold rowsT; rw [List.length_map]; omega, due1, hB19, wd19⟩
  rintro σ HA ⟨rs, pr', z, u12, rfl, hRs, hRz, hrl, due2, hBA, wdA⟩
  clear due1 D18 wr18 hB18 wd18 wr
  -- forty rows, and more
  refine ⟨by simp only [List.length_cons, List.length_nil]; omega, fun q1 HB hq1 SB wB => ?_⟩
  refine ⟨q1, _, _, rfl, rfl, wB, by decide, by decide, by simp only [List.length_cons, List.length_nil]; omega, fun r1 hr1 => ?_⟩
  have S1 := same_new hr1 (.lst (List.replicate (40 : Int).toNat [V.str "a = a"]).flatten)
  have w1 := rep_rows (n := 40) (H := upd HB r1 (.lst (List.replicate (40 : Int).toNat [V.str "a = a"]).flatten)) (p := r1) rfl upd_same
  generalize upd HB r1 (.lst (List.replicate (40 : Int).toNat [V.str "a = a"]).flatten) = HC at S1 w1 ⊢
  refine ⟨by simp only [List.length_cons, List.length_nil]; omega, fun q2 HD hq2 SD wD => ?_⟩
  refine ⟨q2, _, _, rfl, rfl, wD, by decide, by decide, by simp only [List.length_cons, List.length_nil]; omega, fun r2 hr2 => ?_⟩
  have S2 := same_new hr2 (.lst (List.replicate (41 : Int).toNat [V.str "a = a"]).flatten)
  have w2 := rep_rows (n := 41) (H := upd HD r2 (.lst (List.replicate (41 : Int).toNat [V.str "a = a"]).flatten)) (p := r2) rfl upd_same
  generalize upd HD r2 (.lst (List.replicate (41 : Int).toNat [V.str "a = a"]).flatten) = HE at S2 w2 ⊢
  refine ⟨by simp only [List.length_cons, List.length_nil]; omega, fun q3 HF hq3 SF wF => ?_⟩
  refine ⟨q3, _, _, rfl, rfl, wF, by decide, by decide, by simp only [List.length_cons, List.length_nil]; omega, fun r3 hr3 => ?_⟩
  have S3 := same_new hr3 (.lst (List.replicate (41 : Int).toNat [V.str "a = a"]).flatten)
  have w3 := rep_rows (n := 41) (H := upd HF r3 (.lst (List.replicate (41 : Int).toNat [V.str "a = a"]).flatten)) (p := r3) rfl upd_same
  generalize upd HF r3 (.lst (List.replicate (41 : Int).toNat [V.str "a = a"]).flatten) = HG at S3 w3 ⊢
  refine ⟨by simp only [List.length_cons, List.length_nil]; omega, fun q4 HI hq4 SI wI => ?_⟩
  have hl41 : ((List.replicate 41 ("a = a" : Str)).map V.str).length = 41 := by rw [List.length_map, List.length_replicate]
  refine ⟨r3, q4, _, _, rfl, rfl, SI _ _ w3, wI, by rw [hl41, List.length_singleton]; omega, fun r4 hr4 => ?_⟩
  have S4 := same_new hr4 (.lst ((List.replicate 41 ("a = a" : Str)).map V.str ++ [V.str "a"]))
  have w4 : (upd HI r4 (.lst ((List.replicate 41 ("a = a" : Str)).map V.str ++ [V.str "a"]))) r4 = some (.lst ((List.replicate 41 ("a = a" : Str)).map V.str ++ [V.str "a"])) := upd_same
  generalize upd HI r4 (.lst ((List.replicate 41 ("a = a" : Str)).map V.str ++ [V.str "a"])) = HJ at S4 w4 ⊢
  refine ⟨by simp only [List.length_cons, List.length_nil]; omega, fun pm HK hpm SK wK => ?_⟩
  have SAK : Same HA HK := ((((((((SB.trans S1).trans SD).trans S2).trans SF).trans S3).trans SI).trans S4).trans SK)
  have R1 : RowsAt HK r1 (List.replicate 40 aaR) := rep_at ((((((((SD.trans S2).trans SF).trans S3).trans SI).trans S4).trans SK)) _ _ w1)
  have R2 : RowsAt HK r2 (List.replicate 41 aaR) := rep_at ((((((SF.trans S3).trans SI).trans S4).trans SK)) _ _ w2)
  have R4 : RowsAt HK r4 (List.replicate 41 aaR ++ [(("a" : Str), (none : Option Fc))]) := by
    have e1 : (List.replicate 41 ("a = a" : Str)).map V.str ++ [V.str "a"] = (List.replicate 41 ("a = a" : Str) ++ [("a" : Str)]).map V.str := by rw [List.map_append]; rfl
    rw [e1] at w4
    have h := strs_ld (SK _ _ w4)
    unfold RowsAt
    rw [List.map_append, List.map_replicate] at h ⊢
    exact h
  have repok : ∀ {n : Nat}, ∀ p ∈ List.replicate n aaR, RowZ p.1 p.2 := fun {n} p hp => by rw [List.eq_of_mem_replicate hp]; exact aaR_ok
  have repst : ∀ {n : Nat}, Stands (List.replicate n aaF) := fun {n} => aa_stands fun f hf => List.eq_of_mem_replicate hf
  have repno : ∀ {n : Nat}, none ∉ (List.replicate n aaR).map (·.2) := fun {n} hn => by
    rw [List.map_replicate] at hn
    cases List.eq_of_mem_replicate hn
  refine ⟨_, rfl, pm, rfl, lc_refs (xs := [.ref r1, .ref r2, .ref r4]) (R := fun x y => (x = .ref r1 ∧ y = .str "") ∨ (x = .ref r2 ∧ y = .str "full") ∨ (x = .ref r4 ∧ y = .str "text")) wK (by simp) ?_ ?_⟩
  · intro x HL hx SL Q' N' k
    simp only [List.mem_cons, List.not_mem_nil, or_false] at hx
    rcases hx with rfl | rfl | rfl
    · refine ⟨rfl, _, rfl, r1, _, rfl, R1.mono SL, repok, by rw [List.length_replicate]; omega, fun hn => absurd hn repno, fun F' eF => ?_⟩
      obtain rfl := rep_some eF
      exact ⟨.inl repst, fun _ _ H' S' => k _ _ S' (.inl ⟨rfl, rfl⟩), fun hns => absurd repst hns, fun _ h => by rw [List.length_replicate] at h; omega⟩
    · refine ⟨rfl, _, rfl, r2, _, rfl, R2.mono SL, repok, by rw [List.length_replicate]; omega, fun hn => absurd hn repno, fun F' eF => ?_⟩
      obtain rfl := rep_some eF
      exact ⟨.inl repst, fun _ h => by rw [List.length_replicate] at h; omega, fun hns => absurd repst hns, fun _ _ H' S' => k _ _ S' (.inr (.inl ⟨rfl, rfl⟩))⟩
    · refine ⟨rfl, _, rfl, r4, _, rfl, R4.mono SL, fun p hp => ?_, by rw [List.length_append, List.length_replicate, List.length_singleton]; omega, fun hn H' S' => k _ _ S' (.inr (.inr ⟨rfl, rfl⟩)), fun F' eF => ?_⟩
      · rcases List.mem_append.mp hp with hp | hp
        · exact repok p hp
        · rw [List.mem_singleton.mp hp]
          exact rowZ_bad "a" (by simp [badK])
      · exfalso
        have : (none : Option Fc) ∈ F'.map some := by rw [← eF]; simp
        obtain ⟨f, _, e2⟩ := List.mem_map.mp this
        cases e2
  intro D HL ws hD SL hDl hall
  have n12 : r1 ≠ r2 := ne_of_none (SD _ _ w1) hr2
  have n14 : r1 ≠ r4 := ne_of_none (((((SD.trans S2).trans SF).trans S3).trans SI) _ _ w1) hr4
  have n24 : r2 ≠ r4 := ne_of_none (((SF.trans S3).trans SI) _ _ w2) hr4
  obtain ⟨x1, x2, x3, rfl, h1, h2, h3⟩ := show ∃ x y z, ws = [x, y, z] ∧ _ ∧ _ ∧ _ from match ws, hall with | _, .cons h1 (.cons h2 (.cons h3 .nil)) => ⟨_, _, _, rfl, h1, h2, h3⟩
  obtain rfl : x1 = V.str "" := by
    rcases h1 with ⟨_, h⟩ | ⟨h, _⟩ | ⟨h, _⟩
    · exact h
    · exact absurd (by injection h) n12
    · exact absurd (by injection h) n14
  obtain rfl : x2 = V.str "full" := by
    rcases h2 with ⟨h, _⟩ | ⟨_, h⟩ | ⟨h, _⟩
    · exact absurd (by injection h with h; exact h.symm) n12
    · exact h
    · exact absurd (by injection h) n24
  obtain rfl : x3 = V.str "text" := by
    rcases h3 with ⟨h, _⟩ | ⟨h, _⟩ | ⟨_, h⟩
    · exact absurd (by injection h with h; exact h.symm) n14
    · exact absurd (by injection h with h; exact h.symm) n24
    · exact h
  refine ⟨by simp only [List.length_cons, List.length_nil]; omega, fun qD HM hqD SM wM => ?_⟩
  have LD1 : LD HM D ((["", "full", "text"] : List Str).map Da.str) := strs_ld (SM _ _ hDl)
  have LD2 : LD HM qD ((["", "full", "text"] : List Str).map Da.str) := strs_ld wM
  have okW : okL ((["", "full", "text"] : List Str).map Da.str) := okL_strs (by decide +kernel)
  refine ⟨D, qD, _, _, rfl, rfl, LD1, LD2, okW, okW, _, rfl, ?_⟩
  rw [show (!decide ((["", "full", "text"] : List Str).map Da.str = (["", "full", "text"] : List Str).map Da.str)) = false by simp]
  -- the end
  have SAM := (SAK.trans SL).trans SM
  refine ⟨_, rfl, b, dx, T, M, F, [], rfl, hBA.same SAM, hFd, by omega, fun pw HN hpw SN wN => ?_⟩
  have Lw : LD HN pw ((texts F).map Da.str) := strs_ld (by rw [← textsV_eq]; exact wN)
  have Ld : LD HN pd ((texts F).map Da.str) := strs_ld (by rw [← textsV_eq]; exact (SAM.trans SN) _ _ wdA)
  refine ⟨_, rfl, pw, pd, _, _, rfl, rfl, Lw, Ld, okT, okT, _, rfl, ?_⟩
  rw [show decide ((texts F).map Da.str = (texts F).map Da.str) = true by simp]
  refine ⟨_, rfl, pr', rs, rfl, hRs.mono (SAM.trans SN), hRz, by omega, fun hn H' S' => ?_, fun F' eF => ⟨.inr (by rw [some_len eF]; omega), fun hs _ H' S' => ?_, fun hns H' S' => ?_, fun _ h => by rw [some_len eF] at h; omega⟩⟩
  · rw [due2.1 hn]
    refine ⟨_, rfl, rfl, ?_⟩
    show Q (.bl (decide (V.str "text" = V.str "text"))) _
    rw [decide_eq_true rfl]
    exact q _
  · rw [(due2.2 F' eF).1 hs]
    refine ⟨_, rfl, rfl, ?_⟩
    show Q (.bl (decide (V.str "" = V.str ""))) _
    rw [decide_eq_true rfl]
    exact q _
  · rw [(due2.2 F' eF).2 hns]
    refine ⟨_, rfl, rfl, ?_⟩
    show Q (.bl (decide (V.str "clash" = V.str "clash"))) _
    rw [decide_eq_true rfl]
    exact q _
end

structure WdC (e : Ev) (C : Addr) : Prop where
  mg : e.mg "World" = some (.ref C)
  cl : Cls e.K C
  many : NoAttr e.K C "many"
  made : NoAttr e.K C "made"

def d_Clash___init__ : He.DefD := ⟨("Clash", some "__init__"), "__init__", "Clash.__init__", defArgs s_Clash___init__, defBody s_Clash___init__, defScope s_Clash___init__, [], []⟩
def d_is_name : He.DefD := ⟨("is_name", none), "is_name", "is_name", defArgs s_is_name, defBody s_is_name, defScope s_is_name, [], []⟩
def d_names_in : He.DefD := ⟨("names_in", none), "names_in", "names_in", defArgs s_names_in, defBody s_names_in, defScope s_names_in, [], []⟩
def d_is_term : He.DefD := ⟨("is_term", none), "is_term", "is_term", defArgs s_is_term, defBody s_is_term, defScope s_is_term, [], []⟩
def d_need_term : He.DefD := ⟨("need_term", none), "need_term", "need_term", defArgs s_need_term, defBody s_need_term, defScope s_need_term, [], []⟩
def d_parts_of : He.DefD := ⟨("parts_of", none), "parts_of", "parts_of", defArgs s_parts_of, defBody s_parts_of, defScope s_parts_of, [], []⟩
def d_shown : He.DefD := ⟨("shown", none), "shown", "shown", defArgs s_shown, defBody s_shown, defScope s_shown, [], []⟩
def d_Reader___init__ : He.DefD := ⟨("Reader", some "__init__"), "__init__", "Reader.__init__", defArgs s_Reader___init__, defBody s_Reader___init__, defScope s_Reader___init__, [], []⟩
def d_Reader_sign : He.DefD := ⟨("Reader", some "sign"), "sign", "Reader.sign", defArgs s_Reader_sign, defBody s_Reader_sign, defScope s_Reader_sign, [], []⟩
def d_Reader_term : He.DefD := ⟨("Reader", some "term"), "term", "Reader.term", defArgs s_Reader_term, defBody s_Reader_term, defScope s_Reader_term, [], []⟩
def d_Reader_parts : He.DefD := ⟨("Reader", some "parts"), "parts", "Reader.parts", defArgs s_Reader_parts, defBody s_Reader_parts, defScope s_Reader_parts, [], []⟩
def d_read : He.DefD := ⟨("read", none), "read", "read", defArgs s_read, defBody s_read, defScope s_read, [], []⟩
def d_Closing___init__ : He.DefD := ⟨("Closing", some "__init__"), "__init__", "Closing.__init__", defArgs s_Closing___init__, defBody s_Closing___init__, defScope s_Closing___init__, [], []⟩
def d_Closing_join : He.DefD := ⟨("Closing", some "join"), "join", "Closing.join", defArgs s_Closing_join, defBody s_Closing_join, defScope s_Closing_join, [], []⟩
def d_Closing_key : He.DefD := ⟨("Closing", some "key"), "key", "Closing.key", defArgs s_Closing_key, defBody s_Closing_key, defScope s_Closing_key, [], []⟩
def d_Closing_join_like_parts : He.DefD := ⟨("Closing", some "join_like_parts"), "join_like_parts", "Closing.join_like_parts", defArgs s_Closing_join_like_parts, defBody s_Closing_join_like_parts, defScope s_Closing_join_like_parts, [], []⟩
def d_Closing_steps : He.DefD := ⟨("Closing", some "steps"), "steps", "Closing.steps", defArgs s_Closing_steps, defBody s_Closing_steps, defScope s_Closing_steps, [], []⟩
def d_Closing_join_rings : He.DefD := ⟨("Closing", some "join_rings"), "join_rings", "Closing.join_rings", defArgs s_Closing_join_rings, defBody s_Closing_join_rings, defScope s_Closing_join_rings, [], []⟩
def d_Closing_stands : He.DefD := ⟨("Closing", some "stands"), "stands", "Closing.stands", defArgs s_Closing_stands, defBody s_Closing_stands, defScope s_Closing_stands, [], []⟩
abbrev s_Closing_ordered : Stmt := inClass (top 23) 7
def d_Closing_ordered : He.DefD := ⟨("Closing", some "ordered"), "ordered", "Closing.ordered", defArgs s_Closing_ordered, defBody s_Closing_ordered, defScope s_Closing_ordered, [], []⟩
def d_beyond : He.DefD := ⟨("beyond", none), "beyond", "beyond", defArgs s_beyond, defBody s_beyond, defScope s_beyond, [], []⟩
def d_stand : He.DefD := ⟨("stand", none), "stand", "stand", defArgs s_stand, defBody s_stand, defScope s_stand, [], []⟩
def d_need_fact : He.DefD := ⟨("need_fact", none), "need_fact", "need_fact", defArgs s_need_fact, defBody s_need_fact, defScope s_need_fact, [], []⟩
def d_shown_fact : He.DefD := ⟨("shown_fact", none), "shown_fact", "shown_fact", defArgs s_shown_fact, defBody s_shown_fact, defScope s_shown_fact, [], []⟩
def d_read_fact : He.DefD := ⟨("read_fact", none), "read_fact", "read_fact", defArgs s_read_fact, defBody s_read_fact, defScope s_read_fact, [], []⟩
def d_cut_down : He.DefD := ⟨("cut_down", none), "cut_down", "cut_down", defArgs s_cut_down, defBody s_cut_down, defScope s_cut_down, [], []⟩
def d_why_not : He.DefD := ⟨("why_not", none), "why_not", "why_not", defArgs s_why_not, defBody s_why_not, defScope s_why_not, [], []⟩
abbrev s_World___init__ : Stmt := inClass (top 35) 0
def d_World___init__ : He.DefD := ⟨("World", some "__init__"), "__init__", "World.__init__", defArgs s_World___init__, defBody s_World___init__, defScope s_World___init__, [], []⟩
abbrev s_World_size : Stmt := inClass (top 35) 1
def d_World_size : He.DefD := ⟨("World", some "size"), "size", "World.size", defArgs s_World_size, defBody s_World_size, defScope s_World_size, [], []⟩
abbrev s_World_rows : Stmt := inClass (top 35) 2
def d_World_rows : He.DefD := ⟨("World", some "rows"), "rows", "World.rows", defArgs s_World_rows, defBody s_World_rows, defScope s_World_rows, [], []⟩
abbrev s_World_worth : Stmt := inClass (top 35) 3
def d_World_worth : He.DefD := ⟨("World", some "worth"), "worth", "World.worth", defArgs s_World_worth, defBody s_World_worth, defScope s_World_worth, [], []⟩
abbrev s_World_holds : Stmt := inClass (top 35) 4
def d_World_holds : He.DefD := ⟨("World", some "holds"), "holds", "World.holds", defArgs s_World_holds, defBody s_World_holds, defScope s_World_holds, [], []⟩
abbrev s_world_of : Stmt := top 36
def d_world_of : He.DefD := ⟨("world_of", none), "world_of", "world_of", defArgs s_world_of, defBody s_world_of, defScope s_world_of, [], []⟩
def d_Board___init__ : He.DefD := ⟨("Board", some "__init__"), "__init__", "Board.__init__", defArgs s_Board___init__, defBody s_Board___init__, defScope s_Board___init__, [], []⟩
def d_Board_tell : He.DefD := ⟨("Board", some "tell"), "tell", "Board.tell", defArgs s_Board_tell, defBody s_Board_tell, defScope s_Board_tell, [], []⟩
def d_Board_facts : He.DefD := ⟨("Board", some "facts"), "facts", "Board.facts", defArgs s_Board_facts, defBody s_Board_facts, defScope s_Board_facts, [], []⟩
abbrev s_Board_ask : Stmt := inClass (top 40) 3
def d_Board_ask : He.DefD := ⟨("Board", some "ask"), "ask", "Board.ask", defArgs s_Board_ask, defBody s_Board_ask, defScope s_Board_ask, [], []⟩
abbrev s_Board_world : Stmt := inClass (top 40) 4
def d_Board_world : He.DefD := ⟨("Board", some "world"), "world", "Board.world", defArgs s_Board_world, defBody s_Board_world, defScope s_Board_world, [], []⟩
abbrev s_Board_groups : Stmt := inClass (top 40) 5
def d_Board_groups : He.DefD := ⟨("Board", some "groups"), "groups", "Board.groups", defArgs s_Board_groups, defBody s_Board_groups, defScope s_Board_groups, [], []⟩
abbrev s_Board_alike_to : Stmt := inClass (top 40) 6
def d_Board_alike_to : He.DefD := ⟨("Board", some "alike_to"), "alike_to", "Board.alike_to", defArgs s_Board_alike_to, defBody s_Board_alike_to, defScope s_Board_alike_to, [], []⟩
abbrev s_Board_mark : Stmt := inClass (top 40) 7
def d_Board_mark : He.DefD := ⟨("Board", some "mark"), "mark", "Board.mark", defArgs s_Board_mark, defBody s_Board_mark, defScope s_Board_mark, [], []⟩
abbrev s_Board_back : Stmt := inClass (top 40) 8
def d_Board_back : He.DefD := ⟨("Board", some "back"), "back", "Board.back", defArgs s_Board_back, defBody s_Board_back, defScope s_Board_back, [], []⟩
def d_written : He.DefD := ⟨("written", none), "written", "written", defArgs s_written, defBody s_written, defScope s_written, [], []⟩
def d_opened : He.DefD := ⟨("opened", none), "opened", "opened", defArgs s_opened, defBody s_opened, defScope s_opened, [], []⟩
def d__law_cell : He.DefD := ⟨("_law_cell", none), "_law_cell", "_law_cell", defArgs s__law_cell, defBody s__law_cell, defScope s__law_cell, [], []⟩
def d__law_dice : He.DefD := ⟨("_law_dice", none), "_law_dice", "_law_dice", defArgs s__law_dice, defBody s__law_dice, defScope s__law_dice, [], []⟩
def d__law_off : He.DefD := ⟨("_law_off", none), "_law_off", "_law_off", defArgs s__law_off, defBody s__law_off, defScope s__law_off, [], []⟩
def d__law_works : He.DefD := ⟨("_law_works", none), "_law_works", "_law_works", defArgs s__law_works, defBody s__law_works, defScope s__law_works, [], []⟩
def d__law_term : He.DefD := ⟨("_law_term", none), "_law_term", "_law_term", defArgs s__law_term, defBody s__law_term, defScope s__law_term, [], []⟩
def d__law_fact : He.DefD := ⟨("_law_fact", none), "_law_fact", "_law_fact", defArgs s__law_fact, defBody s__law_fact, defScope s__law_fact, [], []⟩
def d__law_facts : He.DefD := ⟨("_law_facts", none), "_law_facts", "_law_facts", defArgs s__law_facts, defBody s__law_facts, defScope s__law_facts, [], []⟩
def d__law_put_parts : He.DefD := ⟨("_law_put_parts", none), "_law_put_parts", "_law_put_parts", defArgs s__law_put_parts, defBody s__law_put_parts, defScope s__law_put_parts, [], []⟩
def d__law_like_parts : He.DefD := ⟨("_law_like_parts", none), "_law_like_parts", "_law_like_parts", defArgs s__law_like_parts, defBody s__law_like_parts, defScope s__law_like_parts, [], []⟩
def d__law_through : He.DefD := ⟨("_law_through", none), "_law_through", "_law_through", defArgs s__law_through, defBody s__law_through, defScope s__law_through, [], []⟩
def d__law_more : He.DefD := ⟨("_law_more", none), "_law_more", "_law_more", defArgs s__law_more, defBody s__law_more, defScope s__law_more, [], []⟩
def d__law_table : He.DefD := ⟨("_law_table", none), "_law_table", "_law_table", defArgs s__law_table, defBody s__law_table, defScope s__law_table, [], []⟩
def d__law_stand : He.DefD := ⟨("_law_stand", none), "_law_stand", "_law_stand", defArgs s__law_stand, defBody s__law_stand, defScope s__law_stand, [], []⟩
def d__law_good : He.DefD := ⟨("_law_good", none), "_law_good", "_law_good", defArgs s__law_good, defBody s__law_good, defScope s__law_good, [], []⟩
def d__law_text : He.DefD := ⟨("_law_text", none), "_law_text", "_law_text", defArgs s__law_text, defBody s__law_text, defScope s__law_text, [], []⟩
def d__law_row : He.DefD := ⟨("_law_row", none), "_law_row", "_law_row", defArgs s__law_row, defBody s__law_row, defScope s__law_row, [], []⟩
def d__law_word : He.DefD := ⟨("_law_word", none), "_law_word", "_law_word", defArgs s__law_word, defBody s__law_word, defScope s__law_word, [], []⟩
def d_law : He.DefD := ⟨("law", none), "law", "law", defArgs s_law, defBody s_law, defScope s_law, [], []⟩
def lams : List (He.Defn × Str) := [(d_Board_groups.at_, "Board.groups")]
def tf : List He.Defn := lams.map (·.1)
def fn : List He.DefD := [d_Clash___init__, d_is_name, d_names_in, d_is_term, d_need_term, d_parts_of, d_shown, d_Reader___init__, d_Reader_sign, d_Reader_term, d_Reader_parts, d_read, d_Closing___init__, d_Closing_join, d_Closing_key, d_Closing_join_like_parts, d_Closing_steps, d_Closing_join_rings, d_Closing_stands, d_Closing_ordered, d_beyond, d_stand, d_need_fact, d_shown_fact, d_read_fact, d_cut_down, d_why_not, d_World___init__, d_World_size, d_World_rows, d_World_worth, d_World_holds, d_world_of, d_Board___init__, d_Board_tell, d_Board_facts, d_Board_ask, d_Board_world, d_Board_groups, d_Board_alike_to, d_Board_mark, d_Board_back, d_written, d_opened, d__law_cell, d__law_dice, d__law_off, d__law_works, d__law_term, d__law_fact, d__law_facts, d__law_put_parts, d__law_like_parts, d__law_through, d__law_more, d__law_table, d__law_stand, d__law_good, d__law_text, d__law_row, d__law_word, d_law]
def fa : List He.Fa := [.glo "is_name", .glo "names_in", .glo "is_term", .glo "need_term", .glo "parts_of", .glo "shown", .glo "read", .glo "beyond", .glo "stand", .glo "need_fact", .glo "shown_fact", .glo "read_fact", .glo "cut_down", .glo "why_not", .glo "world_of", .glo "written", .glo "opened", .glo "_law_cell", .glo "_law_dice", .glo "_law_off", .glo "_law_works", .glo "_law_term", .glo "_law_fact", .glo "_law_facts", .glo "_law_put_parts", .glo "_law_like_parts", .glo "_law_through", .glo "_law_more", .glo "_law_table", .glo "_law_stand", .glo "_law_good", .glo "_law_text", .glo "_law_row", .glo "_law_word", .glo "law", .free "len", .free "abs", .free "max", .free "min", .free "int", .free "tuple", .free "list", .free "range", .free "sum", .free "isinstance", .free "sorted", .free "set", .free "zip", .free "enumerate", .free "reversed", .free "str", .free "bool", .free "ValueError", .free "KeyError", .glo "BoardError", .exc "BoardError", .glo "NoTerm", .exc "NoTerm", .glo "NoFact", .exc "NoFact", .glo "BadText", .exc "BadText", .glo "Full", .exc "Full", .glo "NoMark", .exc "NoMark", .glo "Clash", .glo "Reader", .cls "Reader", .mkr "Reader", .noat "Reader" "text", .noat "Reader" "at", .meth "Reader" "sign", .meth "Reader" "term", .meth "Reader" "parts", .glo "Closing", .cls "Closing", .mkr "Closing", .noat "Closing" "given", .noat "Closing" "terms", .noat "Closing" "group", .noat "Closing" "changed", .meth "Closing" "join", .meth "Closing" "key", .meth "Closing" "join_like_parts", .meth "Closing" "steps", .meth "Closing" "join_rings", .meth "Closing" "stands", .meth "Closing" "ordered", .glo "World", .cls "World", .mkr "World", .noat "World" "many", .noat "World" "made", .meth "World" "size", .meth "World" "rows", .meth "World" "worth", .meth "World" "holds", .glo "Board", .cls "Board", .mkr "Board", .noat "Board" "told", .noat "Board" "marks", .meth "Board" "tell", .meth "Board" "facts", .meth "Board" "ask", .meth "Board" "world", .meth "Board" "groups", .meth "Board" "alike_to", .meth "Board" "mark", .meth "Board" "back", .str "LETTERS" "abcdefghijklmnopqrstuvwxyz", .int "MOST_LETTERS" 6, .int "MOST_PARTS" 3, .int "MOST_NAMES" 40, .int "MOST_FACTS" 40, .int "MOST_MARKS" 20, .glo "SIGNS"]
def tabs : List He.Tab := [(fun K => He.ga K "SIGNS", ["alike", "unlike", "most", "over"])]
def exs (K : PySem.W.Frag) : List Bool := [excCB K (He.ga K "Clash"), kitB K (He.ga K "Clash") (.type "ValueError") true, ([(He.ga K "NoTerm", false), (He.ga K "NoFact", false), (He.ga K "Full", false), (He.ga K "NoMark", false), (He.ga K "Clash", true), (He.ga K "BadText", false)]).all fun q => kitB K (He.ga K "Clash") (.ref q.1) q.2, decide (PySem.W.exmOne K (.ref (He.ga K "Clash")) (.ref (He.ga K "BoardError")) = some true), excCB K (He.ga K "BadText"), kitB K (He.ga K "BadText") (.type "ValueError") true, ([(He.ga K "NoTerm", false), (He.ga K "NoFact", false), (He.ga K "Full", false), (He.ga K "NoMark", false), (He.ga K "Clash", false), (He.ga K "BadText", true)]).all fun q => kitB K (He.ga K "BadText") (.ref q.1) q.2, decide (PySem.W.exmOne K (.ref (He.ga K "BadText")) (.ref (He.ga K "BoardError")) = some true), excCB K (He.ga K "Full"), kitB K (He.ga K "Full") (.type "ValueError") true, ([(He.ga K "NoTerm", false), (He.ga K "NoFact", false), (He.ga K "Full", true), (He.ga K "NoMark", false), (He.ga K "Clash", false), (He.ga K "BadText", false)]).all fun q => kitB K (He.ga K "Full") (.ref q.1) q.2, decide (PySem.W.exmOne K (.ref (He.ga K "Full")) (.ref (He.ga K "BoardError")) = some true), oexB2 K (He.ga K "Clash"), decide (PySem.W.findIn K (.ref (He.ga K "Clash")) "__init__" = some (some (.ref (He.fAd K d_Clash___init__.at_)))), decide (PySem.W.typeIn K (.ref (He.fAd K d_Clash___init__.at_)) = some (.type "function")), biB K (He.ga K "BoardError"), decide (PySem.W.findIn K (.ref (He.ga K "Clash")) "row" = some none), xfB K (He.ga K "Clash"), He.valsB K (He.ga K "SIGNS") [("alike", .str "="), ("unlike", .str "!="), ("most", .str "<="), ("over", .str ">")]]
def exB (K : PySem.W.Frag) : Bool := (exs K).all id
theorem ex_at {K : PySem.W.Frag} {b : Bool} (h : exB K = true) (i : Nat) (hb : (exs K)[i]? = some b := by rfl) : b = true := List.all_eq_true.mp h b (List.mem_of_getElem? hb)
/-- the built-in names are free -/
theorem bl_of {P : Program} {w : World} {K : PySem.W.Frag} {h base : Heap} {mg : Str → Option Value} (X : K.In h) (G : h.Ns mainGlobals mg) (c : He.SaysD fa fn K) : Bl ⟨P, w, K, mg, base⟩ :=
  ⟨He.free_ok X G (c.fact 35 (f := .free "len") rfl), He.free_ok X G (c.fact 36 (f := .free "abs") rfl), He.free_ok X G (c.fact 37 (f := .free "max") rfl), He.free_ok X G (c.fact 38 (f := .free "min") rfl), He.free_ok X G (c.fact 39 (f := .free "int") rfl), He.free_ok X G (c.fact 40 (f := .free "tuple") rfl), He.free_ok X G (c.fact 41 (f := .free "list") rfl), He.free_ok X G (c.fact 42 (f := .free "range") rfl), He.free_ok X G (c.fact 43 (f := .free "sum") rfl), He.free_ok X G (c.fact 44 (f := .free "isinstance") rfl), He.free_ok X G (c.fact 45 (f := .free "sorted") rfl), He.free_ok X G (c.fact 46 (f := .free "set") rfl), He.free_ok X G (c.fact 47 (f := .free "zip") rfl), He.free_ok X G (c.fact 48 (f := .free "enumerate") rfl), He.free_ok X G (c.fact 49 (f := .free "reversed") rfl), He.free_ok X G (c.fact 50 (f := .free "str") rfl), He.free_ok X G (c.fact 51 (f := .free "bool") rfl), He.free_ok X G (c.fact 52 (f := .free "ValueError") rfl), He.free_ok X G (c.fact 53 (f := .free "KeyError") rfl)⟩
theorem at_is_name {P : Program} {w : World} {K : PySem.W.Frag} {h base : Heap} {mg : Str → Option Value} (X : K.In h) (G : h.Ns mainGlobals mg) (c : He.SaysD fa fn K) : At ⟨P, w, K, mg, base⟩ "is_name" ["text"] s_is_name := by
  obtain ⟨fd, F⟩ := c.def_ 1 (d := d_is_name) rfl
  exact At.of_fun (f := He.ga K "is_name") F (He.glo_ok X G (c.fact 0 (f := .glo "is_name") rfl)) fun _ _ _ _ _ _ us hl => match us, hl with | [_], _ => rfl
theorem at_names_in {P : Program} {w : World} {K : PySem.W.Frag} {h base : Heap} {mg : Str → Option Value} (X : K.In h) (G : h.Ns mainGlobals mg) (c : He.SaysD fa fn K) : At ⟨P, w, K, mg, base⟩ "names_in" ["term"] s_names_in := by
  obtain ⟨fd, F⟩ := c.def_ 2 (d := d_names_in) rfl
  exact At.of_fun (f := He.ga K "names_in") F (He.glo_ok X G (c.fact 1 (f := .glo "names_in") rfl)) fun _ _ _ _ _ _ us hl => match us, hl with | [_], _ => rfl
theorem at_is_term {P : Program} {w : World} {K : PySem.W.Frag} {h base : Heap} {mg : Str → Option Value} (X : K.In h) (G : h.Ns mainGlobals mg) (c : He.SaysD fa fn K) : At ⟨P, w, K, mg, base⟩ "is_term" ["term"] s_is_term := by
  obtain ⟨fd, F⟩ := c.def_ 3 (d := d_is_term) rfl
  exact At.of_fun (f := He.ga K "is_term") F (He.glo_ok X G (c.fact 2 (f := .glo "is_term") rfl)) fun _ _ _ _ _ _ us hl => match us, hl with | [_], _ => rfl
theorem at_need_term {P : Program} {w : World} {K : PySem.W.Frag} {h base : Heap} {mg : Str → Option Value} (X : K.In h) (G : h.Ns mainGlobals mg) (c : He.SaysD fa fn K) : At ⟨P, w, K, mg, base⟩ "need_term" ["term"] s_need_term := by
  obtain ⟨fd, F⟩ := c.def_ 4 (d := d_need_term) rfl
  exact At.of_fun (f := He.ga K "need_term") F (He.glo_ok X G (c.fact 3 (f := .glo "need_term") rfl)) fun _ _ _ _ _ _ us hl => match us, hl with | [_], _ => rfl
theorem at_parts_of {P : Program} {w : World} {K : PySem.W.Frag} {h base : Heap} {mg : Str → Option Value} (X : K.In h) (G : h.Ns mainGlobals mg) (c : He.SaysD fa fn K) : At ⟨P, w, K, mg, base⟩ "parts_of" ["term"] s_parts_of := by
  obtain ⟨fd, F⟩ := c.def_ 5 (d := d_parts_of) rfl
  exact At.of_fun (f := He.ga K "parts_of") F (He.glo_ok X G (c.fact 4 (f := .glo "parts_of") rfl)) fun _ _ _ _ _ _ us hl => match us, hl with | [_], _ => rfl
theorem at_shown {P : Program} {w : World} {K : PySem.W.Frag} {h base : Heap} {mg : Str → Option Value} (X : K.In h) (G : h.Ns mainGlobals mg) (c : He.SaysD fa fn K) : At ⟨P, w, K, mg, base⟩ "shown" ["term"] s_shown := by
  obtain ⟨fd, F⟩ := c.def_ 6 (d := d_shown) rfl
  exact At.of_fun (f := He.ga K "shown") F (He.glo_ok X G (c.fact 5 (f := .glo "shown") rfl)) fun _ _ _ _ _ _ us hl => match us, hl with | [_], _ => rfl
theorem at_Reader___init__ {P : Program} {w : World} {K : PySem.W.Frag} {h base : Heap} {mg : Str → Option Value} (X : K.In h) (G : h.Ns mainGlobals mg) (c : He.SaysD fa fn K) : AtI ⟨P, w, K, mg, base⟩ (He.ga K "Reader") "Reader.__init__" ["self", "text"] s_Reader___init__ := by
  obtain ⟨fd, F⟩ := c.def_ 7 (d := d_Reader___init__) rfl
  exact ⟨_, fd, F, He.mkr_ok (c.fact 69 (f := .mkr "Reader") rfl), F.bindsN fun _ _ _ _ _ _ us hl => match us, hl with | [_, _], _ => rfl⟩
theorem at_Reader_sign {P : Program} {w : World} {K : PySem.W.Frag} {h base : Heap} {mg : Str → Option Value} (X : K.In h) (G : h.Ns mainGlobals mg) (c : He.SaysD fa fn K) : AtM ⟨P, w, K, mg, base⟩ (He.ga K "Reader") "sign" "Reader.sign" ["self"] s_Reader_sign := by
  obtain ⟨fd, F⟩ := c.def_ 8 (d := d_Reader_sign) rfl
  exact ⟨_, fd, F, He.meth_ok (c.fact 72 (f := .meth "Reader" "sign") rfl), F.bindsN fun _ _ _ _ _ _ us hl => match us, hl with | [_], _ => rfl⟩
theorem at_Reader_term {P : Program} {w : World} {K : PySem.W.Frag} {h base : Heap} {mg : Str → Option Value} (X : K.In h) (G : h.Ns mainGlobals mg) (c : He.SaysD fa fn K) : AtM ⟨P, w, K, mg, base⟩ (He.ga K "Reader") "term" "Reader.term" ["self"] s_Reader_term := by
  obtain ⟨fd, F⟩ := c.def_ 9 (d := d_Reader_term) rfl
  exact ⟨_, fd, F, He.meth_ok (c.fact 73 (f := .meth "Reader" "term") rfl), F.bindsN fun _ _ _ _ _ _ us hl => match us, hl with | [_], _ => rfl⟩
theorem at_Reader_parts {P : Program} {w : World} {K : PySem.W.Frag} {h base : Heap} {mg : Str → Option Value} (X : K.In h) (G : h.Ns mainGlobals mg) (c : He.SaysD fa fn K) : AtM ⟨P, w, K, mg, base⟩ (He.ga K "Reader") "parts" "Reader.parts" ["self"] s_Reader_parts := by
  obtain ⟨fd, F⟩ := c.def_ 10 (d := d_Reader_parts) rfl
  exact ⟨_, fd, F, He.meth_ok (c.fact 74 (f := .meth "Reader" "parts") rfl), F.bindsN fun _ _ _ _ _ _ us hl => match us, hl with | [_], _ => rfl⟩
theorem at_read {P : Program} {w : World} {K : PySem.W.Frag} {h base : Heap} {mg : Str → Option Value} (X : K.In h) (G : h.Ns mainGlobals mg) (c : He.SaysD fa fn K) : At ⟨P, w, K, mg, base⟩ "read" ["text"] s_read := by
  obtain ⟨fd, F⟩ := c.def_ 11 (d := d_read) rfl
  exact At.of_fun (f := He.ga K "read") F (He.glo_ok X G (c.fact 6 (f := .glo "read") rfl)) fun _ _ _ _ _ _ us hl => match us, hl with | [_], _ => rfl
theorem at_Closing___init__ {P : Program} {w : World} {K : PySem.W.Frag} {h base : Heap} {mg : Str → Option Value} (X : K.In h) (G : h.Ns mainGlobals mg) (c : He.SaysD fa fn K) : AtI ⟨P, w, K, mg, base⟩ (He.ga K "Closing") "Closing.__init__" ["self", "facts"] s_Closing___init__ := by
  obtain ⟨fd, F⟩ := c.def_ 12 (d := d_Closing___init__) rfl
  exact ⟨_, fd, F, He.mkr_ok (c.fact 77 (f := .mkr "Closing") rfl), F.bindsN fun _ _ _ _ _ _ us hl => match us, hl with | [_, _], _ => rfl⟩
theorem at_Closing_join {P : Program} {w : World} {K : PySem.W.Frag} {h base : Heap} {mg : Str → Option Value} (X : K.In h) (G : h.Ns mainGlobals mg) (c : He.SaysD fa fn K) : AtM ⟨P, w, K, mg, base⟩ (He.ga K "Closing") "join" "Closing.join" ["self", "one", "other"] s_Closing_join := by
  obtain ⟨fd, F⟩ := c.def_ 13 (d := d_Closing_join) rfl
  exact ⟨_, fd, F, He.meth_ok (c.fact 82 (f := .meth "Closing" "join") rfl), F.bindsN fun _ _ _ _ _ _ us hl => match us, hl with | [_, _, _], _ => rfl⟩
theorem at_Closing_key {P : Program} {w : World} {K : PySem.W.Frag} {h base : Heap} {mg : Str → Option Value} (X : K.In h) (G : h.Ns mainGlobals mg) (c : He.SaysD fa fn K) : AtM ⟨P, w, K, mg, base⟩ (He.ga K "Closing") "key" "Closing.key" ["self", "term"] s_Closing_key := by
  obtain ⟨fd, F⟩ := c.def_ 14 (d := d_Closing_key) rfl
  exact ⟨_, fd, F, He.meth_ok (c.fact 83 (f := .meth "Closing" "key") rfl), F.bindsN fun _ _ _ _ _ _ us hl => match us, hl with | [_, _], _ => rfl⟩
theorem at_Closing_join_like_parts {P : Program} {w : World} {K : PySem.W.Frag} {h base : Heap} {mg : Str → Option Value} (X : K.In h) (G : h.Ns mainGlobals mg) (c : He.SaysD fa fn K) : AtM ⟨P, w, K, mg, base⟩ (He.ga K "Closing") "join_like_parts" "Closing.join_like_parts" ["self"] s_Closing_join_like_parts := by
  obtain ⟨fd, F⟩ := c.def_ 15 (d := d_Closing_join_like_parts) rfl
  exact ⟨_, fd, F, He.meth_ok (c.fact 84 (f := .meth "Closing" "join_like_parts") rfl), F.bindsN fun _ _ _ _ _ _ us hl => match us, hl with | [_], _ => rfl⟩
theorem at_Closing_steps {P : Program} {w : World} {K : PySem.W.Frag} {h base : Heap} {mg : Str → Option Value} (X : K.In h) (G : h.Ns mainGlobals mg) (c : He.SaysD fa fn K) : AtM ⟨P, w, K, mg, base⟩ (He.ga K "Closing") "steps" "Closing.steps" ["self"] s_Closing_steps := by
  obtain ⟨fd, F⟩ := c.def_ 16 (d := d_Closing_steps) rfl
  exact ⟨_, fd, F, He.meth_ok (c.fact 85 (f := .meth "Closing" "steps") rfl), F.bindsN fun _ _ _ _ _ _ us hl => match us, hl with | [_], _ => rfl⟩
theorem at_Closing_join_rings {P : Program} {w : World} {K : PySem.W.Frag} {h base : Heap} {mg : Str → Option Value} (X : K.In h) (G : h.Ns mainGlobals mg) (c : He.SaysD fa fn K) : AtM ⟨P, w, K, mg, base⟩ (He.ga K "Closing") "join_rings" "Closing.join_rings" ["self"] s_Closing_join_rings := by
  obtain ⟨fd, F⟩ := c.def_ 17 (d := d_Closing_join_rings) rfl
  exact ⟨_, fd, F, He.meth_ok (c.fact 86 (f := .meth "Closing" "join_rings") rfl), F.bindsN fun _ _ _ _ _ _ us hl => match us, hl with | [_], _ => rfl⟩
theorem at_Closing_stands {P : Program} {w : World} {K : PySem.W.Frag} {h base : Heap} {mg : Str → Option Value} (X : K.In h) (G : h.Ns mainGlobals mg) (c : He.SaysD fa fn K) : AtM ⟨P, w, K, mg, base⟩ (He.ga K "Closing") "stands" "Closing.stands" ["self"] s_Closing_stands := by
  obtain ⟨fd, F⟩ := c.def_ 18 (d := d_Closing_stands) rfl
  exact ⟨_, fd, F, He.meth_ok (c.fact 87 (f := .meth "Closing" "stands") rfl), F.bindsN fun _ _ _ _ _ _ us hl => match us, hl with | [_], _ => rfl⟩
theorem at_Closing_ordered {P : Program} {w : World} {K : PySem.W.Frag} {h base : Heap} {mg : Str → Option Value} (X : K.In h) (G : h.Ns mainGlobals mg) (c : He.SaysD fa fn K) : AtM ⟨P, w, K, mg, base⟩ (He.ga K "Closing") "ordered" "Closing.ordered" ["self"] s_Closing_ordered := by
  obtain ⟨fd, F⟩ := c.def_ 19 (d := d_Closing_ordered) rfl
  exact ⟨_, fd, F, He.meth_ok (c.fact 88 (f := .meth "Closing" "ordered") rfl), F.bindsN fun _ _ _ _ _ _ us hl => match us, hl with | [_], _ => rfl⟩
theorem at_beyond {P : Program} {w : World} {K : PySem.W.Frag} {h base : Heap} {mg : Str → Option Value} (X : K.In h) (G : h.Ns mainGlobals mg) (c : He.SaysD fa fn K) : At ⟨P, w, K, mg, base⟩ "beyond" ["begin", "steps"] s_beyond := by
  obtain ⟨fd, F⟩ := c.def_ 20 (d := d_beyond) rfl
  exact At.of_fun (f := He.ga K "beyond") F (He.glo_ok X G (c.fact 7 (f := .glo "beyond") rfl)) fun _ _ _ _ _ _ us hl => match us, hl with | [_, _], _ => rfl
theorem at_stand {P : Program} {w : World} {K : PySem.W.Frag} {h base : Heap} {mg : Str → Option Value} (X : K.In h) (G : h.Ns mainGlobals mg) (c : He.SaysD fa fn K) : At ⟨P, w, K, mg, base⟩ "stand" ["facts"] s_stand := by
  obtain ⟨fd, F⟩ := c.def_ 21 (d := d_stand) rfl
  exact At.of_fun (f := He.ga K "stand") F (He.glo_ok X G (c.fact 8 (f := .glo "stand") rfl)) fun _ _ _ _ _ _ us hl => match us, hl with | [_], _ => rfl
theorem at_need_fact {P : Program} {w : World} {K : PySem.W.Frag} {h base : Heap} {mg : Str → Option Value} (X : K.In h) (G : h.Ns mainGlobals mg) (c : He.SaysD fa fn K) : At ⟨P, w, K, mg, base⟩ "need_fact" ["fact"] s_need_fact := by
  obtain ⟨fd, F⟩ := c.def_ 22 (d := d_need_fact) rfl
  exact At.of_fun (f := He.ga K "need_fact") F (He.glo_ok X G (c.fact 9 (f := .glo "need_fact") rfl)) fun _ _ _ _ _ _ us hl => match us, hl with | [_], _ => rfl
theorem at_shown_fact {P : Program} {w : World} {K : PySem.W.Frag} {h base : Heap} {mg : Str → Option Value} (X : K.In h) (G : h.Ns mainGlobals mg) (c : He.SaysD fa fn K) : At ⟨P, w, K, mg, base⟩ "shown_fact" ["fact"] s_shown_fact := by
  obtain ⟨fd, F⟩ := c.def_ 23 (d := d_shown_fact) rfl
  exact At.of_fun (f := He.ga K "shown_fact") F (He.glo_ok X G (c.fact 10 (f := .glo "shown_fact") rfl)) fun _ _ _ _ _ _ us hl => match us, hl with | [_], _ => rfl
theorem at_read_fact {P : Program} {w : World} {K : PySem.W.Frag} {h base : Heap} {mg : Str → Option Value} (X : K.In h) (G : h.Ns mainGlobals mg) (c : He.SaysD fa fn K) : At ⟨P, w, K, mg, base⟩ "read_fact" ["text"] s_read_fact := by
  obtain ⟨fd, F⟩ := c.def_ 24 (d := d_read_fact) rfl
  exact At.of_fun (f := He.ga K "read_fact") F (He.glo_ok X G (c.fact 11 (f := .glo "read_fact") rfl)) fun _ _ _ _ _ _ us hl => match us, hl with | [_], _ => rfl
theorem at_cut_down {P : Program} {w : World} {K : PySem.W.Frag} {h base : Heap} {mg : Str → Option Value} (X : K.In h) (G : h.Ns mainGlobals mg) (c : He.SaysD fa fn K) : At ⟨P, w, K, mg, base⟩ "cut_down" ["facts", "places", "more"] s_cut_down := by
  obtain ⟨fd, F⟩ := c.def_ 25 (d := d_cut_down) rfl
  exact At.of_fun (f := He.ga K "cut_down") F (He.glo_ok X G (c.fact 12 (f := .glo "cut_down") rfl)) fun _ _ _ _ _ _ us hl => match us, hl with | [_, _, _], _ => rfl
theorem at_why_not {P : Program} {w : World} {K : PySem.W.Frag} {h base : Heap} {mg : Str → Option Value} (X : K.In h) (G : h.Ns mainGlobals mg) (c : He.SaysD fa fn K) : At ⟨P, w, K, mg, base⟩ "why_not" ["facts", "fact"] s_why_not := by
  obtain ⟨fd, F⟩ := c.def_ 26 (d := d_why_not) rfl
  exact At.of_fun (f := He.ga K "why_not") F (He.glo_ok X G (c.fact 13 (f := .glo "why_not") rfl)) fun _ _ _ _ _ _ us hl => match us, hl with | [_, _], _ => rfl
theorem at_World___init__ {P : Program} {w : World} {K : PySem.W.Frag} {h base : Heap} {mg : Str → Option Value} (X : K.In h) (G : h.Ns mainGlobals mg) (c : He.SaysD fa fn K) : AtI ⟨P, w, K, mg, base⟩ (He.ga K "World") "World.__init__" ["self", "many", "made"] s_World___init__ := by
  obtain ⟨fd, F⟩ := c.def_ 27 (d := d_World___init__) rfl
  exact ⟨_, fd, F, He.mkr_ok (c.fact 91 (f := .mkr "World") rfl), F.bindsN fun _ _ _ _ _ _ us hl => match us, hl with | [_, _, _], _ => rfl⟩
theorem at_World_size {P : Program} {w : World} {K : PySem.W.Frag} {h base : Heap} {mg : Str → Option Value} (X : K.In h) (G : h.Ns mainGlobals mg) (c : He.SaysD fa fn K) : AtM ⟨P, w, K, mg, base⟩ (He.ga K "World") "size" "World.size" ["self"] s_World_size := by
  obtain ⟨fd, F⟩ := c.def_ 28 (d := d_World_size) rfl
  exact ⟨_, fd, F, He.meth_ok (c.fact 94 (f := .meth "World" "size") rfl), F.bindsN fun _ _ _ _ _ _ us hl => match us, hl with | [_], _ => rfl⟩
theorem at_World_rows {P : Program} {w : World} {K : PySem.W.Frag} {h base : Heap} {mg : Str → Option Value} (X : K.In h) (G : h.Ns mainGlobals mg) (c : He.SaysD fa fn K) : AtM ⟨P, w, K, mg, base⟩ (He.ga K "World") "rows" "World.rows" ["self"] s_World_rows := by
  obtain ⟨fd, F⟩ := c.def_ 29 (d := d_World_rows) rfl
  exact ⟨_, fd, F, He.meth_ok (c.fact 95 (f := .meth "World" "rows") rfl), F.bindsN fun _ _ _ _ _ _ us hl => match us, hl with | [_], _ => rfl⟩
theorem at_World_worth {P : Program} {w : World} {K : PySem.W.Frag} {h base : Heap} {mg : Str → Option Value} (X : K.In h) (G : h.Ns mainGlobals mg) (c : He.SaysD fa fn K) : AtM ⟨P, w, K, mg, base⟩ (He.ga K "World") "worth" "World.worth" ["self", "term"] s_World_worth := by
  obtain ⟨fd, F⟩ := c.def_ 30 (d := d_World_worth) rfl
  exact ⟨_, fd, F, He.meth_ok (c.fact 96 (f := .meth "World" "worth") rfl), F.bindsN fun _ _ _ _ _ _ us hl => match us, hl with | [_, _], _ => rfl⟩
theorem at_World_holds {P : Program} {w : World} {K : PySem.W.Frag} {h base : Heap} {mg : Str → Option Value} (X : K.In h) (G : h.Ns mainGlobals mg) (c : He.SaysD fa fn K) : AtM ⟨P, w, K, mg, base⟩ (He.ga K "World") "holds" "World.holds" ["self", "fact"] s_World_holds := by
  obtain ⟨fd, F⟩ := c.def_ 31 (d := d_World_holds) rfl
  exact ⟨_, fd, F, He.meth_ok (c.fact 97 (f := .meth "World" "holds") rfl), F.bindsN fun _ _ _ _ _ _ us hl => match us, hl with | [_, _], _ => rfl⟩
theorem at_world_of {P : Program} {w : World} {K : PySem.W.Frag} {h base : Heap} {mg : Str → Option Value} (X : K.In h) (G : h.Ns mainGlobals mg) (c : He.SaysD fa fn K) : At ⟨P, w, K, mg, base⟩ "world_of" ["facts"] s_world_of := by
  obtain ⟨fd, F⟩ := c.def_ 32 (d := d_world_of) rfl
  exact At.of_fun (f := He.ga K "world_of") F (He.glo_ok X G (c.fact 14 (f := .glo "world_of") rfl)) fun _ _ _ _ _ _ us hl => match us, hl with | [_], _ => rfl
theorem at_Board___init__ {P : Program} {w : World} {K : PySem.W.Frag} {h base : Heap} {mg : Str → Option Value} (X : K.In h) (G : h.Ns mainGlobals mg) (c : He.SaysD fa fn K) : AtI ⟨P, w, K, mg, base⟩ (He.ga K "Board") "Board.__init__" ["self"] s_Board___init__ := by
  obtain ⟨fd, F⟩ := c.def_ 33 (d := d_Board___init__) rfl
  exact ⟨_, fd, F, He.mkr_ok (c.fact 100 (f := .mkr "Board") rfl), F.bindsN fun _ _ _ _ _ _ us hl => match us, hl with | [_], _ => rfl⟩
theorem at_Board_tell {P : Program} {w : World} {K : PySem.W.Frag} {h base : Heap} {mg : Str → Option Value} (X : K.In h) (G : h.Ns mainGlobals mg) (c : He.SaysD fa fn K) : AtM ⟨P, w, K, mg, base⟩ (He.ga K "Board") "tell" "Board.tell" ["self", "fact"] s_Board_tell := by
  obtain ⟨fd, F⟩ := c.def_ 34 (d := d_Board_tell) rfl
  exact ⟨_, fd, F, He.meth_ok (c.fact 103 (f := .meth "Board" "tell") rfl), F.bindsN fun _ _ _ _ _ _ us hl => match us, hl with | [_, _], _ => rfl⟩
theorem at_Board_facts {P : Program} {w : World} {K : PySem.W.Frag} {h base : Heap} {mg : Str → Option Value} (X : K.In h) (G : h.Ns mainGlobals mg) (c : He.SaysD fa fn K) : AtM ⟨P, w, K, mg, base⟩ (He.ga K "Board") "facts" "Board.facts" ["self"] s_Board_facts := by
  obtain ⟨fd, F⟩ := c.def_ 35 (d := d_Board_facts) rfl
  exact ⟨_, fd, F, He.meth_ok (c.fact 104 (f := .meth "Board" "facts") rfl), F.bindsN fun _ _ _ _ _ _ us hl => match us, hl with | [_], _ => rfl⟩
theorem at_Board_ask {P : Program} {w : World} {K : PySem.W.Frag} {h base : Heap} {mg : Str → Option Value} (X : K.In h) (G : h.Ns mainGlobals mg) (c : He.SaysD fa fn K) : AtM ⟨P, w, K, mg, base⟩ (He.ga K "Board") "ask" "Board.ask" ["self", "fact"] s_Board_ask := by
  obtain ⟨fd, F⟩ := c.def_ 36 (d := d_Board_ask) rfl
  exact ⟨_, fd, F, He.meth_ok (c.fact 105 (f := .meth "Board" "ask") rfl), F.bindsN fun _ _ _ _ _ _ us hl => match us, hl with | [_, _], _ => rfl⟩
theorem at_Board_world {P : Program} {w : World} {K : PySem.W.Frag} {h base : Heap} {mg : Str → Option Value} (X : K.In h) (G : h.Ns mainGlobals mg) (c : He.SaysD fa fn K) : AtM ⟨P, w, K, mg, base⟩ (He.ga K "Board") "world" "Board.world" ["self"] s_Board_world := by
  obtain ⟨fd, F⟩ := c.def_ 37 (d := d_Board_world) rfl
  exact ⟨_, fd, F, He.meth_ok (c.fact 106 (f := .meth "Board" "world") rfl), F.bindsN fun _ _ _ _ _ _ us hl => match us, hl with | [_], _ => rfl⟩
theorem at_Board_groups {P : Program} {w : World} {K : PySem.W.Frag} {h base : Heap} {mg : Str → Option Value} (X : K.In h) (G : h.Ns mainGlobals mg) (c : He.SaysD fa fn K) (tb : LamX.TabB base mg (He.cT K d_Board_groups.at_).1 (He.cT K d_Board_groups.at_).2) : AtMC ⟨P, w, K, mg, base⟩ (He.ga K "Board") "groups" "Board.groups" ["self"] s_Board_groups (He.cT K d_Board_groups.at_).1 (He.cT K d_Board_groups.at_).2 := by
  obtain ⟨fd, F⟩ := c.def_ 38 (d := d_Board_groups) rfl
  exact ⟨_, fd, F, He.meth_ok (c.fact 107 (f := .meth "Board" "groups") rfl), F.bindsN fun _ _ _ _ _ _ us hl => match us, hl with | [_], _ => rfl, tabF_of F tb⟩
theorem at_Board_alike_to {P : Program} {w : World} {K : PySem.W.Frag} {h base : Heap} {mg : Str → Option Value} (X : K.In h) (G : h.Ns mainGlobals mg) (c : He.SaysD fa fn K) : AtM ⟨P, w, K, mg, base⟩ (He.ga K "Board") "alike_to" "Board.alike_to" ["self", "term"] s_Board_alike_to := by
  obtain ⟨fd, F⟩ := c.def_ 39 (d := d_Board_alike_to) rfl
  exact ⟨_, fd, F, He.meth_ok (c.fact 108 (f := .meth "Board" "alike_to") rfl), F.bindsN fun _ _ _ _ _ _ us hl => match us, hl with | [_, _], _ => rfl⟩
theorem at_Board_mark {P : Program} {w : World} {K : PySem.W.Frag} {h base : Heap} {mg : Str → Option Value} (X : K.In h) (G : h.Ns mainGlobals mg) (c : He.SaysD fa fn K) : AtM ⟨P, w, K, mg, base⟩ (He.ga K "Board") "mark" "Board.mark" ["self"] s_Board_mark := by
  obtain ⟨fd, F⟩ := c.def_ 40 (d := d_Board_mark) rfl
  exact ⟨_, fd, F, He.meth_ok (c.fact 109 (f := .meth "Board" "mark") rfl), F.bindsN fun _ _ _ _ _ _ us hl => match us, hl with | [_], _ => rfl⟩
theorem at_Board_back {P : Program} {w : World} {K : PySem.W.Frag} {h base : Heap} {mg : Str → Option Value} (X : K.In h) (G : h.Ns mainGlobals mg) (c : He.SaysD fa fn K) : AtM ⟨P, w, K, mg, base⟩ (He.ga K "Board") "back" "Board.back" ["self", "mark"] s_Board_back := by
  obtain ⟨fd, F⟩ := c.def_ 41 (d := d_Board_back) rfl
  exact ⟨_, fd, F, He.meth_ok (c.fact 110 (f := .meth "Board" "back") rfl), F.bindsN fun _ _ _ _ _ _ us hl => match us, hl with | [_, _], _ => rfl⟩
theorem at_written {P : Program} {w : World} {K : PySem.W.Frag} {h base : Heap} {mg : Str → Option Value} (X : K.In h) (G : h.Ns mainGlobals mg) (c : He.SaysD fa fn K) : At ⟨P, w, K, mg, base⟩ "written" ["board"] s_written := by
  obtain ⟨fd, F⟩ := c.def_ 42 (d := d_written) rfl
  exact At.of_fun (f := He.ga K "written") F (He.glo_ok X G (c.fact 15 (f := .glo "written") rfl)) fun _ _ _ _ _ _ us hl => match us, hl with | [_], _ => rfl
theorem at_opened {P : Program} {w : World} {K : PySem.W.Frag} {h base : Heap} {mg : Str → Option Value} (X : K.In h) (G : h.Ns mainGlobals mg) (c : He.SaysD fa fn K) : At ⟨P, w, K, mg, base⟩ "opened" ["rows"] s_opened := by
  obtain ⟨fd, F⟩ := c.def_ 43 (d := d_opened) rfl
  exact At.of_fun (f := He.ga K "opened") F (He.glo_ok X G (c.fact 16 (f := .glo "opened") rfl)) fun _ _ _ _ _ _ us hl => match us, hl with | [_], _ => rfl
theorem at__law_cell {P : Program} {w : World} {K : PySem.W.Frag} {h base : Heap} {mg : Str → Option Value} (X : K.In h) (G : h.Ns mainGlobals mg) (c : He.SaysD fa fn K) : At ⟨P, w, K, mg, base⟩ "_law_cell" ["_law_script", "_law_k"] s__law_cell := by
  obtain ⟨fd, F⟩ := c.def_ 44 (d := d__law_cell) rfl
  exact At.of_fun (f := He.ga K "_law_cell") F (He.glo_ok X G (c.fact 17 (f := .glo "_law_cell") rfl)) fun _ _ _ _ _ _ us hl => match us, hl with | [_, _], _ => rfl
theorem at__law_dice {P : Program} {w : World} {K : PySem.W.Frag} {h base : Heap} {mg : Str → Option Value} (X : K.In h) (G : h.Ns mainGlobals mg) (c : He.SaysD fa fn K) : At ⟨P, w, K, mg, base⟩ "_law_dice" ["_law_script", "_law_k"] s__law_dice := by
  obtain ⟨fd, F⟩ := c.def_ 45 (d := d__law_dice) rfl
  exact At.of_fun (f := He.ga K "_law_dice") F (He.glo_ok X G (c.fact 18 (f := .glo "_law_dice") rfl)) fun _ _ _ _ _ _ us hl => match us, hl with | [_, _], _ => rfl
theorem at__law_off {P : Program} {w : World} {K : PySem.W.Frag} {h base : Heap} {mg : Str → Option Value} (X : K.In h) (G : h.Ns mainGlobals mg) (c : He.SaysD fa fn K) : At ⟨P, w, K, mg, base⟩ "_law_off" ["_law_d", "_law_most"] s__law_off := by
  obtain ⟨fd, F⟩ := c.def_ 46 (d := d__law_off) rfl
  exact At.of_fun (f := He.ga K "_law_off") F (He.glo_ok X G (c.fact 19 (f := .glo "_law_off") rfl)) fun _ _ _ _ _ _ us hl => match us, hl with | [_, _], _ => rfl
theorem at__law_works {P : Program} {w : World} {K : PySem.W.Frag} {h base : Heap} {mg : Str → Option Value} (X : K.In h) (G : h.Ns mainGlobals mg) (c : He.SaysD fa fn K) : At ⟨P, w, K, mg, base⟩ "_law_works" ["_law_d"] s__law_works := by
  obtain ⟨fd, F⟩ := c.def_ 47 (d := d__law_works) rfl
  exact At.of_fun (f := He.ga K "_law_works") F (He.glo_ok X G (c.fact 20 (f := .glo "_law_works") rfl)) fun _ _ _ _ _ _ us hl => match us, hl with | [_], _ => rfl
theorem at__law_term {P : Program} {w : World} {K : PySem.W.Frag} {h base : Heap} {mg : Str → Option Value} (X : K.In h) (G : h.Ns mainGlobals mg) (c : He.SaysD fa fn K) : At ⟨P, w, K, mg, base⟩ "_law_term" ["_law_d", "_law_works_here", "_law_deep"] s__law_term := by
  obtain ⟨fd, F⟩ := c.def_ 48 (d := d__law_term) rfl
  exact At.of_fun (f := He.ga K "_law_term") F (He.glo_ok X G (c.fact 21 (f := .glo "_law_term") rfl)) fun _ _ _ _ _ _ us hl => match us, hl with | [_, _, _], _ => rfl
theorem at__law_fact {P : Program} {w : World} {K : PySem.W.Frag} {h base : Heap} {mg : Str → Option Value} (X : K.In h) (G : h.Ns mainGlobals mg) (c : He.SaysD fa fn K) : At ⟨P, w, K, mg, base⟩ "_law_fact" ["_law_d", "_law_works_here", "_law_deep"] s__law_fact := by
  obtain ⟨fd, F⟩ := c.def_ 49 (d := d__law_fact) rfl
  exact At.of_fun (f := He.ga K "_law_fact") F (He.glo_ok X G (c.fact 22 (f := .glo "_law_fact") rfl)) fun _ _ _ _ _ _ us hl => match us, hl with | [_, _, _], _ => rfl
theorem at__law_facts {P : Program} {w : World} {K : PySem.W.Frag} {h base : Heap} {mg : Str → Option Value} (X : K.In h) (G : h.Ns mainGlobals mg) (c : He.SaysD fa fn K) : At ⟨P, w, K, mg, base⟩ "_law_facts" ["_law_d", "_law_works_here", "_law_most"] s__law_facts := by
  obtain ⟨fd, F⟩ := c.def_ 50 (d := d__law_facts) rfl
  exact At.of_fun (f := He.ga K "_law_facts") F (He.glo_ok X G (c.fact 23 (f := .glo "_law_facts") rfl)) fun _ _ _ _ _ _ us hl => match us, hl with | [_, _, _], _ => rfl
theorem at__law_put_parts {P : Program} {w : World} {K : PySem.W.Frag} {h base : Heap} {mg : Str → Option Value} (X : K.In h) (G : h.Ns mainGlobals mg) (c : He.SaysD fa fn K) : At ⟨P, w, K, mg, base⟩ "_law_put_parts" ["_law_term_here", "_law_found"] s__law_put_parts := by
  obtain ⟨fd, F⟩ := c.def_ 51 (d := d__law_put_parts) rfl
  exact At.of_fun (f := He.ga K "_law_put_parts") F (He.glo_ok X G (c.fact 24 (f := .glo "_law_put_parts") rfl)) fun _ _ _ _ _ _ us hl => match us, hl with | [_, _], _ => rfl
theorem at__law_like_parts {P : Program} {w : World} {K : PySem.W.Frag} {h base : Heap} {mg : Str → Option Value} (X : K.In h) (G : h.Ns mainGlobals mg) (c : He.SaysD fa fn K) : At ⟨P, w, K, mg, base⟩ "_law_like_parts" ["_law_terms", "_law_like", "_law_i", "_law_j"] s__law_like_parts := by
  obtain ⟨fd, F⟩ := c.def_ 52 (d := d__law_like_parts) rfl
  exact At.of_fun (f := He.ga K "_law_like_parts") F (He.glo_ok X G (c.fact 25 (f := .glo "_law_like_parts") rfl)) fun _ _ _ _ _ _ us hl => match us, hl with | [_, _, _, _], _ => rfl
theorem at__law_through {P : Program} {w : World} {K : PySem.W.Frag} {h base : Heap} {mg : Str → Option Value} (X : K.In h) (G : h.Ns mainGlobals mg) (c : He.SaysD fa fn K) : At ⟨P, w, K, mg, base⟩ "_law_through" ["_law_table_here"] s__law_through := by
  obtain ⟨fd, F⟩ := c.def_ 53 (d := d__law_through) rfl
  exact At.of_fun (f := He.ga K "_law_through") F (He.glo_ok X G (c.fact 26 (f := .glo "_law_through") rfl)) fun _ _ _ _ _ _ us hl => match us, hl with | [_], _ => rfl
theorem at__law_more {P : Program} {w : World} {K : PySem.W.Frag} {h base : Heap} {mg : Str → Option Value} (X : K.In h) (G : h.Ns mainGlobals mg) (c : He.SaysD fa fn K) : At ⟨P, w, K, mg, base⟩ "_law_more" ["_law_terms", "_law_like", "_law_most"] s__law_more := by
  obtain ⟨fd, F⟩ := c.def_ 54 (d := d__law_more) rfl
  exact At.of_fun (f := He.ga K "_law_more") F (He.glo_ok X G (c.fact 27 (f := .glo "_law_more") rfl)) fun _ _ _ _ _ _ us hl => match us, hl with | [_, _, _], _ => rfl
theorem at__law_table {P : Program} {w : World} {K : PySem.W.Frag} {h base : Heap} {mg : Str → Option Value} (X : K.In h) (G : h.Ns mainGlobals mg) (c : He.SaysD fa fn K) : At ⟨P, w, K, mg, base⟩ "_law_table" ["_law_facts_here"] s__law_table := by
  obtain ⟨fd, F⟩ := c.def_ 55 (d := d__law_table) rfl
  exact At.of_fun (f := He.ga K "_law_table") F (He.glo_ok X G (c.fact 28 (f := .glo "_law_table") rfl)) fun _ _ _ _ _ _ us hl => match us, hl with | [_], _ => rfl
theorem at__law_stand {P : Program} {w : World} {K : PySem.W.Frag} {h base : Heap} {mg : Str → Option Value} (X : K.In h) (G : h.Ns mainGlobals mg) (c : He.SaysD fa fn K) : At ⟨P, w, K, mg, base⟩ "_law_stand" ["_law_facts_here"] s__law_stand := by
  obtain ⟨fd, F⟩ := c.def_ 56 (d := d__law_stand) rfl
  exact At.of_fun (f := He.ga K "_law_stand") F (He.glo_ok X G (c.fact 29 (f := .glo "_law_stand") rfl)) fun _ _ _ _ _ _ us hl => match us, hl with | [_], _ => rfl
theorem at__law_good {P : Program} {w : World} {K : PySem.W.Frag} {h base : Heap} {mg : Str → Option Value} (X : K.In h) (G : h.Ns mainGlobals mg) (c : He.SaysD fa fn K) : At ⟨P, w, K, mg, base⟩ "_law_good" ["_law_d", "_law_works_here", "_law_most"] s__law_good := by
  obtain ⟨fd, F⟩ := c.def_ 57 (d := d__law_good) rfl
  exact At.of_fun (f := He.ga K "_law_good") F (He.glo_ok X G (c.fact 30 (f := .glo "_law_good") rfl)) fun _ _ _ _ _ _ us hl => match us, hl with | [_, _, _], _ => rfl
theorem at__law_text {P : Program} {w : World} {K : PySem.W.Frag} {h base : Heap} {mg : Str → Option Value} (X : K.In h) (G : h.Ns mainGlobals mg) (c : He.SaysD fa fn K) : At ⟨P, w, K, mg, base⟩ "_law_text" ["_law_term_here"] s__law_text := by
  obtain ⟨fd, F⟩ := c.def_ 58 (d := d__law_text) rfl
  exact At.of_fun (f := He.ga K "_law_text") F (He.glo_ok X G (c.fact 31 (f := .glo "_law_text") rfl)) fun _ _ _ _ _ _ us hl => match us, hl with | [_], _ => rfl
theorem at__law_row {P : Program} {w : World} {K : PySem.W.Frag} {h base : Heap} {mg : Str → Option Value} (X : K.In h) (G : h.Ns mainGlobals mg) (c : He.SaysD fa fn K) : At ⟨P, w, K, mg, base⟩ "_law_row" ["_law_fact_here"] s__law_row := by
  obtain ⟨fd, F⟩ := c.def_ 59 (d := d__law_row) rfl
  exact At.of_fun (f := He.ga K "_law_row") F (He.glo_ok X G (c.fact 32 (f := .glo "_law_row") rfl)) fun _ _ _ _ _ _ us hl => match us, hl with | [_], _ => rfl
theorem at__law_word {P : Program} {w : World} {K : PySem.W.Frag} {h base : Heap} {mg : Str → Option Value} (X : K.In h) (G : h.Ns mainGlobals mg) (c : He.SaysD fa fn K) : At ⟨P, w, K, mg, base⟩ "_law_word" ["_law_rows"] s__law_word := by
  obtain ⟨fd, F⟩ := c.def_ 60 (d := d__law_word) rfl
  exact At.of_fun (f := He.ga K "_law_word") F (He.glo_ok X G (c.fact 33 (f := .glo "_law_word") rfl)) fun _ _ _ _ _ _ us hl => match us, hl with | [_], _ => rfl
theorem at_law {P : Program} {w : World} {K : PySem.W.Frag} {h base : Heap} {mg : Str → Option Value} (X : K.In h) (G : h.Ns mainGlobals mg) (c : He.SaysD fa fn K) : At ⟨P, w, K, mg, base⟩ "law" ["_law_script"] s_law := by
  obtain ⟨fd, F⟩ := c.def_ 61 (d := d_law) rfl
  exact At.of_fun (f := He.ga K "law") F (He.glo_ok X G (c.fact 34 (f := .glo "law") rfl)) fun _ _ _ _ _ _ us hl => match us, hl with | [_], _ => rfl
theorem g_BoardError_of {P : Program} {w : World} {K : PySem.W.Frag} {h base : Heap} {mg : Str → Option Value} (X : K.In h) (G : h.Ns mainGlobals mg) (c : He.SaysD fa fn K) : Glo ⟨P, w, K, mg, base⟩ "BoardError" (He.ga K "BoardError") := ⟨He.glo_ok X G (c.fact 54 (f := .glo "BoardError") rfl)⟩
theorem k_BoardError_of {P : Program} {w : World} {K : PySem.W.Frag} {h base : Heap} {mg : Str → Option Value} (X : K.In h) (G : h.Ns mainGlobals mg) (c : He.SaysD fa fn K) : ExK ⟨P, w, K, mg, base⟩ "BoardError" (He.ga K "BoardError") := by
  obtain ⟨h1, h2, h3, h4⟩ := He.exc_ok (c.fact 55 (f := .exc "BoardError") rfl)
  exact ⟨He.glo_ok X G (c.fact 54 (f := .glo "BoardError") rfl), h1, h2, h3, h4⟩
theorem g_NoTerm_of {P : Program} {w : World} {K : PySem.W.Frag} {h base : Heap} {mg : Str → Option Value} (X : K.In h) (G : h.Ns mainGlobals mg) (c : He.SaysD fa fn K) : Glo ⟨P, w, K, mg, base⟩ "NoTerm" (He.ga K "NoTerm") := ⟨He.glo_ok X G (c.fact 56 (f := .glo "NoTerm") rfl)⟩
theorem k_NoTerm_of {P : Program} {w : World} {K : PySem.W.Frag} {h base : Heap} {mg : Str → Option Value} (X : K.In h) (G : h.Ns mainGlobals mg) (c : He.SaysD fa fn K) : ExK ⟨P, w, K, mg, base⟩ "NoTerm" (He.ga K "NoTerm") := by
  obtain ⟨h1, h2, h3, h4⟩ := He.exc_ok (c.fact 57 (f := .exc "NoTerm") rfl)
  exact ⟨He.glo_ok X G (c.fact 56 (f := .glo "NoTerm") rfl), h1, h2, h3, h4⟩
theorem g_NoFact_of {P : Program} {w : World} {K : PySem.W.Frag} {h base : Heap} {mg : Str → Option Value} (X : K.In h) (G : h.Ns mainGlobals mg) (c : He.SaysD fa fn K) : Glo ⟨P, w, K, mg, base⟩ "NoFact" (He.ga K "NoFact") := ⟨He.glo_ok X G (c.fact 58 (f := .glo "NoFact") rfl)⟩
theorem k_NoFact_of {P : Program} {w : World} {K : PySem.W.Frag} {h base : Heap} {mg : Str → Option Value} (X : K.In h) (G : h.Ns mainGlobals mg) (c : He.SaysD fa fn K) : ExK ⟨P, w, K, mg, base⟩ "NoFact" (He.ga K "NoFact") := by
  obtain ⟨h1, h2, h3, h4⟩ := He.exc_ok (c.fact 59 (f := .exc "NoFact") rfl)
  exact ⟨He.glo_ok X G (c.fact 58 (f := .glo "NoFact") rfl), h1, h2, h3, h4⟩
theorem g_BadText_of {P : Program} {w : World} {K : PySem.W.Frag} {h base : Heap} {mg : Str → Option Value} (X : K.In h) (G : h.Ns mainGlobals mg) (c : He.SaysD fa fn K) : Glo ⟨P, w, K, mg, base⟩ "BadText" (He.ga K "BadText") := ⟨He.glo_ok X G (c.fact 60 (f := .glo "BadText") rfl)⟩
theorem k_BadText_of {P : Program} {w : World} {K : PySem.W.Frag} {h base : Heap} {mg : Str → Option Value} (X : K.In h) (G : h.Ns mainGlobals mg) (c : He.SaysD fa fn K) : ExK ⟨P, w, K, mg, base⟩ "BadText" (He.ga K "BadText") := by
  obtain ⟨h1, h2, h3, h4⟩ := He.exc_ok (c.fact 61 (f := .exc "BadText") rfl)
  exact ⟨He.glo_ok X G (c.fact 60 (f := .glo "BadText") rfl), h1, h2, h3, h4⟩
theorem g_Full_of {P : Program} {w : World} {K : PySem.W.Frag} {h base : Heap} {mg : Str → Option Value} (X : K.In h) (G : h.Ns mainGlobals mg) (c : He.SaysD fa fn K) : Glo ⟨P, w, K, mg, base⟩ "Full" (He.ga K "Full") := ⟨He.glo_ok X G (c.fact 62 (f := .glo "Full") rfl)⟩
theorem k_Full_of {P : Program} {w : World} {K : PySem.W.Frag} {h base : Heap} {mg : Str → Option Value} (X : K.In h) (G : h.Ns mainGlobals mg) (c : He.SaysD fa fn K) : ExK ⟨P, w, K, mg, base⟩ "Full" (He.ga K "Full") := by
  obtain ⟨h1, h2, h3, h4⟩ := He.exc_ok (c.fact 63 (f := .exc "Full") rfl)
  exact ⟨He.glo_ok X G (c.fact 62 (f := .glo "Full") rfl), h1, h2, h3, h4⟩
theorem g_NoMark_of {P : Program} {w : World} {K : PySem.W.Frag} {h base : Heap} {mg : Str → Option Value} (X : K.In h) (G : h.Ns mainGlobals mg) (c : He.SaysD fa fn K) : Glo ⟨P, w, K, mg, base⟩ "NoMark" (He.ga K "NoMark") := ⟨He.glo_ok X G (c.fact 64 (f := .glo "NoMark") rfl)⟩
theorem k_NoMark_of {P : Program} {w : World} {K : PySem.W.Frag} {h base : Heap} {mg : Str → Option Value} (X : K.In h) (G : h.Ns mainGlobals mg) (c : He.SaysD fa fn K) : ExK ⟨P, w, K, mg, base⟩ "NoMark" (He.ga K "NoMark") := by
  obtain ⟨h1, h2, h3, h4⟩ := He.exc_ok (c.fact 65 (f := .exc "NoMark") rfl)
  exact ⟨He.glo_ok X G (c.fact 64 (f := .glo "NoMark") rfl), h1, h2, h3, h4⟩
theorem g_Clash_of {P : Program} {w : World} {K : PySem.W.Frag} {h base : Heap} {mg : Str → Option Value} (X : K.In h) (G : h.Ns mainGlobals mg) (c : He.SaysD fa fn K) : Glo ⟨P, w, K, mg, base⟩ "Clash" (He.ga K "Clash") := ⟨He.glo_ok X G (c.fact 66 (f := .glo "Clash") rfl)⟩
theorem c_Reader_of {P : Program} {w : World} {K : PySem.W.Frag} {h base : Heap} {mg : Str → Option Value} (X : K.In h) (G : h.Ns mainGlobals mg) (c : He.SaysD fa fn K) : RdC ⟨P, w, K, mg, base⟩ (He.ga K "Reader") := ⟨He.glo_ok X G (c.fact 67 (f := .glo "Reader") rfl), He.cls_ok (c.fact 68 (f := .cls "Reader") rfl), He.noat_ok (c.fact 70 (f := .noat "Reader" "text") rfl), He.noat_ok (c.fact 71 (f := .noat "Reader" "at") rfl)⟩
theorem c_Closing_of {P : Program} {w : World} {K : PySem.W.Frag} {h base : Heap} {mg : Str → Option Value} (X : K.In h) (G : h.Ns mainGlobals mg) (c : He.SaysD fa fn K) : ClC ⟨P, w, K, mg, base⟩ (He.ga K "Closing") := ⟨He.glo_ok X G (c.fact 75 (f := .glo "Closing") rfl), He.cls_ok (c.fact 76 (f := .cls "Closing") rfl), He.noat_ok (c.fact 78 (f := .noat "Closing" "given") rfl), He.noat_ok (c.fact 79 (f := .noat "Closing" "terms") rfl), He.noat_ok (c.fact 80 (f := .noat "Closing" "group") rfl), He.noat_ok (c.fact 81 (f := .noat "Closing" "changed") rfl)⟩
theorem c_World_of {P : Program} {w : World} {K : PySem.W.Frag} {h base : Heap} {mg : Str → Option Value} (X : K.In h) (G : h.Ns mainGlobals mg) (c : He.SaysD fa fn K) : WdC ⟨P, w, K, mg, base⟩ (He.ga K "World") := ⟨He.glo_ok X G (c.fact 89 (f := .glo "World") rfl), He.cls_ok (c.fact 90 (f := .cls "World") rfl), He.noat_ok (c.fact 92 (f := .noat "World" "many") rfl), He.noat_ok (c.fact 93 (f := .noat "World" "made") rfl)⟩
theorem c_Board_of {P : Program} {w : World} {K : PySem.W.Frag} {h base : Heap} {mg : Str → Option Value} (X : K.In h) (G : h.Ns mainGlobals mg) (c : He.SaysD fa fn K) : BdC ⟨P, w, K, mg, base⟩ (He.ga K "Board") := ⟨He.glo_ok X G (c.fact 98 (f := .glo "Board") rfl), He.cls_ok (c.fact 99 (f := .cls "Board") rfl), He.noat_ok (c.fact 101 (f := .noat "Board" "told") rfl), He.noat_ok (c.fact 102 (f := .noat "Board" "marks") rfl)⟩
theorem k_LETTERS_of {P : Program} {w : World} {K : PySem.W.Frag} {h base : Heap} {mg : Str → Option Value} (X : K.In h) (G : h.Ns mainGlobals mg) (c : He.SaysD fa fn K) : Cst ⟨P, w, K, mg, base⟩ "LETTERS" (.str "abcdefghijklmnopqrstuvwxyz") := by
  obtain ⟨t, h⟩ := He.str_ok X G (c.fact 111 (f := .str "LETTERS" "abcdefghijklmnopqrstuvwxyz") rfl)
  exact ⟨_, h, ⟨t, rfl⟩⟩
theorem k_MOST_LETTERS_of {P : Program} {w : World} {K : PySem.W.Frag} {h base : Heap} {mg : Str → Option Value} (X : K.In h) (G : h.Ns mainGlobals mg) (c : He.SaysD fa fn K) : Cst ⟨P, w, K, mg, base⟩ "MOST_LETTERS" (.int 6) := by
  obtain ⟨t, h⟩ := He.int_ok X G (c.fact 112 (f := .int "MOST_LETTERS" 6) rfl)
  exact ⟨_, h, ⟨t, rfl⟩⟩
theorem k_MOST_PARTS_of {P : Program} {w : World} {K : PySem.W.Frag} {h base : Heap} {mg : Str → Option Value} (X : K.In h) (G : h.Ns mainGlobals mg) (c : He.SaysD fa fn K) : Cst ⟨P, w, K, mg, base⟩ "MOST_PARTS" (.int 3) := by
  obtain ⟨t, h⟩ := He.int_ok X G (c.fact 113 (f := .int "MOST_PARTS" 3) rfl)
  exact ⟨_, h, ⟨t, rfl⟩⟩
theorem k_MOST_NAMES_of {P : Program} {w : World} {K : PySem.W.Frag} {h base : Heap} {mg : Str → Option Value} (X : K.In h) (G : h.Ns mainGlobals mg) (c : He.SaysD fa fn K) : Cst ⟨P, w, K, mg, base⟩ "MOST_NAMES" (.int 40) := by
  obtain ⟨t, h⟩ := He.int_ok X G (c.fact 114 (f := .int "MOST_NAMES" 40) rfl)
  exact ⟨_, h, ⟨t, rfl⟩⟩
theorem k_MOST_FACTS_of {P : Program} {w : World} {K : PySem.W.Frag} {h base : Heap} {mg : Str → Option Value} (X : K.In h) (G : h.Ns mainGlobals mg) (c : He.SaysD fa fn K) : Cst ⟨P, w, K, mg, base⟩ "MOST_FACTS" (.int 40) := by
  obtain ⟨t, h⟩ := He.int_ok X G (c.fact 115 (f := .int "MOST_FACTS" 40) rfl)
  exact ⟨_, h, ⟨t, rfl⟩⟩
theorem k_MOST_MARKS_of {P : Program} {w : World} {K : PySem.W.Frag} {h base : Heap} {mg : Str → Option Value} (X : K.In h) (G : h.Ns mainGlobals mg) (c : He.SaysD fa fn K) : Cst ⟨P, w, K, mg, base⟩ "MOST_MARKS" (.int 20) := by
  obtain ⟨t, h⟩ := He.int_ok X G (c.fact 116 (f := .int "MOST_MARKS" 20) rfl)
  exact ⟨_, h, ⟨t, rfl⟩⟩
theorem x_Clash_of {P : Program} {w : World} {K : PySem.W.Frag} {h base : Heap} {mg : Str → Option Value} (X : K.In h) (G : h.Ns mainGlobals mg) (c : SaysY fa fn tabs exB w K) : ExcK ⟨P, w, K, mg, base⟩ (He.ga K "Clash") (kts [(He.ga K "NoTerm", false), (He.ga K "NoFact", false), (He.ga K "Full", false), (He.ga K "NoMark", false), (He.ga K "Clash", true), (He.ga K "BadText", false)]) :=
  excK_of (ex_at c.more 0 rfl) (ex_at c.more 1 rfl) (List.all_eq_true.mp (ex_at c.more 2 rfl))
theorem t_Clash_of {P : Program} {w : World} {K : PySem.W.Frag} {h base : Heap} {mg : Str → Option Value} (X : K.In h) (G : h.Ns mainGlobals mg) (c : SaysY fa fn tabs exB w K) : Takes1 ⟨P, w, K, mg, base⟩ (He.ga K "Clash") (He.ga K "BoardError") := of_decide_eq_true (p := PySem.W.exmOne K (.ref (He.ga K "Clash")) (.ref (He.ga K "BoardError")) = some true) (ex_at c.more 3 rfl)
theorem x_BadText_of {P : Program} {w : World} {K : PySem.W.Frag} {h base : Heap} {mg : Str → Option Value} (X : K.In h) (G : h.Ns mainGlobals mg) (c : SaysY fa fn tabs exB w K) : ExcK ⟨P, w, K, mg, base⟩ (He.ga K "BadText") (kts [(He.ga K "NoTerm", false), (He.ga K "NoFact", false), (He.ga K "Full", false), (He.ga K "NoMark", false), (He.ga K "Clash", false), (He.ga K "BadText", true)]) :=
  excK_of (ex_at c.more 4 rfl) (ex_at c.more 5 rfl) (List.all_eq_true.mp (ex_at c.more 6 rfl))
theorem t_BadText_of {P : Program} {w : World} {K : PySem.W.Frag} {h base : Heap} {mg : Str → Option Value} (X : K.In h) (G : h.Ns mainGlobals mg) (c : SaysY fa fn tabs exB w K) : Takes1 ⟨P, w, K, mg, base⟩ (He.ga K "BadText") (He.ga K "BoardError") := of_decide_eq_true (p := PySem.W.exmOne K (.ref (He.ga K "BadText")) (.ref (He.ga K "BoardError")) = some true) (ex_at c.more 7 rfl)
theorem x_Full_of {P : Program} {w : World} {K : PySem.W.Frag} {h base : Heap} {mg : Str → Option Value} (X : K.In h) (G : h.Ns mainGlobals mg) (c : SaysY fa fn tabs exB w K) : ExcK ⟨P, w, K, mg, base⟩ (He.ga K "Full") (kts [(He.ga K "NoTerm", false), (He.ga K "NoFact", false), (He.ga K "Full", true), (He.ga K "NoMark", false), (He.ga K "Clash", false), (He.ga K "BadText", false)]) :=
  excK_of (ex_at c.more 8 rfl) (ex_at c.more 9 rfl) (List.all_eq_true.mp (ex_at c.more 10 rfl))
theorem t_Full_of {P : Program} {w : World} {K : PySem.W.Frag} {h base : Heap} {mg : Str → Option Value} (X : K.In h) (G : h.Ns mainGlobals mg) (c : SaysY fa fn tabs exB w K) : Takes1 ⟨P, w, K, mg, base⟩ (He.ga K "Full") (He.ga K "BoardError") := of_decide_eq_true (p := PySem.W.exmOne K (.ref (He.ga K "Full")) (.ref (He.ga K "BoardError")) = some true) (ex_at c.more 11 rfl)
theorem k_Clash_of {P : Program} {w : World} {K : PySem.W.Frag} {h base : Heap} {mg : Str → Option Value} (X : K.In h) (G : h.Ns mainGlobals mg) (c : SaysY fa fn tabs exB w K) : ExI ⟨P, w, K, mg, base⟩ "Clash" (He.ga K "Clash") := ⟨He.glo_ok X G (c.t.d.fact 66 (f := .glo "Clash") rfl), oexB2_ok (ex_at c.more 12 rfl)⟩
theorem at_Clash___init__ {P : Program} {w : World} {K : PySem.W.Frag} {h base : Heap} {mg : Str → Option Value} (X : K.In h) (G : h.Ns mainGlobals mg) (c : SaysY fa fn tabs exB w K) : AtE ⟨P, w, K, mg, base⟩ (He.ga K "Clash") "Clash.__init__" ["self", "row"] s_Clash___init__ := by
  obtain ⟨fd, F⟩ := c.t.d.def_ 0 (d := d_Clash___init__) rfl
  exact ⟨_, fd, F, of_decide_eq_true (ex_at c.more 13 rfl), of_decide_eq_true (ex_at c.more 14 rfl), F.bindsN fun _ _ _ _ _ _ us hl => match us, hl with | [_, _], _ => rfl⟩
theorem b_BoardError_of {P : Program} {w : World} {K : PySem.W.Frag} {h base : Heap} {mg : Str → Option Value} (X : K.In h) (G : h.Ns mainGlobals mg) (c : SaysY fa fn tabs exB w K) : BiK ⟨P, w, K, mg, base⟩ "BoardError" (He.ga K "BoardError") := by
  obtain ⟨h1, h2, h3⟩ := biB_ok (ex_at c.more 15 rfl)
  exact ⟨He.glo_ok X G (c.t.d.fact 54 (f := .glo "BoardError") rfl), h1, h2, h3⟩
theorem n_Clash_row_of {P : Program} {w : World} {K : PySem.W.Frag} {h base : Heap} {mg : Str → Option Value} (X : K.In h) (G : h.Ns mainGlobals mg) (c : SaysY fa fn tabs exB w K) : PySem.W.findIn K (.ref (He.ga K "Clash")) "row" = some none := of_decide_eq_true (ex_at c.more 16 rfl)
theorem f_row_of {P : Program} {w : World} {K : PySem.W.Frag} {h base : Heap} {mg : Str → Option Value} (X : K.In h) (G : h.Ns mainGlobals mg) (c : SaysY fa fn tabs exB w K) : XfK ⟨P, w, K, mg, base⟩ (He.ga K "Clash") "row" := ⟨xfB_ok (ex_at c.more 17 rfl), n_Clash_row_of (P := P) (base := base) X G c⟩
theorem k_SIGNS_of {P : Program} {w : World} {K : PySem.W.Frag} {h base : Heap} {mg : Str → Option Value} (X : K.In h) (G : h.Ns mainGlobals mg) (c : SaysY fa fn tabs exB w K) : TabAt ⟨P, w, K, mg, base⟩ "SIGNS" (He.ga K "SIGNS") [("alike", .str "="), ("unlike", .str "!="), ("most", .str "<="), ("over", .str ">")] :=
  tab_of (kvs := [("alike", .str "="), ("unlike", .str "!="), ("most", .str "<="), ("over", .str ">")]) X G c.t 0 rfl (c.t.d.fact 117 (f := .glo "SIGNS") rfl) (ex_at c.more 18 rfl)
abbrev lawLevel : Nat := 90
theorem law_has {P : Program} {w : World} {K : PySem.W.Frag} {h base : Heap} {mg : Str → Option Value} (X : K.In h) (G : h.Ns mainGlobals mg) (cz : SaysZ fa fn tabs tf exB w h K) (TB : ∀ p ∈ tf, LamX.TabB base mg (He.cT K p).1 (He.cT K p).2) : Has ⟨P, w, K, mg, base⟩ 90 "law" ["_law_script"] (spLawT K (tabsOf K lams)) := by
  have cx := cz.y
  have c := cx.t.d
  have B : Bl ⟨P, w, K, mg, base⟩ := bl_of (P := P) (w := w) (base := base) X G c
  have h1 := ok_cell B (at__law_cell X G c)
  have h2 := ok_dice B (at__law_dice X G c) h1
  have h3 := ok_off B (at__law_off X G c) h1
  have h4 := ok_works B (at__law_works X G c) h3
  have h5 := ok_term B (at__law_term X G c) h3 3
  have hfact := ok_fact B (at__law_fact X G c) 3 h3 h5
  have hfacts := ok_facts B (at__law_facts X G c) h3 hfact
  have cC := c_Closing_of (P := P) (w := w) (base := base) X G c
  have hjoin := ok_join B (at_Closing_join X G c) cC
  have hjoin0 := ok_join0 B (at_Closing_join X G c) cC
  have hkey := ok_key B (at_Closing_key X G c) cC
  have hstands := ok_stands B (at_Closing_stands X G c) cC
  have hlike := ok_like B (at_Closing_join_like_parts X G c) cC hjoin hkey
  have hsteps := ok_steps B (at_Closing_steps X G c) cC
  have hbeyond := ok_beyond B (at_beyond X G c)
  have hrings := ok_rings B (at_Closing_join_rings X G c) cC hjoin hsteps hbeyond
  have hinit := ok_clinit B (at_Closing___init__ X G c) cC (ok_parts (at_parts_of X G c) 8) hjoin0 hlike hrings
  have hstand := ok_stand B (at_stand X G c) cC hinit hstands
  have hput := ok_put B (at__law_put_parts X G c) 8
  have hlp := ok_likep B (at__law_like_parts X G c)
  have hthr := ok_through B (at__law_through X G c)
  have hmore := ok_more B (at__law_more X G c) hlp
  have htab := ok_table B (at__law_table X G c) hput hmore hthr
  have hls := ok_lstand B (at__law_stand X G c) htab
  have hgood := ok_good B (at__law_good X G c) hfacts hls
  have hcut := ok_cut B (at_cut_down X G c) hstand
  have hwn := ok_whynot B (at_why_not X G c) hstand hcut
  have kt := k_NoTerm_of (P := P) (w := w) (base := base) X G c
  have kf := k_NoFact_of (P := P) (w := w) (base := base) X G c
  have ku := k_Full_of (P := P) (w := w) (base := base) X G c
  have kc := k_Clash_of (P := P) (w := w) (base := base) X G cx
  have kb := k_BadText_of (P := P) (w := w) (base := base) X G c
  have hn := ok_is_name B (at_is_name X G c) (k_LETTERS_of (P := P) (w := w) (base := base) X G c) (k_MOST_LETTERS_of (P := P) (w := w) (base := base) X G c)
  have hm := ok_names_in B (at_names_in X G c) 8
  have hi := ok_is_term B (at_is_term X G c) hn (k_MOST_PARTS_of (P := P) (w := w) (base := base) X G c) 8
  have hneed := ok_need B (at_need_term X G c) 8 hi hm (k_MOST_NAMES_of (P := P) (w := w) (base := base) X G c) kt
  have hnf := ok_needf B (at_need_fact X G c) 8 hneed (k_SIGNS_of (P := P) (w := w) (base := base) X G cx) kf
  have cB := c_Board_of (P := P) (w := w) (base := base) X G c
  have hci := ok_clashi B (at_Clash___init__ X G cx) kc (n_Clash_row_of (P := P) (base := base) X G cx) (b_BoardError_of X G cx)
  have hbi := ok_binit B (at_Board___init__ X G c) cB
  have hbf := ok_bfacts B (at_Board_facts X G c) cB
  have htell := ok_tell B (at_Board_tell X G c) cB 8 (by decide) (k_MOST_FACTS_of (P := P) (w := w) (base := base) X G c) ku kc hci hnf hwn
  have c_Reader := c_Reader_of (P := P) (w := w) (base := base) X G c
  have k1 := k_LETTERS_of (P := P) (w := w) (base := base) X G c
  have k2 := k_MOST_LETTERS_of (P := P) (w := w) (base := base) X G c
  have k3 := k_MOST_PARTS_of (P := P) (w := w) (base := base) X G c
  have k4 := k_MOST_NAMES_of (P := P) (w := w) (base := base) X G c
  have ks := k_SIGNS_of (P := P) (w := w) (base := base) X G cx
  have h_sign := ok_sign B (at_Reader_sign X G c) c_Reader
  have hrt := ok_rterm B (at_Reader_term X G c) (at_Reader_parts X G c) c_Reader hn k1 k3 kb h_sign 41
  have hrd := ok_read B (at_read X G c) c_Reader (ok_rinit B (at_Reader___init__ X G c) c_Reader) k4 k2 kb h_sign 41 hrt (ok_names_in B (at_names_in X G c) 41)
  have hsf := ok_shownf B (at_shown_fact X G c) 41 (ok_shown B (at_shown X G c) 41) ks
  have hrf := ok_readf B (at_read_fact X G c) 41 hrd ks kb
  have hrow := ok_lrow B (at__law_row X G c) (ok__law_text B (at__law_text X G c) 41)
  have hwr := ok_written B (at_written X G c) cB hbf hsf
  have hop := ok_opened B (at_opened X G c) cB hbi htell hrf
  have hwd := ok_word21 B (at__law_word X G c) (g_BoardError_of (P := P) (w := w) (base := base) X G c) (g_NoTerm_of (P := P) (w := w) (base := base) X G c) (g_NoFact_of (P := P) (w := w) (base := base) X G c) (g_Full_of (P := P) (w := w) (base := base) X G c) (g_NoMark_of (P := P) (w := w) (base := base) X G c) (g_Clash_of (P := P) (w := w) (base := base) X G c) (g_BadText_of (P := P) (w := w) (base := base) X G c) (t_BadText_of (P := P) (w := w) (base := base) X G cx) (t_Clash_of (P := P) (w := w) (base := base) X G cx) (t_Full_of (P := P) (w := w) (base := base) X G cx) (x_BadText_of (P := P) (w := w) (base := base) X G cx) (x_Clash_of (P := P) (w := w) (base := base) X G cx) (x_Full_of (P := P) (w := w) (base := base) X G cx) hop
  exact ok_law B (at_law X G c) (tabsOf K lams) cB h2 h3 h4 hfacts hgood hls hbi htell hbf hrow hwr hop hwd

theorem law_end {P : Program} {w : World} {K : PySem.W.Frag} {h : Heap} {mg : Str → Option Value} {f : Addr} (X : K.In h) (G : h.Ns mainGlobals mg) (hfa : mg ("law" : Str) = some (.ref f)) (c : SaysZ fa fn tabs tf exB w h K) :
    ∃ (K : PySem.W.Frag) (fd : FuncData) (cs : List (Addr × Addr)) (sp : Sp), K.In h ∧ (∀ p ∈ cs, h.get? p.2 = some { cls := .none, data := .fields #[] }) ∧ (∀ p ∈ cs, K.lookup p.2 = none) ∧ (∀ p ∈ cs, PySem.W.CodeHd h p.1 p.2) ∧ (∀ (s : Shared) (u : Value), BindsTo s fd ⟨[u], []⟩ [("_law_script", u)]) ∧
      (∀ (H : Hp) (a : Addr) (ns : List Int), ns.length ≤ 63 → (∀ p ∈ cs, H p.2 = some (.tbl #[])) → SqL K H a (ns.map V.int) → sp [.ref a] H (fun v _ => v = .bl true) fun _ _ _ => False) ∧
      ∀ base : Heap, K.In base → base.Ns mainGlobals mg → (∀ p ∈ cs, LamX.TabB base mg p.1 p.2) → FnOk P w K mg base L2.CX0 lawLevel f fd ["_law_script"] sp := by
  obtain ⟨fd, F⟩ := c.y.t.d.defs (d := d_law) (by simp [fn])
  have b := FunD.bindsA (ps := ["_law_script"]) F fun _ _ _ _ _ _ us hl => match us, hl with | [_], _ => rfl
  obtain ⟨oc, od, osl, lk⟩ := FunD.lk F
  have cs_mem : ∀ q ∈ tf.map (He.cT K), ∃ p ∈ tf, q = He.cT K p := fun q hq => let ⟨p, h1, h2⟩ := List.mem_map.mp hq; ⟨p, h1, h2.symm⟩
  refine ⟨K, fd, tf.map (He.cT K), orFrz (spLawT K (tabsOf K lams)), X, fun q hq => ?_, fun q hq => ?_, fun q hq => ?_, fun s v => b s [v] rfl, fun H a ns hl hO hS => ?_, fun base _ _ hTB => ?_⟩
  · obtain ⟨p, hp, rfl⟩ := cs_mem q hq
    exact c.empty p hp
  · obtain ⟨p, hp, rfl⟩ := cs_mem q hq
    exact c.out p hp
  · obtain ⟨p, hp, rfl⟩ := cs_mem q hq
    exact PySem.W.codeHd_of_K X (c.hd p hp)
  · have tb : ∀ {H' : Hp}, (∀ x ps, H x = some (.tbl ps) → H' x = some (.tbl ps)) → LamX.Tabs (tabsOf K lams) H' := fun k => tabs_nil fun p hp => k _ _ (hO (He.cT K p.1) (List.mem_map_of_mem (List.mem_map_of_mem hp)))
    rcases hS with (hS | ⟨o, hS⟩) | hS
    · exact .inr ⟨a, ns.map V.int, rfl, hS, fun o => ⟨a, ns, rfl, .inl ⟨o, upd_same⟩, hl, tb fun x ps h => by rw [upd_ne (ne_of h hS (fun z => by cases z))]; exact h, fun _ => rfl⟩⟩
    · exact .inl ⟨a, ns, rfl, .inl ⟨o, hS⟩, hl, tb fun x ps h => h, fun _ => rfl⟩
    · exact .inl ⟨a, ns, rfl, .inr fun H' => .inr hS, hl, tb fun x ps h => h, fun _ => rfl⟩
  · obtain ⟨f', fd', hF, m, _, _, oc', od', osl', lk'⟩ := law_has (P := P) (w := w) (base := base) X G c fun p hp => hTB _ (List.mem_map_of_mem hp)
    have e1 : f' = f := by
      have := m.symm.trans hfa
      injection this with this
      injection this
    subst e1
    have e2 : He.fAd K d_law.at_ = f' := by
      have := He.glo_ok X G (c.y.t.d.facts (show He.Fa.glo "law" ∈ fa by simp [fa]))
      have := this.symm.trans hfa
      injection this with this
      injection this
    rw [e2] at lk
    rw [lk] at lk'
    have e3 : fd = fd' := by
      injection lk' with lk'
      injection lk' with _ _ lk' _
      injection lk'
    rw [e3]
    exact fnOk_frz (FnOk.cx0 hF fun vs H Q E h => h)
/-! ### the head -/
abbrev RR : PySem.W.OpenRow := PySem.W.OpenLaw.row PySem.Challenge.rw_alikeboard_k21_book
abbrev hk : PySem.W.Hook := AB.hookZ 6 fa fn tabs tf exB
def ob (s : PySem.W.SharedT) : AB.AlY := AB.obsZ 6 fa fn tabs tf exB (HandSHeadRun.getT s)
theorem ob_eq (s : PySem.W.SharedT) : ob s = hk.obs s.abs := AB.obsZ_eq (HandSHeadRun.getT_eq s)
def loose0 : List PySem.Str := ["_wall", "BoardError", "NoTerm", "NoFact", "BadText", "Full", "NoMark", "Clash", "LETTERS", "MOST_LETTERS", "MOST_PARTS", "MOST_NAMES", "is_name", "names_in", "is_term", "need_term", "parts_of", "shown", "Reader", "read", "Closing", "beyond", "stand", "SIGNS", "need_fact", "shown_fact", "read_fact", "cut_down", "why_not", "World"]
def loose1 : List PySem.Str := ["world_of", "MOST_FACTS", "MOST_MARKS", "Board", "written", "opened", "_law_cell", "_law_dice", "_law_off", "_law_works", "_law_term", "_law_fact", "_law_facts", "_law_put_parts", "_law_like_parts", "_law_through", "_law_more", "_law_table", "_law_stand", "_law_good", "_law_text", "_law_row", "_law_word"]
abbrev loose : List PySem.Str := loose0 ++ loose1
set_option maxHeartbeats 0 in
theorem run0 (w : World) : HandSHeadRun.RunEq RR (PySem.W.view RR.prog [62]) hk ob 8000 loose (w.withFollow "special-get-raises" false) := by
  intro os
  kernel_rfl
set_option maxHeartbeats 0 in
theorem run1 (w : World) : HandSHeadRun.RunEq RR (PySem.W.view RR.prog [62]) hk ob 8000 loose (w.withFollow "special-get-raises" true) := by
  intro os
  kernel_rfl
theorem run (w : World) : HandSHeadRun.RunEq RR (PySem.W.view RR.prog [62]) hk ob 8000 loose w := PySem.W.byRow2 "special-get-raises" (P := fun w => HandSHeadRun.RunEq RR (PySem.W.view RR.prog [62]) hk ob 8000 loose w) run0 run1 w
end AB
open PySem PySem.W PySem.Calls PyProof.Rows
set_option maxHeartbeats 0 in
theorem PySem.Challenge.cw_alikeboard_k21_book_holds : PySem.Challenge.rw_alikeboard_k21_book.Holds := by
  w_on; o_law
  refine HandSHeadRun.head_any (r := OpenLaw.row PySem.Challenge.rw_alikeboard_k21_book) (q := view (OpenLaw.row PySem.Challenge.rw_alikeboard_k21_book).prog [62]) (H := AB.hk) (ob := AB.ob) (M := 8000) (loose := AB.loose) (d := HandSHeadRun.topDef (OpenLaw.row PySem.Challenge.rw_alikeboard_k21_book).prog 62) (kwd := []) AB.ob_eq
    (by kernel_rfl) (fun s => by kernel_rfl) AB.run (by kernel_rfl) (by kernel_rfl) (by kernel_rfl) (by rfl) (by first | assumption | decide +kernel) (by decide +kernel) ⟨rfl, rfl, rfl, rfl, rfl, by decide +kernel⟩ ?hw ?hc
  case hw => w_witness2
  case hc =>
    refine AB.walk_ofZ (l := PySem.Challenge.rw_alikeboard_k21_book) (n := 63) (k := AB.lawLevel) (x := "_law_script") rfl (by decide) (by kernel_rfl) ⟨rfl, by decide, by decide⟩ ?F
    intro w mg fa h Y G hmg0
    obtain ⟨K, KX, c⟩ := Y
    have hmg : mg ("law" : PySem.Str) = some (.ref fa) := by
      have e : (HandSHeadRun.topDef (OpenLaw.row PySem.Challenge.rw_alikeboard_k21_book).prog 62).name = ("law" : PySem.Str) := by kernel_rfl
      rw [← e]
      exact hmg0
    exact AB.law_end KX G hmg c

#print axioms PySem.Challenge.cw_alikeboard_k21_book_holds

