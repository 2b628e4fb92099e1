import PyProof.Rows.All
import Wide.All
import OpenK.AllK
import Wide.FinOn
import HandS.Base
import HandS.Call
import HandS.List
import HandS.Comp
import HandS.Words
import HandS.WordsList
import HandS.Deep
import HandS.IsInst
import HandS.TupAny
import HandS.Text
import HandS.Defaults
import HandS.Iter
import HandS.Flow
import HandS.Exc
import HandS.ExcOwn
import HandS.WordsExc
import HandS.TryOnly
import HandS.ExcIs
import HandS.Walk
import PyProof.StrBlock2
import PyProof.NeKinds
import HandS.More
import HandS.Dict
import HandS.HeadHook1
import HandS.HeadHook2
import HandS.HeadHook3
import HandS.HeadHook4
import KE.KDictWalk
import KE.KDictKeyed
import KE.KeyNested
import Wide.Once
import HandS.TryMany
import HandS.Head0
import HandS.Head1
import HandS.Head2
import HandS.HeadEnd
import PySem.Challenge.RW_alikeboard_k06_facts_read_or_refused
set_option Elab.async false
set_option linter.all false
set_option maxRecDepth 100000
namespace AB
open PySem PySem.Spec PyProof.Rows L2

/-! ### immutable data: ints, texts, tuples of such -/
inductive Da where
  | int (i : Int)
  | str (s : Str)
  | tup (l : List Da)

mutual
def Da.py : Da → PyData
  | .int i => .int i
  | .str s => .str s
  | .tup l => .tuple (Da.pys l)
def Da.pys : List Da → List PyData
  | [] => []
  | d :: r => Da.py d :: Da.pys r
end
mutual
def Da.depth : Da → Nat
  | .int _ => 0
  | .str _ => 0
  | .tup l => Da.depths l + 1
def Da.depths : List Da → Nat
  | [] => 0
  | d :: r => max (Da.depth d) (Da.depths r)
end
/-- the texts in it are texts of the model -/
def okS (s : Str) : Bool := s.cps.all (· < 0x110000)
mutual
def Da.ok : Da → Bool
  | .int _ => true
  | .str s => okS s
  | .tup l => Da.oks l
def Da.oks : List Da → Bool
  | [] => true
  | d :: r => Da.ok d && Da.oks r
end
mutual
theorem Da.eqv_iff : ∀ a b : Da, PyData.eqv a.py b.py = true ↔ a = b
  | .int a, .int b => by simp [Da.py, PyData.eqv]
  | .str a, .str b => by simp [Da.py, PyData.eqv]
  | .tup a, .tup b => by
    have h := Da.eqvs_iff a b
    simp only [Da.py, PyData.eqv, h, Da.tup.injEq]
  | .int _, .str _ => by simp [Da.py, PyData.eqv]
  | .int _, .tup _ => by simp [Da.py, PyData.eqv]
  | .str _, .int _ => by simp [Da.py, PyData.eqv]
  | .str _, .tup _ => by simp [Da.py, PyData.eqv]
  | .tup _, .int _ => by simp [Da.py, PyData.eqv]
  | .tup _, .str _ => by simp [Da.py, PyData.eqv]
theorem Da.eqvs_iff : ∀ a b : List Da, PyData.eqvAll (Da.pys a) (Da.pys b) = true ↔ a = b
  | [], [] => by simp [Da.pys, PyData.eqvAll]
  | [], _ :: _ => by simp [Da.pys, PyData.eqvAll]
  | _ :: _, [] => by simp [Da.pys, PyData.eqvAll]
  | a :: as, b :: bs => by
    have h1 := Da.eqv_iff a b
    have h2 := Da.eqvs_iff as bs
    simp only [Da.pys, PyData.eqvAll, Bool.and_eq_true, h1, h2, List.cons.injEq]
end
instance : DecidableEq Da := fun a b => if h : PyData.eqv a.py b.py = true then .isTrue ((Da.eqv_iff a b).mp h) else .isFalse fun e => h ((Da.eqv_iff a b).mpr e)
theorem Da.eqv_dec (a b : Da) : PyData.eqv a.py b.py = decide (a = b) := by
  by_cases h : a = b
  · rw [decide_eq_true h]; exact (Da.eqv_iff a b).mpr h
  · rw [decide_eq_false h]
    cases e : PyData.eqv a.py b.py with
    | false => rfl
    | true => exact absurd ((Da.eqv_iff a b).mp e) h
mutual
theorem Da.py_depth : ∀ a : Da, a.py.depth = a.depth
  | .int _ => by simp [Da.py, PyData.depth, Da.depth]
  | .str _ => by simp [Da.py, PyData.depth, Da.depth]
  | .tup l => by
    have h := Da.pys_depth l
    simp [Da.py, PyData.depth, Da.depth, h]
theorem Da.pys_depth : ∀ l : List Da, PyData.depthAll (Da.pys l) = Da.depths l
  | [] => by simp [Da.pys, PyData.depthAll, Da.depths]
  | d :: r => by simp [Da.pys, PyData.depthAll, Da.depths, Da.py_depth d, Da.pys_depth r]
end
mutual
theorem Da.py_lay : ∀ a : Da, a.py.canLay0 = a.ok
  | .int _ => by simp [Da.py, PyData.canLay0, Da.ok]
  | .str _ => by simp [Da.py, PyData.canLay0, Da.ok, okS, PyData.strOk]
  | .tup l => by
    have h := Da.pys_lay l
    simp [Da.py, PyData.canLay0, Da.ok, h]
theorem Da.pys_lay : ∀ l : List Da, PyData.canLayAll0 (Da.pys l) = Da.oks l
  | [] => by simp [Da.pys, PyData.canLayAll0, Da.oks]
  | d :: r => by simp [Da.pys, PyData.canLayAll0, Da.oks, Da.py_lay d, Da.pys_lay r]
end
theorem Da.shaped {a : Da} (h : a.ok = true) (h2 : a.depth ≤ 64) : SeqAt.shaped a.py = true := by
  unfold SeqAt.shaped
  rw [Da.py_lay, Da.py_depth, h, decide_eq_true h2]; rfl
theorem Da.oks_mem : ∀ {l : List Da} {d : Da}, Da.oks l = true → d ∈ l → d.ok = true
  | [], _, _, h => by cases h
  | x :: r, d, h, hm => by
    simp only [Da.oks, Bool.and_eq_true] at h
    rcases List.mem_cons.mp hm with rfl | hm
    · exact h.1
    · exact Da.oks_mem h.2 hm
theorem Da.oks_of : ∀ {l : List Da}, (∀ d ∈ l, d.ok = true) → Da.oks l = true
  | [], _ => rfl
  | x :: r, h => by
    simp only [Da.oks, Bool.and_eq_true]
    exact ⟨h x (by simp), Da.oks_of fun d hd => h d (by simp [hd])⟩
theorem Da.depths_le : ∀ {l : List Da} {n : Nat}, Da.depths l ≤ n ↔ ∀ d ∈ l, d.depth ≤ n
  | [], n => by simp [Da.depths]
  | x :: r, n => by
    have h := Da.depths_le (l := r) (n := n)
    simp only [Da.depths, List.mem_cons, forall_eq_or_imp, ← h]
    omega

/-! ### where such data stands -/
mutual
def DaAt (H : Hp) : V → Da → Prop
  | v, .int i => v = .int i
  | v, .str s => v = .str s
  | v, .tup l => ∃ a vs, v = .ref a ∧ H a = some (.tup vs) ∧ DasAt H vs l
def DasAt (H : Hp) : List V → List Da → Prop
  | vs, [] => vs = []
  | vs, d :: ds => ∃ v r, vs = v :: r ∧ DaAt H v d ∧ DasAt H r ds
end
/-- what never changes: tuples, what is locked -/
def Im : HO → Prop
  | .tup _ => True
  | .frz _ _ => True
  | _ => False
/-- the unchanging stands -/
def TX (H H' : Hp) : Prop := ∀ a o, Im o → H a = some o → H' a = some o
theorem TX.tup {H H' : Hp} (t : TX H H') {a : Addr} {xs : List V} (h : H a = some (.tup xs)) : H' a = some (.tup xs) := t a _ trivial h
theorem TX.frz {H H' : Hp} (t : TX H H') {a : Addr} {o : Obj} {u : HO} (h : H a = some (.frz o u)) : H' a = some (.frz o u) := t a _ trivial h
theorem TX.refl (H : Hp) : TX H H := fun _ _ _ h => h
theorem TX.trans {H H1 H2 : Hp} (a : TX H H1) (b : TX H1 H2) : TX H H2 := fun p o i h => b p o i (a p o i h)
theorem TX.of_same {H H' : Hp} (s : Same H H') : TX H H' := fun a _ _ h => s a _ h
theorem TX.new {H : Hp} {p : Addr} {o : HO} (h : H p = none) : TX H (upd H p o) := fun a u _ e => by
  rw [upd_ne (ne_of_none e h)]; exact e
theorem TX.put {H : Hp} {p : Addr} {o u : HO} (h : H p = some u) (hu : ¬ Im u) : TX H (upd H p o) := fun a w i e => by
  rw [upd_ne (ne_of e h (fun z => hu (z ▸ i)))]; exact e
theorem TX.lst {H : Hp} {p : Addr} {o : HO} {xs : List V} (h : H p = some (.lst xs)) : TX H (upd H p o) := TX.put h (fun z => z)
theorem same_new {H : Hp} {p : Addr} (h : H p = none) (o : HO) : Same H (upd H p o) := fun b u q => by rw [upd_ne (ne_of_none q h)]; exact q
/-- what was not tracked ahead may be written -/
theorem same_put {H H' : Hp} {p : Addr} (s : Same H H') (h : H p = none) (o : HO) : Same H (upd H' p o) := fun b u q => by rw [upd_ne (ne_of_none q h)]; exact s b u q
theorem same_nw {H H' : Hp} {p : Addr} (s : Same H H') (h : H' p = none) (o : HO) : Same H (upd H' p o) := s.trans (same_new h o)
mutual
theorem DaAt.mono {H H' : Hp} (t : TX H H') : ∀ {d : Da} {v : V}, DaAt H v d → DaAt H' v d
  | .int _, _, h => by simp only [DaAt] at h ⊢; exact h
  | .str _, _, h => by simp only [DaAt] at h ⊢; exact h
  | .tup l, v, h => by
    simp only [DaAt] at h ⊢
    obtain ⟨a, vs, e, h1, h2⟩ := h
    exact ⟨a, vs, e, t.tup h1, DasAt.mono t h2⟩
theorem DasAt.mono {H H' : Hp} (t : TX H H') : ∀ {ds : List Da} {vs : List V}, DasAt H vs ds → DasAt H' vs ds
  | [], _, h => by simp only [DasAt] at h ⊢; exact h
  | d :: ds, vs, h => by
    simp only [DasAt] at h ⊢
    obtain ⟨v, r, e, h1, h2⟩ := h
    exact ⟨v, r, e, DaAt.mono t h1, DasAt.mono t h2⟩
end
theorem DaAt.int {H : Hp} {i : Int} : DaAt H (.int i) (.int i) := by simp only [DaAt]
theorem DaAt.str {H : Hp} {s : Str} : DaAt H (.str s) (.str s) := by simp only [DaAt]
theorem DaAt.tup {H : Hp} {a : Addr} {vs : List V} {l : List Da} (h : H a = some (.tup vs)) (r : DasAt H vs l) : DaAt H (.ref a) (.tup l) := by
  simp only [DaAt]; exact ⟨a, vs, rfl, h, r⟩
theorem DaAt.tup_inv {H : Hp} {v : V} {l : List Da} (h : DaAt H v (.tup l)) : ∃ a vs, v = .ref a ∧ H a = some (.tup vs) ∧ DasAt H vs l := by simpa only [DaAt] using h
theorem DaAt.int_inv {H : Hp} {v : V} {i : Int} (h : DaAt H v (.int i)) : v = .int i := by simpa only [DaAt] using h
theorem DaAt.str_inv {H : Hp} {v : V} {s : Str} (h : DaAt H v (.str s)) : v = .str s := by simpa only [DaAt] using h
theorem DasAt.nil {H : Hp} : DasAt H [] [] := by simp only [DasAt]
theorem DasAt.cons {H : Hp} {v : V} {vs : List V} {d : Da} {ds : List Da} (h : DaAt H v d) (r : DasAt H vs ds) : DasAt H (v :: vs) (d :: ds) := by
  simp only [DasAt]; exact ⟨v, vs, rfl, h, r⟩
theorem DasAt.one {H : Hp} {v : V} {d : Da} (h : DaAt H v d) : DasAt H [v] [d] := .cons h .nil
theorem DasAt.nil_inv {H : Hp} {vs : List V} (h : DasAt H vs []) : vs = [] := by simpa only [DasAt] using h
theorem DasAt.cons_inv {H : Hp} {vs : List V} {d : Da} {ds : List Da} (h : DasAt H vs (d :: ds)) : ∃ v r, vs = v :: r ∧ DaAt H v d ∧ DasAt H r ds := by simpa only [DasAt] using h
theorem DasAt.length {H : Hp} : ∀ {ds : List Da} {vs : List V}, DasAt H vs ds → vs.length = ds.length
  | [], _, h => by rw [h.nil_inv]; rfl
  | d :: ds, _, h => by
    obtain ⟨v, r, rfl, _, h2⟩ := h.cons_inv
    simp [DasAt.length h2]
theorem DasAt.append {H : Hp} : ∀ {ds es : List Da} {vs ws : List V}, DasAt H vs ds → DasAt H ws es → DasAt H (vs ++ ws) (ds ++ es)
  | [], _, _, _, h, h2 => by rw [h.nil_inv]; exact h2
  | d :: ds, es, _, ws, h, h2 => by
    obtain ⟨v, r, rfl, h1, h3⟩ := h.cons_inv
    exact .cons h1 (DasAt.append h3 h2)
theorem DasAt.get {H : Hp} : ∀ {ds : List Da} {vs : List V} {i : Nat} {d : Da}, DasAt H vs ds → ds[i]? = some d → ∃ v, vs[i]? = some v ∧ DaAt H v d
  | [], _, _, _, _, e => by simp at e
  | d :: ds, _, 0, _, h, e => by
    obtain ⟨v, r, rfl, h1, h2⟩ := h.cons_inv
    simp at e; subst e
    exact ⟨v, rfl, h1⟩
  | d :: ds, _, i + 1, x, h, e => by
    obtain ⟨v, r, rfl, h1, h2⟩ := h.cons_inv
    obtain ⟨u, h3, h4⟩ := DasAt.get (i := i) h2 (by simpa using e)
    exact ⟨u, by simpa using h3, h4⟩
theorem DasAt.at {H : Hp} {ds : List Da} {vs : List V} {i : Nat} {v : V} (h : DasAt H vs ds) (e : vs[i]? = some v) : ∃ d, ds[i]? = some d ∧ DaAt H v d := by
  have hl := h.length
  obtain ⟨hi, _⟩ := List.getElem?_eq_some_iff.mp e
  obtain ⟨u, h1, h2⟩ := h.get (i := i) (d := ds[i]'(by omega)) (List.getElem?_eq_getElem _)
  rw [e] at h1; cases h1
  exact ⟨_, List.getElem?_eq_getElem _, h2⟩
theorem DasAt.take {H : Hp} : ∀ {ds : List Da} {vs : List V} (n : Nat), DasAt H vs ds → DasAt H (vs.take n) (ds.take n)
  | _, _, 0, _ => by simpa using DasAt.nil
  | [], _, n + 1, h => by rw [h.nil_inv]; simpa using DasAt.nil
  | d :: ds, _, n + 1, h => by
    obtain ⟨v, r, rfl, h1, h2⟩ := h.cons_inv
    simpa using DasAt.cons h1 (DasAt.take n h2)
theorem DasAt.drop {H : Hp} : ∀ {ds : List Da} {vs : List V} (n : Nat), DasAt H vs ds → DasAt H (vs.drop n) (ds.drop n)
  | _, _, 0, h => by simpa using h
  | [], _, n + 1, h => by rw [h.nil_inv]; simpa using DasAt.nil
  | d :: ds, _, n + 1, h => by
    obtain ⟨v, r, rfl, h1, h2⟩ := h.cons_inv
    simpa using DasAt.drop n h2
mutual
theorem DaAt.dp {K : PySem.W.Frag} {H : Hp} : ∀ {d : Da} {v : V}, DaAt H v d → Dp K H v d.py
  | .int i, v, h => by rw [h.int_inv]; simp only [Da.py]; exact .int i
  | .str s, v, h => by rw [h.str_inv]; simp only [Da.py]; exact .str s
  | .tup l, v, h => by
    obtain ⟨a, vs, rfl, h1, h2⟩ := h.tup_inv
    simp only [Da.py]
    exact .tup (SqT.of h1) (DasAt.dps h2)
theorem DasAt.dps {K : PySem.W.Frag} {H : Hp} : ∀ {ds : List Da} {vs : List V}, DasAt H vs ds → DpAll K H vs (Da.pys ds)
  | [], _, h => by rw [h.nil_inv]; simp only [Da.pys]; exact .nil
  | d :: ds, _, h => by
    obtain ⟨v, r, rfl, h1, h2⟩ := h.cons_inv
    simp only [Da.pys]
    exact .cons (DaAt.dp h1) (DasAt.dps h2)
end
/-- a list of such data -/
def LD (H : Hp) (a : Addr) (ds : List Da) : Prop := ∃ vs, H a = some (.lst vs) ∧ DasAt H vs ds
theorem LD.sq {K : PySem.W.Frag} {H : Hp} {a : Addr} {ds : List Da} (h : LD H a ds) : ∃ vs, SqL K H a vs ∧ DasAt H vs ds := let ⟨vs, h1, h2⟩ := h; ⟨vs, SqL.of h1, h2⟩
theorem LD.mono {H H' : Hp} {a : Addr} {ds : List Da} (s : Same H H') (h : LD H a ds) : LD H' a ds := let ⟨vs, h1, h2⟩ := h; ⟨vs, s _ _ h1, h2.mono (TX.of_same s)⟩
theorem LD.dp {K : PySem.W.Frag} {H : Hp} {a : Addr} {ds : List Da} (h : LD H a ds) : Dp K H (.ref a) (.list (Da.pys ds)) := let ⟨_, h1, h2⟩ := h; .lst (SqL.of h1) h2.dps
theorem pys_shaped {ds : List Da} (h : Da.oks ds = true) (h2 : Da.depths ds ≤ 63) : SeqAt.shaped (.list (Da.pys ds)) = true := by
  unfold SeqAt.shaped
  simp only [PyData.canLay0, PyData.depth, Da.pys_lay, Da.pys_depth, h, Bool.true_and, decide_eq_true_eq]
  omega
theorem any_pys (d : Da) : ∀ ds : List Da, ((Da.pys ds).any fun z => PyData.eqv z d.py) = decide (d ∈ ds)
  | [] => by simp [Da.pys]
  | x :: r => by
    simp only [Da.pys, List.any_cons, any_pys d r, Da.eqv_dec]
    by_cases h : x = d
    · subst h; simp
    · have h' : ¬ d = x := fun e => h e.symm
      simp [h, h']
theorem pys_eqv (a b : List Da) : PyData.eqvAll (Da.pys a) (Da.pys b) = decide (a = b) := by
  by_cases h : a = b
  · rw [decide_eq_true h]; exact (Da.eqvs_iff a b).mpr h
  · rw [decide_eq_false h]
    cases e : PyData.eqvAll (Da.pys a) (Da.pys b) with
    | false => rfl
    | true => exact absurd ((Da.eqvs_iff a b).mp e) h

/-! ### terms -/
inductive Tm where
  | mk (n : Str) (ps : List Tm)
mutual
def Tm.da : Tm → Da
  | .mk n ps => .tup (.str n :: Tm.das ps)
def Tm.das : List Tm → List Da
  | [] => []
  | t :: r => t.da :: Tm.das r
end
theorem Tm.das_map : ∀ l : List Tm, Tm.das l = l.map Tm.da
  | [] => rfl
  | t :: r => by rw [Tm.das, Tm.das_map r]; rfl
mutual
theorem Tm.da_inj : ∀ a b : Tm, a.da = b.da → a = b
  | .mk n ps, .mk m qs, h => by
    simp only [Tm.da, Da.tup.injEq, List.cons.injEq, Da.str.injEq] at h
    rw [h.1, Tm.das_inj ps qs h.2]
theorem Tm.das_inj : ∀ a b : List Tm, Tm.das a = Tm.das b → a = b
  | [], [], _ => rfl
  | [], _ :: _, h => by simp [Tm.das] at h
  | _ :: _, [], h => by simp [Tm.das] at h
  | a :: as, b :: bs, h => by
    simp only [Tm.das, List.cons.injEq] at h
    rw [Tm.da_inj a b h.1, Tm.das_inj as bs h.2]
end
theorem Tm.da_iff {a b : Tm} : a.da = b.da ↔ a = b := ⟨Tm.da_inj a b, fun e => by rw [e]⟩
instance : DecidableEq Tm := fun a b => if h : a.da = b.da then .isTrue (Tm.da_inj a b h) else .isFalse fun e => h (by rw [e])
def Tm.parts : Tm → List Tm | .mk _ ps => ps
def Tm.name : Tm → Str | .mk n _ => n
mutual
def Tm.depth : Tm → Nat
  | .mk _ ps => Tm.depths ps + 1
def Tm.depths : List Tm → Nat
  | [] => 0
  | t :: r => max t.depth (Tm.depths r)
end
mutual
theorem Tm.da_depth : ∀ t : Tm, t.da.depth = t.depth
  | .mk n ps => by
    have h := Tm.das_depth ps
    simp only [Tm.da, Da.depth, Da.depths, Tm.depth, h]
    omega
theorem Tm.das_depth : ∀ l : List Tm, Da.depths (Tm.das l) = Tm.depths l
  | [] => rfl
  | t :: r => by simp only [Tm.das, Da.depths, Tm.depths, Tm.da_depth t, Tm.das_depth r]
end
theorem Tm.depths_le : ∀ {l : List Tm} {n : Nat}, Tm.depths l ≤ n ↔ ∀ d ∈ l, d.depth ≤ n
  | [], n => by simp [Tm.depths]
  | x :: r, n => by
    have h := Tm.depths_le (l := r) (n := n)
    simp only [Tm.depths, List.mem_cons, forall_eq_or_imp, ← h]
    omega
theorem Tm.parts_depth {t p : Tm} (h : p ∈ t.parts) : p.depth < t.depth := by
  cases t with
  | mk n ps =>
    have h2 := (Tm.depths_le (l := ps) (n := Tm.depths ps)).mp (Nat.le_refl _) p h
    simp only [Tm.depth]
    omega
mutual
def Tm.ok : Tm → Bool
  | .mk n ps => okS n && Tm.oks ps
def Tm.oks : List Tm → Bool
  | [] => true
  | t :: r => t.ok && Tm.oks r
end
mutual
theorem Tm.da_ok : ∀ t : Tm, t.da.ok = t.ok
  | .mk n ps => by
    have h := Tm.das_ok ps
    simp only [Tm.da, Da.ok, Da.oks, Tm.ok, h]
theorem Tm.das_ok : ∀ l : List Tm, Da.oks (Tm.das l) = Tm.oks l
  | [] => rfl
  | t :: r => by simp only [Tm.das, Da.oks, Tm.oks, Tm.da_ok t, Tm.das_ok r]
end
theorem Tm.oks_iff : ∀ {l : List Tm}, Tm.oks l = true ↔ ∀ t ∈ l, t.ok = true
  | [] => by simp [Tm.oks]
  | x :: r => by simp [Tm.oks, Tm.oks_iff (l := r)]
theorem Tm.parts_ok {t p : Tm} (h : t.ok = true) (hp : p ∈ t.parts) : p.ok = true := by
  cases t with
  | mk n ps =>
    simp only [Tm.ok, Bool.and_eq_true] at h
    exact Tm.oks_iff.mp h.2 p hp
theorem Tm.da_eq (t : Tm) : t.da = .tup (.str t.name :: t.parts.map Tm.da) := by
  cases t with
  | mk n ps => simp only [Tm.da, Tm.das_map, Tm.name, Tm.parts]
theorem DaAt.tm {H : Hp} {v : V} {t : Tm} (h : DaAt H v t.da) : ∃ a vs, v = .ref a ∧ H a = some (.tup (.str t.name :: vs)) ∧ DasAt H vs (t.parts.map Tm.da) := by
  rw [Tm.da_eq] at h
  obtain ⟨a, vs, rfl, h1, h2⟩ := h.tup_inv
  obtain ⟨u, r, rfl, h3, h4⟩ := h2.cons_inv
  rw [h3.str_inv] at h1
  exact ⟨a, r, rfl, h1, h4⟩
end AB

set_option Elab.async false
set_option linter.all false
set_option maxRecDepth 100000
namespace AB
open PySem PySem.Spec PyProof.Rows L2
abbrev St := L2.St

/-! ### the world around: one structure -/
structure Ev where
  P : Program
  w : World
  K : PySem.W.Frag
  mg : Str → Option Value
  base : Heap
structure Of (e : Ev) (X : Cx) : Prop where
  P : X.prog = e.P
  w : X.w = e.w
  K : X.K = e.K
  mg : X.mg = e.mg
  base : X.base = e.base
/-- the text's def st stands under the name x -/
structure At (e : Ev) (x : Str) (ps : List Str) (st : Stmt) : Prop where
  ex : ∃ f fd, FunD e.K x x (defArgs st) (defBody st) (defScope st) [] [] f fd ∧ e.mg x = some (.ref f) ∧ Binds e.K fd ps []
/-- under x stands a def that keeps the promise sp -/
def Has (e : Ev) (k : Nat) (x : Str) (ps : List Str) (sp : Sp) : Prop :=
  ∃ f fd, FnOk e.P e.w e.K e.mg e.base (L2.CX e.P e.w) k f fd ps sp ∧ e.mg x = some (.ref f) ∧ PySem.W.keepIn e.K (.ref f) = true ∧ Binds e.K fd ps [] ∧ ∃ oc od osl, e.K.lookup f = some ⟨oc, od, .func fd, osl⟩
theorem Has.mono {e : Ev} {j k : Nat} {x : Str} {ps : List Str} {sp : Sp} (h : Has e j x ps sp) (l : j ≤ k) : Has e k x ps sp :=
  let ⟨f, fd, F, a, b, c⟩ := h; ⟨f, fd, F.mono l, a, b, c⟩
theorem Has.imp {e : Ev} {k : Nat} {x : Str} {ps : List Str} {sp sp' : Sp} (h : Has e k x ps sp) (l : ∀ vs H Q E, sp' vs H Q E → sp vs H Q E) : Has e k x ps sp' :=
  let ⟨f, fd, F, a, b, c⟩ := h; ⟨f, fd, F.imp l, a, b, c⟩
theorem FunD.lk {K : PySem.W.Frag} {x qual : Str} {params : Arguments} {body : List Stmt} {scope : Scope} {dvs : List V} {kws : List (Str × V)} {f : Addr} {fd : FuncData} (F : FunD K x qual params body scope dvs kws f fd) :
    ∃ oc od osl, K.lookup f = some ⟨oc, od, .func fd, osl⟩ := by
  obtain ⟨oc, od, _, _, _, _, _, _, _, osl, _, lk, _⟩ := F.ex
  exact ⟨oc, od, osl, lk⟩
theorem At.ok {e : Ev} {x : Str} {N ps : List Str} {st : Stmt} {k : Nat} {sp : Sp} (A : At e x ps st) (S : FnScope N ps (defScope st)) (len : ∀ vs H Q E, sp vs H Q E → vs.length = ps.length)
    (hbody : ∀ (f : Addr) (cdv : Value) (A : Around) (outer : List Env) (s : Shared) (H : Hp) (vs : List V) (Q : VK) (E : XK), Room k (A.deeper (envOfC x (defScope st) s.heap.objs.size f cdv)) → sp vs H Q E →
      ∃ t, PSs (cxOf (L2.CX e.P e.w) e.P e.w e.K e.mg e.base N x (defScope st) f cdv A outer s H E).nox (defBody st) t ∧ t { nx := fun _ H' => Q .non H', rt := Q } (start N vs) H) : Has e (k + 1) x ps sp := by
  obtain ⟨f, fd, F, m, b⟩ := A.ex
  refine ⟨f, fd, F.ok S len fun cdv A outer s H vs Q E hr h => ?_, m, F.kp, b, FunD.lk F⟩
  obtain ⟨t, h1, h2⟩ := hbody f cdv A outer s H vs Q E hr h
  exact ⟨t, h1.nox, h2⟩
/-- a promise with a bound that nothing meets at 0 -/
theorem At.zero {e : Ev} {x : Str} {ps : List Str} {st : Stmt} {sp : Sp} (A : At e x ps st) (no : ∀ vs H Q E, ¬ sp vs H Q E) : Has e 0 x ps sp := by
  obtain ⟨f, fd, F, m, b⟩ := A.ex
  exact ⟨f, fd, ⟨fun vs H Q E h => absurd h (no vs H Q E), fun A outer s H args us vs Q E _ _ _ _ h => absurd h (no vs H Q E)⟩, m, F.kp, b, FunD.lk F⟩

section
variable {e : Ev} {X : Cx} {k j : Nat} {x : Str} {ps : List Str} {sp : Sp} {a : Expr} {es : List Expr} {t : TA} {p pos : Pos}
theorem pe_callH (h : Has e j x ps sp) (hr : Room k X.A) (ha : PA X (a :: es) t) (hk : j ≤ k := by omega) (hX : Of e X := by exact ⟨rfl, rfl, rfl, rfl, rfl⟩) (hg : Gl X x := by rfl) (hdb : (x == ("__debug__" : Str)) = false := by decide)
    (he : starEach (a :: es) X.env = (false, eval a X.env) :: starEach es X.env := by rfl) (hpl : (backTo pos (starEach es X.env)).any (·.1) = false := by rfl) :
    PE X (.Call (.Name x p) (a :: es) [] pos) (tCall sp [] E0 t) := by
  obtain ⟨f, fd, F, m, kp, b, _⟩ := h
  obtain ⟨h1, h2, h3, h4, h5⟩ := hX
  have F2 := F.mono hk
  rw [← h1, ← h2, ← h3, ← h4, ← h5] at F2
  rw [← h4] at m
  rw [← h3] at kp b
  exact pe_call F2 hr hg m kp b .nil passL ha hdb he hpl
/-- a call that may raise what W takes -/
theorem pe_callX {W : WX} (h : Has e j x ps sp) (hr : Room k X.A) (tk : Takes X W) (ha : PA X (a :: es) t) (hk : j ≤ k := by omega) (hX : Of e X := by exact ⟨rfl, rfl, rfl, rfl, rfl⟩) (hg : Gl X x := by rfl) (hdb : (x == ("__debug__" : Str)) = false := by decide)
    (he : starEach (a :: es) X.env = (false, eval a X.env) :: starEach es X.env := by rfl) (hpl : (backTo pos (starEach es X.env)).any (·.1) = false := by rfl) :
    PE X (.Call (.Name x p) (a :: es) [] pos) (tCallS sp (WE W) t) := by
  obtain ⟨f, fd, F, m, kp, b, _⟩ := h
  obtain ⟨h1, h2, h3, h4, h5⟩ := hX
  have F2 := F.mono hk
  rw [← h1, ← h2, ← h3, ← h4, ← h5] at F2
  rw [← h4] at m
  rw [← h3] at kp b
  exact pe_callS F2 hr hg m kp b (passAt tk) ha hdb he hpl
end
/-- a def that may raise -/
theorem At.okX {e : Ev} {x : Str} {N ps : List Str} {st : Stmt} {k : Nat} {sp : Sp} (A : At e x ps st) (S : FnScope N ps (defScope st)) (len : ∀ vs H Q E, sp vs H Q E → vs.length = ps.length)
    (hbody : ∀ (f : Addr) (cdv : Value) (A : Around) (outer : List Env) (s : Shared) (H : Hp) (vs : List V) (Q : VK) (E : XK), Room k (A.deeper (envOfC x (defScope st) s.heap.objs.size f cdv)) → sp vs H Q E →
      ∃ t, PSs (cxOf (L2.CX e.P e.w) e.P e.w e.K e.mg e.base N x (defScope st) f cdv A outer s H E) (defBody st) t ∧ t { nx := fun _ H' => Q .non H', rt := Q } (start N vs) H) : Has e (k + 1) x ps sp := by
  obtain ⟨f, fd, F, m, b⟩ := A.ex
  exact ⟨f, fd, F.ok S len fun cdv A outer s H vs Q E hr h => hbody f cdv A outer s H vs Q E hr h, m, F.kp, b, FunD.lk F⟩
/-- a promise that never raises, over the context that lets nothing out -/
theorem FnOk.cx0 {P : Program} {w : World} {K : PySem.W.Frag} {mg : Str → Option Value} {base : Heap} {k : Nat} {f : Addr} {fd : FuncData} {ps : List Str} {sp : Sp} (F : FnOk P w K mg base (L2.CX P w) k f fd ps sp)
    (h : ∀ vs H Q E, sp vs H Q E → sp vs H Q E0) : FnOk P w K mg base CX0 k f fd ps sp :=
  ⟨F.len, fun A outer s H args us vs Q E hr he hb hv hs => codeAny_mono (F.run A outer s H args us vs Q E0 hr he hb hv (h _ _ _ _ hs)) fun r s' q => by
    cases r with
    | ok fl => cases fl <;> exact q
    | error u =>
      obtain ⟨_, _, _, _, _, _, _, _, _, _, _, _, z⟩ := q
      exact z.elim⟩

/-! ### classes, methods -/
/-- the method m of the class at C -/
def AtM (e : Ev) (C : Addr) (m qual : Str) (ps : List Str) (st : Stmt) : Prop := ∃ f fd, FunD e.K m qual (defArgs st) (defBody st) (defScope st) [] [] f fd ∧ Meth e.K C m f ∧ Binds e.K fd ps []
def HasM (e : Ev) (k : Nat) (C : Addr) (m : Str) (ps : List Str) (sp : Sp) : Prop := ∃ f fd, FnOk e.P e.w e.K e.mg e.base (L2.CX e.P e.w) k f fd ps sp ∧ Meth e.K C m f ∧ Binds e.K fd ps []
theorem HasM.mono {e : Ev} {j k : Nat} {C : Addr} {m : Str} {ps : List Str} {sp : Sp} (h : HasM e j C m ps sp) (l : j ≤ k) : HasM e k C m ps sp := let ⟨f, fd, F, a, b⟩ := h; ⟨f, fd, F.mono l, a, b⟩
theorem HasM.imp {e : Ev} {k : Nat} {C : Addr} {m : Str} {ps : List Str} {sp sp' : Sp} (h : HasM e k C m ps sp) (l : ∀ vs H Q E, sp' vs H Q E → sp vs H Q E) : HasM e k C m ps sp' := let ⟨f, fd, F, a, b⟩ := h; ⟨f, fd, F.imp l, a, b⟩
theorem AtM.ok {e : Ev} {C : Addr} {m qual : Str} {N ps : List Str} {st : Stmt} {k : Nat} {sp : Sp} (A : AtM e C m qual ps st) (S : FnScope N ps (defScope st)) (len : ∀ vs H Q E, sp vs H Q E → vs.length = ps.length)
    (hbody : ∀ (f : Addr) (cdv : Value) (A : Around) (outer : List Env) (s : Shared) (H : Hp) (vs : List V) (Q : VK) (E : XK), Room k (A.deeper (envOfC qual (defScope st) s.heap.objs.size f cdv)) → sp vs H Q E →
      ∃ t, PSs (cxOf (L2.CX e.P e.w) e.P e.w e.K e.mg e.base N qual (defScope st) f cdv A outer s H E).nox (defBody st) t ∧ t { nx := fun _ H' => Q .non H', rt := Q } (start N vs) H) : HasM e (k + 1) C m ps sp := by
  obtain ⟨f, fd, F, mt, b⟩ := A
  refine ⟨f, fd, F.ok S len fun cdv A outer s H vs Q E hr h => ?_, mt, b⟩
  obtain ⟨t, h1, h2⟩ := hbody f cdv A outer s H vs Q E hr h
  exact ⟨t, h1.nox, h2⟩
theorem AtM.okX {e : Ev} {C : Addr} {m qual : Str} {N ps : List Str} {st : Stmt} {k : Nat} {sp : Sp} (A : AtM e C m qual ps st) (S : FnScope N ps (defScope st)) (len : ∀ vs H Q E, sp vs H Q E → vs.length = ps.length)
    (hbody : ∀ (f : Addr) (cdv : Value) (A : Around) (outer : List Env) (s : Shared) (H : Hp) (vs : List V) (Q : VK) (E : XK), Room k (A.deeper (envOfC qual (defScope st) s.heap.objs.size f cdv)) → sp vs H Q E →
      ∃ t, PSs (cxOf (L2.CX e.P e.w) e.P e.w e.K e.mg e.base N qual (defScope st) f cdv A outer s H E) (defBody st) t ∧ t { nx := fun _ H' => Q .non H', rt := Q } (start N vs) H) : HasM e (k + 1) C m ps sp := by
  obtain ⟨f, fd, F, mt, b⟩ := A
  exact ⟨f, fd, F.ok S len fun cdv A outer s H vs Q E hr h => hbody f cdv A outer s H vs Q E hr h, mt, b⟩
theorem AtM.zero {e : Ev} {C : Addr} {m qual : Str} {ps : List Str} {st : Stmt} {sp : Sp} (A : AtM e C m qual ps st) (no : ∀ vs H Q E, ¬ sp vs H Q E) : HasM e 0 C m ps sp := by
  obtain ⟨f, fd, F, mt, b⟩ := A
  exact ⟨f, fd, ⟨fun vs H Q E h => absurd h (no vs H Q E), fun A outer s H args us vs Q E _ _ _ _ h => absurd h (no vs H Q E)⟩, mt, b⟩
/-- the __init__ of the class at C, by which it is made -/
def AtI (e : Ev) (C : Addr) (qual : Str) (ps : List Str) (st : Stmt) : Prop := ∃ f fd, FunD e.K "__init__" qual (defArgs st) (defBody st) (defScope st) [] [] f fd ∧ Mk e.K C f ∧ Binds e.K fd ps []
def HasI (e : Ev) (k : Nat) (C : Addr) (ps : List Str) (sp : Sp) : Prop := ∃ f fd, FnOk e.P e.w e.K e.mg e.base (L2.CX e.P e.w) k f fd ps sp ∧ Mk e.K C f ∧ Binds e.K fd ps []
theorem AtI.ok {e : Ev} {C : Addr} {qual : Str} {N ps : List Str} {st : Stmt} {k : Nat} {sp : Sp} (A : AtI e C qual ps st) (S : FnScope N ps (defScope st)) (len : ∀ vs H Q E, sp vs H Q E → vs.length = ps.length)
    (hbody : ∀ (f : Addr) (cdv : Value) (A : Around) (outer : List Env) (s : Shared) (H : Hp) (vs : List V) (Q : VK) (E : XK), Room k (A.deeper (envOfC qual (defScope st) s.heap.objs.size f cdv)) → sp vs H Q E →
      ∃ t, PSs (cxOf (L2.CX e.P e.w) e.P e.w e.K e.mg e.base N qual (defScope st) f cdv A outer s H E).nox (defBody st) t ∧ t { nx := fun _ H' => Q .non H', rt := Q } (start N vs) H) : HasI e (k + 1) C ps sp := by
  obtain ⟨f, fd, F, mt, b⟩ := A
  refine ⟨f, fd, F.ok S len fun cdv A outer s H vs Q E hr h => ?_, mt, b⟩
  obtain ⟨t, h1, h2⟩ := hbody f cdv A outer s H vs Q E hr h
  exact ⟨t, h1.nox, h2⟩
section
variable {e : Ev} {X : Cx} {k j : Nat} {C : Addr} {x m : Str} {ps : List Str} {sp : Sp} {a o : Expr} {es : List Expr} {ta : TE} {t : TA} {p pos apos : Pos}
/-- o.m(e, ..) -/
theorem pe_methH {pl : Sem Bool} (h : HasM e j C m ps sp) (hr : Room k X.A) (c : Cls e.K C) (ho : PE X o ta) (ha : PA X (a :: es) t) (hk : j ≤ k := by omega) (hX : Of e X := by exact ⟨rfl, rfl, rfl, rfl, rfl⟩)
    (hst : starEach (a :: es) X.env = (false, eval a X.env) :: starEach es X.env := by rfl) (hpl : (backTo pos (starEach es X.env)).any (·.1) = false := by rfl)
    (ht : eval (.Call (.Attribute o m apos) (a :: es) [] pos) X.env = (do
      let ov ← eval o X.env
      standAt apos.atName
      let (f, first) ← holding [ov] (getMethod ov m pl)
      callWith pos f first (backTo pos (starEach (a :: es) X.env)) (backToKw pos (keywordEach [] X.env))) := by rfl) :
    PE X (.Call (.Attribute o m apos) (a :: es) [] pos) (tMeth C m sp [] E0 ta t) := by
  obtain ⟨f, fd, F, mt, b⟩ := h
  obtain ⟨h1, h2, h3, h4, h5⟩ := hX
  have F2 := F.mono hk
  rw [← h1, ← h2, ← h3, ← h4, ← h5] at F2
  rw [← h3] at b mt c
  exact pe_meth ho c mt F2 hr b .nil passL ha hst hpl ht
/-- o.m() -/
theorem pe_methH0 {pl : Sem Bool} (h : HasM e j C m ps sp) (hr : Room k X.A) (c : Cls e.K C) (ho : PE X o ta) (hk : j ≤ k := by omega) (hX : Of e X := by exact ⟨rfl, rfl, rfl, rfl, rfl⟩)
    (ht : eval (.Call (.Attribute o m apos) [] [] pos) X.env = (do
      let ov ← eval o X.env
      standAt apos.atName
      let (f, first) ← holding [ov] (getMethod ov m pl)
      callWith pos f first (backTo pos (starEach [] X.env)) (backToKw pos (keywordEach [] X.env))) := by rfl) :
    PE X (.Call (.Attribute o m apos) [] [] pos) (tMeth C m sp [] E0 ta tNil) := by
  obtain ⟨f, fd, F, mt, b⟩ := h
  obtain ⟨h1, h2, h3, h4, h5⟩ := hX
  have F2 := F.mono hk
  rw [← h1, ← h2, ← h3, ← h4, ← h5] at F2
  rw [← h3] at b mt c
  exact pe_meth0 ho c mt F2 hr b .nil passL ht
/-- the same, where it may raise -/
def tMethX (C : Addr) (m : Str) (sp : Sp) (E : St → XK) (ta : TE) (t : TA) : TE := fun σ H Q => ta σ H fun x H1 => ∃ a dx fs, x = .ref a ∧ H1 a = some (.ins C dx fs) ∧ fs.lookup m = none ∧
  t σ H1 fun vs H2 => sp (x :: vs) H2 Q (E σ)
theorem pe_methX {pl : Sem Bool} {W : WX} (h : HasM e j C m ps sp) (hr : Room k X.A) (tk : Takes X W) (c : Cls e.K C) (ho : PE X o ta) (ha : PA X (a :: es) t) (hk : j ≤ k := by omega) (hX : Of e X := by exact ⟨rfl, rfl, rfl, rfl, rfl⟩)
    (hst : starEach (a :: es) X.env = (false, eval a X.env) :: starEach es X.env := by rfl) (hpl : (backTo pos (starEach es X.env)).any (·.1) = false := by rfl)
    (ht : eval (.Call (.Attribute o m apos) (a :: es) [] pos) X.env = (do
      let ov ← eval o X.env
      standAt apos.atName
      let (f, first) ← holding [ov] (getMethod ov m pl)
      callWith pos f first (backTo pos (starEach (a :: es) X.env)) (backToKw pos (keywordEach [] X.env))) := by rfl) :
    PE X (.Call (.Attribute o m apos) (a :: es) [] pos) (tMethX C m sp (WE W) ta t) := by
  obtain ⟨f, fd, F, mt, b⟩ := h
  obtain ⟨h1, h2, h3, h4, h5⟩ := hX
  have F2 := F.mono hk
  rw [← h1, ← h2, ← h3, ← h4, ← h5] at F2
  rw [← h3] at b mt c
  refine ⟨fun pins s σ H Q I h => ?_⟩
  refine PySem.W.methodCall_KW (pl := pl) (thn (ho.run pins s σ H _ I h) fun u s1 ⟨x, H1, I1, rx, a, dx, fs, ex, ea, l, q⟩ => ?_) ht
  subst ex
  obtain rfl : u = Value.ref a := rx
  refine getmeth_ok I1 ea c mt l ?_
  refine PySem.W.callWith_K (first := [.ref a]) (h₀ := X.base) I.ok.mod.kin mt.kp (thn (ha.run pos pins s1 σ H1 _ I1 q) fun us s2 ⟨vs, H2, I2, r, q2⟩ => ⟨I2.kIn, ?_⟩) hst hpl
  exact run_fnS (us := .ref a :: us) (vs := .ref a :: vs) F2 hr b (passAt tk σ) I2 (.cons rfl r) q2
theorem pe_methX0 {pl : Sem Bool} {W : WX} (h : HasM e j C m ps sp) (hr : Room k X.A) (tk : Takes X W) (c : Cls e.K C) (ho : PE X o ta) (hk : j ≤ k := by omega) (hX : Of e X := by exact ⟨rfl, rfl, rfl, rfl, rfl⟩)
    (ht : eval (.Call (.Attribute o m apos) [] [] pos) X.env = (do
      let ov ← eval o X.env
      standAt apos.atName
      let (f, first) ← holding [ov] (getMethod ov m pl)
      callWith pos f first (backTo pos (starEach [] X.env)) (backToKw pos (keywordEach [] X.env))) := by rfl) :
    PE X (.Call (.Attribute o m apos) [] [] pos) (tMethX C m sp (WE W) ta tNil) := by
  obtain ⟨f, fd, F, mt, b⟩ := h
  obtain ⟨h1, h2, h3, h4, h5⟩ := hX
  have F2 := F.mono hk
  rw [← h1, ← h2, ← h3, ← h4, ← h5] at F2
  rw [← h3] at b mt c
  refine ⟨fun pins s σ H Q I h => ?_⟩
  refine PySem.W.methodCall_KW (pl := pl) (thn (ho.run pins s σ H _ I h) fun u s1 ⟨x, H1, I1, rx, a, dx, fs, ex, ea, l, q⟩ => ?_) ht
  subst ex
  obtain rfl : u = Value.ref a := rx
  refine getmeth_ok I1 ea c mt l ?_
  exact PySem.W.callWith_K0 (first := [.ref a]) I1.kIn mt.kp (run_fnS (us := [.ref a]) (vs := [.ref a]) F2 hr b (passAt tk σ) I1 (.cons rfl .nil) q)
/-- C(e, ..) -/
theorem pe_makeH (h : HasI e j C ps sp) (hm : e.mg x = some (.ref C)) (hr : Room k X.A) (ha : PA X (a :: es) t) (hk : j + 1 ≤ k := by omega) (hX : Of e X := by exact ⟨rfl, rfl, rfl, rfl, rfl⟩) (hg : Gl X x := by rfl) (hdb : (x == ("__debug__" : Str)) = false := by decide)
    (he : starEach (a :: es) X.env = (false, eval a X.env) :: starEach es X.env := by rfl) (hpl : (backTo pos (starEach es X.env)).any (·.1) = false := by rfl) :
    PE X (.Call (.Name x p) (a :: es) [] pos) (tMake C sp [] E0 t) := by
  obtain ⟨f, fd, F, mt, b⟩ := h
  obtain ⟨h1, h2, h3, h4, h5⟩ := hX
  have F2 := F
  rw [← h1, ← h2, ← h3, ← h4, ← h5] at F2
  rw [← h3] at b mt
  rw [← h4] at hm
  exact pe_make mt F2 (hr.mono hk) hg hm b .nil passL ha hdb he hpl
theorem pe_makeH0 (h : HasI e j C ps sp) (hm : e.mg x = some (.ref C)) (hr : Room k X.A) (hk : j + 1 ≤ k := by omega) (hX : Of e X := by exact ⟨rfl, rfl, rfl, rfl, rfl⟩) (hg : Gl X x := by rfl) (hdb : (x == ("__debug__" : Str)) = false := by decide) :
    PE X (.Call (.Name x p) [] [] pos) (tMake C sp [] E0 tNil) := by
  obtain ⟨f, fd, F, mt, b⟩ := h
  obtain ⟨h1, h2, h3, h4, h5⟩ := hX
  have F2 := F
  rw [← h1, ← h2, ← h3, ← h4, ← h5] at F2
  rw [← h3] at b mt
  rw [← h4] at hm
  exact pe_make0 mt F2 (hr.mono hk) hg hm b .nil passL hdb
end
/-- a constant of the module -/
def Cst (e : Ev) (x : Str) (v : V) : Prop := ∃ u, e.mg x = some u ∧ RelV v u
theorem pe_cst {e : Ev} {X : Cx} {x : Str} {v : V} {pos : Pos} (h : Cst e x v) (hX : Of e X := by exact ⟨rfl, rfl, rfl, rfl, rfl⟩) (hg : Gl X x := by rfl) (hd : (x == ("__debug__" : Str)) = false := by decide) : PE X (.Name x pos) (tC v) := by
  obtain ⟨u, h1, h2⟩ := h
  exact pe_glob hg (by rw [hX.mg]; exact h1) h2 hd
/-- an own class of errors, without an __init__ of its own -/
structure ExK (e : Ev) (x : Str) (C : Addr) : Prop where
  mg : e.mg x = some (.ref C)
  xin : PySem.W.excIn e.K C [.type "ValueError", .type "Exception", .type "BaseException", .type "object"] "ValueError.__new__" = true
  kp : PySem.W.keepIn e.K (.ref C) = true
  sb : PySem.W.subIn e.K (.ref C) (.type "BaseException") = some true
  ty : PySem.W.typeIn e.K (.ref C) = some (.type "type")
theorem ps_raiseE {e : Ev} {X : Cx} {W : WX} {x m : Str} {C : Addr} {j : Nat} {p p2 pos pos2 : Pos} (h : ExK e x C) (tk : Takes X W) (hc : X.calm = true := by rfl) (hX : Of e X := by exact ⟨rfl, rfl, rfl, rfl, rfl⟩) (hg : Gl X x := by rfl) (hdb : (x == ("__debug__" : Str)) = false := by decide) :
    PS X (.Raise (some (.Call (.Name x p) [.Constant (.str m) j p2] [] pos)) none pos2) (fun _ σ H => W (.ref C) none σ H) := by
  obtain ⟨h1, h2, h3, h4, h5⟩ := hX
  exact ps_raise hc tk (pmk_own PySem.F.excBase_ValueError (by rw [h3]; exact h.xin) (by rw [h4]; exact h.mg) (by rw [h3]; exact h.kp) (raises_own (by rw [h3]; exact h.sb) (by rw [h3]; exact h.ty)) hg hdb)


/-! ### the built-in names -/
structure Bl (e : Ev) : Prop where
  len : e.mg "len" = none
  abs : e.mg "abs" = none
  max : e.mg "max" = none
  min : e.mg "min" = none
  int : e.mg "int" = none
  tuple : e.mg "tuple" = none
  list : e.mg "list" = none
  range : e.mg "range" = none
  sum : e.mg "sum" = none
  isinstance : e.mg "isinstance" = none
  sorted : e.mg "sorted" = none
  set : e.mg "set" = none
  zip : e.mg "zip" = none
  enumerate : e.mg "enumerate" = none
  reversed : e.mg "reversed" = none
  str : e.mg "str" = none
  bool : e.mg "bool" = none
  ValueError : e.mg "ValueError" = none
  KeyError : e.mg "KeyError" = none
section
variable {e : Ev} {X : Cx} {x : Str} {a : Expr} {es : List Expr} {t : TA} {p pos : Pos} {id T : String} {r : List V → Hp → VK → Prop}
theorem Of.no (hX : Of e X) (m : e.mg x = none) : X.mg x = none := by rw [hX.mg]; exact m
theorem pe_b (hc : CallR X (.builtin id) r) (m : e.mg x = none) (ha : PA X (a :: es) t) (hX : Of e X := by exact ⟨rfl, rfl, rfl, rfl, rfl⟩) (hv : bootBuiltins x = some (.builtin id) := by decide +kernel) (hg : Gl X x := by rfl) (hn : x ≠ "__name__" := by decide) (hdb : (x == ("__debug__" : Str)) = false := by decide)
    (he : starEach (a :: es) X.env = (false, eval a X.env) :: starEach es X.env := by rfl) (hpl : (backTo pos (starEach es X.env)).any (·.1) = false := by rfl) : PE X (.Call (.Name x p) (a :: es) [] pos) (tCB r t) :=
  pe_callB hc hg (hX.no m) hv ha hn hdb he hpl
theorem pe_ty (hc : CallR X (.type T) r) (m : e.mg x = none) (ha : PA X (a :: es) t) (hX : Of e X := by exact ⟨rfl, rfl, rfl, rfl, rfl⟩) (hv : bootBuiltins x = some (.type T) := by decide +kernel) (hg : Gl X x := by rfl) (hn : x ≠ "__name__" := by decide) (hdb : (x == ("__debug__" : Str)) = false := by decide)
    (he : starEach (a :: es) X.env = (false, eval a X.env) :: starEach es X.env := by rfl) (hpl : (backTo pos (starEach es X.env)).any (·.1) = false := by rfl) : PE X (.Call (.Name x p) (a :: es) [] pos) (tCB r t) :=
  pe_callTy hc hg (hX.no m) hv ha hn hdb he hpl
theorem pe_tyv (m : e.mg x = none) (hX : Of e X := by exact ⟨rfl, rfl, rfl, rfl, rfl⟩) (hv : bootBuiltins x = some (.type T) := by decide +kernel) (hg : Gl X x := by rfl) (hn : x ≠ "__name__" := by decide) (hdb : (x == ("__debug__" : Str)) = false := by decide) : PE X (.Name x pos) (tC (.ty T)) :=
  pe_bltn hg (hX.no m) hv rfl hn hdb
end

/-! ### operations on immutable data -/
section
variable {X : Cx}
/-- t + u -/
def rCatD : R2 := fun x y H Q => ∃ l m, DaAt H x (.tup l) ∧ DaAt H y (.tup m) ∧ l.length + m.length ≤ sizeLine ∧ ∀ v H', Same H H' → DaAt H' v (.tup (l ++ m)) → Q v H'
theorem op_catD : OpR X (binaryOp .Add) rCatD := by
  intro pins s σ H x y v u Q I rx ry h
  obtain ⟨l, m, hx, hy, hz, q⟩ := h
  obtain ⟨a, vs, rfl, h1, h2⟩ := hx.tup_inv
  obtain ⟨b, ws, rfl, h3, h4⟩ := hy.tup_inv
  refine op_catA pins s σ H _ _ v u Q I rx ry ⟨a, b, vs, ws, rfl, rfl, SqT.of h1, SqT.of h3, by rw [h2.length, h4.length]; exact hz, fun z => ?_, fun _ z => ?_, fun _ _ p hp => ?_⟩
  · subst z
    have e : l = [] := by have := h2.length; simp at this; exact List.length_eq_zero_iff.mp this.symm
    subst e
    exact q _ _ (Same.refl _) hy
  · subst z
    have e : m = [] := by have := h4.length; simp at this; exact List.length_eq_zero_iff.mp this.symm
    subst e
    rw [List.append_nil] at q
    exact q _ _ (Same.refl _) hx
  · exact q _ _ (same_new hp _) (.tup upd_same ((h2.append h4).mono (TX.new hp)))
def cutD {α : Type} (l : List α) (lo hi : Option Int) : List α := (l.drop (HT.sIx l.length 0 lo)).take (HT.sIx l.length l.length hi - HT.sIx l.length 0 lo)
theorem cutD_tail {α : Type} (x : α) (l : List α) : cutD (x :: l) (some 1) none = l := by
  have e1 : HT.sIx (x :: l).length 0 (some 1) = 1 := by
    have := HT.sIx_nat (x :: l).length 0 1
    simpa using this
  unfold cutD
  rw [e1, HT.sIx_none]
  simp
theorem DasAt.cut {H : Hp} {vs : List V} {ds : List Da} (h : DasAt H vs ds) (lo hi : Option Int) : DasAt H (cutV vs lo hi) (cutD ds lo hi) := by
  unfold cutV cutD
  rw [h.length]
  exact (h.drop _).take _
/-- t[lo:hi] -/
def rSlD : V → Option Int → Option Int → Hp → VK → Prop := fun x lo hi H Q => ∃ l, DaAt H x (.tup l) ∧ ∀ v H', Same H H' → DaAt H' v (.tup (cutD l lo hi)) → Q v H'
theorem sl_tupD : SlR X rSlD := by
  intro pins s σ H x v vl vu lo hi sl Q I rx hs pl pu h
  obtain ⟨l, hx, q⟩ := h
  obtain ⟨a, vs, rfl, h1, h2⟩ := hx.tup_inv
  refine sl_tupA pins s σ H _ v vl vu lo hi sl Q I rx hs pl pu ⟨a, vs, rfl, SqT.of h1, fun z => ?_, fun _ p hp => ?_⟩
  · refine q _ _ (Same.refl _) (.tup h1 ?_)
    have e := h2.cut lo hi
    have e2 : cutV vs lo hi = vs := by
      unfold cutV
      rw [z.1, z.2]
      simp
    rw [e2] at e
    exact e
  · exact q _ _ (same_new hp _) (.tup upd_same ((h2.cut lo hi).mono (TX.new hp)))
/-- t[i] -/
def rIxD : R2 := fun x y H Q => ∃ l i d, DaAt H x (.tup l) ∧ y = .int i ∧ atI l i = some d ∧ ∀ v, DaAt H v d → Q v H
theorem atI_len {α β : Type} {xs : List α} {ys : List β} {i : Int} (h : xs.length = ys.length) {j : Nat} (e : ixN ys.length i = some j) : ixN xs.length i = some j := by rw [h]; exact e
theorem DasAt.atI {H : Hp} {vs : List V} {ds : List Da} {i : Int} {d : Da} (h : DasAt H vs ds) (e : L2.atI ds i = some d) : ∃ v, L2.atI vs i = some v ∧ DaAt H v d := by
  unfold L2.atI at e ⊢
  rw [h.length]
  cases q : ixN ds.length i with
  | none => rw [q] at e; cases e
  | some j =>
    rw [q] at e
    obtain ⟨v, h1, h2⟩ := h.get e
    exact ⟨v, h1, h2⟩
theorem ix_tupD : IxR X rIxD := by
  intro va sl pins s σ H x y v u Q I rx ry h hp
  obtain ⟨l, i, d, hx, rfl, hi, q⟩ := h
  obtain ⟨a, vs, rfl, h1, h2⟩ := hx.tup_inv
  obtain ⟨w, h3, h4⟩ := h2.atI hi
  exact ix_tup va sl pins s σ H _ _ v u Q I rx ry ⟨a, vs, i, w, rfl, rfl, SqT.of h1, h3, q w h4⟩ hp
/-- xs[i], a list of such data -/
def rIxLD : R2 := fun x y H Q => ∃ a l i d, x = .ref a ∧ LD H a l ∧ y = .int i ∧ atI l i = some d ∧ ∀ v, DaAt H v d → Q v H
theorem ix_listD : IxR X rIxLD := by
  intro va sl pins s σ H x y v u Q I rx ry h hp
  obtain ⟨a, l, i, d, rfl, ⟨vs, h1, h2⟩, rfl, hi, q⟩ := h
  obtain ⟨w, h3, h4⟩ := h2.atI hi
  exact ix_list va sl pins s σ H _ _ v u Q I rx ry ⟨a, vs, i, w, rfl, rfl, SqL.of h1, h3, q w h4⟩ hp
/-- len -/
def rLenT : List V → Hp → VK → Prop := fun xs H Q => ∃ x l, xs = [x] ∧ DaAt H x (.tup l) ∧ Q (.int l.length) H
theorem call_lenT : CallR X (.builtin "len") rLenT := by
  intro pins s σ H xs us Q I r h
  obtain ⟨x, l, rfl, hx, q⟩ := h
  obtain ⟨a, vs, rfl, h1, h2⟩ := hx.tup_inv
  exact call_len_seq pins s σ H _ us Q I r ⟨a, vs, rfl, .inr (SqT.of h1), by rw [h2.length]; exact q⟩
def rLenL (K : PySem.W.Frag) : List V → Hp → VK → Prop := fun xs H Q => ∃ p ys, xs = [.ref p] ∧ SqL K H p ys ∧ Q (.int ys.length) H
theorem call_lenL : CallR X (.builtin "len") (rLenL X.K) := by
  intro pins s σ H xs us Q I r h
  obtain ⟨p, ys, rfl, h1, q⟩ := h
  exact call_len_seq pins s σ H _ us Q I r ⟨p, ys, rfl, .inl h1, q⟩
/-- tuple(list) -/
def rTupL : List V → Hp → VK → Prop := fun xs H Q => ∃ p ds, xs = [.ref p] ∧ LD H p ds ∧ ∀ v H', Same H H' → DaAt H' v (.tup ds) → Q v H'
theorem call_tupL : CallR X (.type "tuple") rTupL := by
  intro pins s σ H xs us Q I r h
  obtain ⟨p, ds, rfl, ⟨vs, h1, h2⟩, q⟩ := h
  exact call_tuple_of pins s σ H _ us Q I r ⟨p, vs, rfl, .inl ⟨SqL.of h1, fun l hl => q _ _ (same_new hl _) (.tup upd_same (h2.mono (TX.new hl)))⟩⟩
/-- == of data -/
def okD (d : Da) : Prop := d.ok = true ∧ d.depth ≤ 60
def okL (ds : List Da) : Prop := ∀ d ∈ ds, okD d
theorem okL.oks {ds : List Da} (h : okL ds) : Da.oks ds = true ∧ Da.depths ds ≤ 60 := ⟨Da.oks_of fun d m => (h d m).1, Da.depths_le.mpr fun d m => (h d m).2⟩
theorem okD.sh {d : Da} (h : okD d) : SeqAt.shaped d.py = true := Da.shaped h.1 (Nat.le_trans h.2 (by decide))
theorem okL.sh {ds : List Da} (h : okL ds) : SeqAt.shaped (.list (Da.pys ds)) = true := pys_shaped h.oks.1 (Nat.le_trans h.oks.2 (by decide))
theorem okD.tup {l : List Da} (h : ∀ d ∈ l, d.ok = true ∧ d.depth ≤ 59) : okD (.tup l) := ⟨by simp only [Da.ok]; exact Da.oks_of fun d m => (h d m).1, by
  have := (Da.depths_le (l := l) (n := 59)).mpr fun d m => (h d m).2
  simp only [Da.depth]; omega⟩
def rEqDa (neg : Bool) : R2 := fun x y H Q => ∃ d e, DaAt H x d ∧ DaAt H y e ∧ okD d ∧ okD e ∧ Q (.bl (if neg then !decide (d = e) else decide (d = e))) H
theorem op_eqDa (hu : X.A.units + 64 < cLine) : OpR X (compareOp .Eq) (rEqDa false) := by
  intro pins s σ H x y v u Q I rx ry h
  obtain ⟨d, e, hx, hy, k1, k2, q⟩ := h
  exact op_eqD hu pins s σ H x y v u Q I rx ry ⟨d.py, e.py, hx.dp, hy.dp, k1.sh, k2.sh, by rw [Da.eqv_dec]; exact q⟩
theorem op_neDa (hu : X.A.units + 64 < cLine) : OpR X (compareOp .NotEq) (rEqDa true) := by
  intro pins s σ H x y v u Q I rx ry h
  obtain ⟨d, e, hx, hy, k1, k2, q⟩ := h
  exact op_neD hu pins s σ H x y v u Q I rx ry ⟨d.py, e.py, hx.dp, hy.dp, k1.sh, k2.sh, by rw [Da.eqv_dec]; exact q⟩
/-- == of lists of data -/
def rEqLa (neg : Bool) : R2 := fun x y H Q => ∃ a b ds es, x = .ref a ∧ y = .ref b ∧ LD H a ds ∧ LD H b es ∧ okL ds ∧ okL es ∧ Q (.bl (if neg then !decide (ds = es) else decide (ds = es))) H
theorem op_eqLa (hu : X.A.units + 64 < cLine) : OpR X (compareOp .Eq) (rEqLa false) := by
  intro pins s σ H x y v u Q I rx ry h
  obtain ⟨a, b, d, e, rfl, rfl, hx, hy, k1, k2, q⟩ := h
  exact op_eqD hu pins s σ H _ _ v u Q I rx ry ⟨_, _, hx.dp, hy.dp, k1.sh, k2.sh, by simp only [PyData.eqv]; rw [pys_eqv]; exact q⟩
theorem op_neLa (hu : X.A.units + 64 < cLine) : OpR X (compareOp .NotEq) (rEqLa true) := by
  intro pins s σ H x y v u Q I rx ry h
  obtain ⟨a, b, d, e, rfl, rfl, hx, hy, k1, k2, q⟩ := h
  exact op_neD hu pins s σ H _ _ v u Q I rx ry ⟨_, _, hx.dp, hy.dp, k1.sh, k2.sh, by simp only [PyData.eqv]; rw [pys_eqv]; exact q⟩
/-- d in a list of data -/
def rInDa (neg : Bool) : R2 := fun x y H Q => ∃ d a ds, DaAt H x d ∧ y = .ref a ∧ LD H a ds ∧ okD d ∧ okL ds ∧ Q (.bl (if neg then !decide (d ∈ ds) else decide (d ∈ ds))) H
theorem op_inDa (hu : X.A.units + 65 < cLine) : OpR X (compareOp .In) (rInDa false) := by
  intro pins s σ H x y v u Q I rx ry h
  obtain ⟨d, a, ds, hx, rfl, hy, k1, k2, q⟩ := h
  exact op_inD hu pins s σ H _ _ v u Q I rx ry ⟨d.py, Da.pys ds, hx.dp, hy.dp, k1.sh, k2.sh, by rw [any_pys]; exact q⟩
theorem op_notInDa (hu : X.A.units + 65 < cLine) : OpR X (compareOp .NotIn) (rInDa true) := by
  intro pins s σ H x y v u Q I rx ry h
  obtain ⟨d, a, ds, hx, rfl, hy, k1, k2, q⟩ := h
  exact op_notInD hu pins s σ H _ _ v u Q I rx ry ⟨d.py, Da.pys ds, hx.dp, hy.dp, k1.sh, k2.sh, by rw [any_pys]; exact q⟩
theorem hu64 {A : Around} {k : Nat} (hr : Room k A) : A.units + 64 < cLine := hr.units
theorem hu65 {A : Around} {k : Nat} (hr : Room k A) : A.units + 65 < cLine := by have := hr.un; omega
/-- text * number -/
def rMulS : R2 := fun x y H Q => ∃ z n, x = .str z ∧ y = .int n ∧ z.length ≤ 1000 ∧ 0 ≤ n ∧ n ≤ 1000 ∧ Q (.str (Txt.mul z n)) H
theorem mulOk_small {z : Str} {n : Int} (h1 : z.length ≤ 1000) (h2 : 0 ≤ n) (h3 : n ≤ 1000) : MulOk z n := by
  refine ⟨?_, fun h _ h4 => ?_, fun h _ => ?_⟩
  · rw [Bool.or_eq_false_iff]
    exact ⟨decide_eq_false (by omega), decide_eq_false (by omega)⟩
  · have h5 : (1000 : Int) ≤ (2 ^ 63 - 1) / n := by
      rw [Int.le_ediv_iff_mul_le (by omega)]
      omega
    omega
  · unfold Builtin.Str.tooLong
    have h7 := sizeLine_eq
    have h5 : n.toNat ≤ 1000 := by omega
    have h6 : z.length * n.toNat ≤ 1000 * 1000 := Nat.mul_le_mul h1 h5
    first
      | (rw [decide_eq_false_iff_not]; omega)
      | (simp; omega)
theorem op_mulS : OpR X (binaryOp .Mult) rMulS := by
  intro pins s σ H x y v u Q I rx ry h
  obtain ⟨z, n, rfl, rfl, h1, h2, h3, q⟩ := h
  obtain ⟨t, rfl⟩ := rx
  obtain ⟨t', rfl⟩ := ry
  exact SB.mul (mulOk_small h1 h2 h3) fun t' k => ⟨.str _, H, I.tok _, ⟨_, rfl⟩, q⟩
end

/-! ### loops and comprehensions over such data -/
/-- for x in t -/
theorem for_tupD {K : PySem.W.Frag} {H0 : Hp} {v : V} {l : List Da} {g : TG} {tb : TS} {D : Ends} {σ : St} (hv : DaAt H0 v (.tup l)) (Pv : Nat → St → Hp → Prop) (h0 : Pv 0 σ H0)
    (tx : ∀ i σ H, Pv i σ H → TX H0 H)
    (hs : ∀ i x d σ H, l[i]? = some d → DaAt H x d → Pv i σ H → g x σ H fun σ2 H2 => tb { D with nx := Pv (i + 1), ct := Pv (i + 1), bk := D.nx } σ2 H2) (hd : ∀ σ H, Pv l.length σ H → D.nx σ H) :
    ∃ a, v = .ref a ∧ (∃ xs, SqT K H0 a xs) ∧ ∃ W : Nat → Nat → St → Hp → Prop, (∃ m, W 0 m σ H0) ∧ ∀ i m σ H, W i m σ H →
      ((Itt K a).stop i H ∧ D.nx σ H) ∨ ((Itt K a).go i H ∧ ∃ N : St → Hp → Prop, (∀ σ' H', N σ' H' → ∃ m', m' < m ∧ W (i + 1) m' σ' H') ∧ ∀ x H', (Itt K a).yld i H x H' → g x σ H' fun σ2 H2 => tb { D with nx := N, ct := N, bk := D.nx } σ2 H2) := by
  obtain ⟨a, vs, rfl, h1, h2⟩ := hv.tup_inv
  refine ⟨a, rfl, ⟨vs, SqT.of h1⟩, for_tup (xs := vs) Pv h0 (fun i σ H _ p => SqT.of ((tx i σ H p).tup h1)) (fun i x σ H hi p => ?_) (fun σ H p => hd σ H (by rw [← h2.length]; exact p))⟩
  obtain ⟨d, h3, h4⟩ := h2.at hi
  exact hs i x d σ H h3 (h4.mono (tx i σ H p)) p
/-- for x in a list of such data, that stays -/
theorem for_listD {K : PySem.W.Frag} {H0 : Hp} {a : Addr} {l : List Da} {g : TG} {tb : TS} {D : Ends} {σ : St} (hv : LD H0 a l) (Pv : Nat → St → Hp → Prop) (h0 : Pv 0 σ H0)
    (tx : ∀ i σ H, Pv i σ H → TX H0 H ∧ H a = H0 a)
    (hs : ∀ i x d σ H, l[i]? = some d → DaAt H x d → Pv i σ H → g x σ H fun σ2 H2 => tb { D with nx := Pv (i + 1), ct := Pv (i + 1), bk := D.nx } σ2 H2) (hd : ∀ σ H, Pv l.length σ H → D.nx σ H) :
    (∃ xs, SqL K H0 a xs) ∧ ∃ W : Nat → Nat → St → Hp → Prop, (∃ m, W 0 m σ H0) ∧ ∀ i m σ H, W i m σ H →
      ((Itl K a).stop i H ∧ D.nx σ H) ∨ ((Itl K a).go i H ∧ ∃ N : St → Hp → Prop, (∀ σ' H', N σ' H' → ∃ m', m' < m ∧ W (i + 1) m' σ' H') ∧ ∀ x H', (Itl K a).yld i H x H' → g x σ H' fun σ2 H2 => tb { D with nx := N, ct := N, bk := D.nx } σ2 H2) := by
  obtain ⟨vs, h1, h2⟩ := hv
  refine ⟨⟨vs, SqL.of h1⟩, for_list (xs := vs) Pv h0 (fun i σ H _ p => SqL.of ((tx i σ H p).2.trans h1)) (fun i x σ H hi p => ?_) (fun σ H p => hd σ H (by rw [← h2.length]; exact p))⟩
  obtain ⟨d, h3, h4⟩ := h2.at hi
  exact hs i x d σ H h3 (h4.mono (tx i σ H p).1) p
/-- [F x for x in t], the element pure -/
theorem lc_tupD {α : Type} {K : PySem.W.Frag} {H0 : Hp} {v : V} {l : List α} {Gm F : α → Da} {g : TG} {tt : TT} {te : TE} {vs : List Nat} {σ : St} {Qd : Addr → Hp → Prop} (hv : DaAt H0 v (.tup (l.map Gm))) (hz : l.length ≤ 1000000)
    (hs : ∀ x d H, d ∈ l → DaAt H x (Gm d) → Same H0 H → ∀ (Q' : V → Hp → Prop) (N : Hp → Prop), (∀ y H', Same H H' → DaAt H' y (F d) → Q' y H') → g x (wipe σ vs) H fun σ2 H2 => wipe σ2 vs = wipe σ vs ∧ tt σ2 H2 fun b H3 =>
      if b = true then te σ2 H3 Q' else N H3)
    (hd : ∀ D H, H0 D = none → Same H0 H → LD H D (l.map F) → Qd D H) :
    ∃ a, v = .ref a ∧ (∃ xs, SqT K H0 a xs) ∧ ∀ D, H0 D = none → ∃ W : Nat → Nat → Hp → Prop, (∃ m, W 0 m (upd H0 D (.lst []))) ∧ ∀ i m H, W i m H →
      ((Itt K a).stop i H ∧ Qd D H) ∨ ((Itt K a).go i H ∧ ∃ Nx : Hp → Prop, (∀ H', Nx H' → ∃ m', m' < m ∧ W (i + 1) m' H') ∧ ∀ x H', (Itt K a).yld i H x H' → g x (wipe σ vs) H' fun σ2 H2 => wipe σ2 vs = wipe σ vs ∧ tt σ2 H2 fun b H3 =>
        if b = true then te σ2 H3 fun y H4 => ∃ acc, H4 D = some (.lst acc) ∧ acc.length < sizeLine ∧ Nx (upd H4 D (.lst (acc ++ [y]))) else Nx H3) := by
  obtain ⟨a, xs, rfl, h1, h2⟩ := hv.tup_inv
  refine ⟨a, rfl, ⟨xs, SqT.of h1⟩, fun D hD => ?_⟩
  have key := lc_tup (K := K) (a := a) (xs := xs) (g := g) (tt := tt) (te := te) (vs := vs) (σ := σ) (H1 := H0) (D := D) (Qd := fun H => Qd D H)
    (fun i H => Same H0 H ∧ LD H D ((l.take i).map F)) ⟨same_put (Same.refl H0) hD _, [], upd_same, by simpa using DasAt.nil⟩ (fun i H _ p => SqT.of (p.1 _ _ h1)) (fun i x H hi p => ?_) (fun H p => hd D H hD p.1 (by
      have := p.2
      rw [h2.length, List.length_map, List.take_length] at this
      exact this))
  · exact key
  · obtain ⟨d0, h3', h4⟩ := h2.at hi
    obtain ⟨d, h3, rfl⟩ : ∃ d, l[i]? = some d ∧ d0 = Gm d := by
      rw [List.getElem?_map] at h3'
      cases e : l[i]? with
      | none => rw [e] at h3'; cases h3'
      | some x => rw [e] at h3'; exact ⟨x, rfl, (Option.some.inj h3').symm⟩
    obtain ⟨s1, acc, h5, h6⟩ := p
    have hl : (l.take (i + 1)).map F = (l.take i).map F ++ [F d] := by
      rw [List.take_add_one, h3]
      simp
    have hil : i < l.length := (List.getElem?_eq_some_iff.mp h3).1
    have hal : acc.length < sizeLine := by
      rw [h6.length, List.length_map, List.length_take, sizeLine_eq]
      omega
    refine hs x d H (List.mem_of_getElem? h3) (h4.mono (TX.of_same s1)) s1 _ _ fun y H' s2 hy => ?_
    refine ⟨acc, s2 _ _ h5, hal, same_put (s1.trans s2) hD _, acc ++ [y], upd_same, ?_⟩
    rw [hl]
    exact ((h6.mono (TX.of_same s2)).append (.one hy)).mono (TX.lst (s2 _ _ h5))
end AB
namespace AB
open PySem PySem.Spec PyProof.Rows L2
section
variable {X : Cx}
theorem ps_st (i : Nat) {x : Str} {e : Expr} {te : TE} {pos pos' : Pos} (hN : X.N.Nodup) (he : PE X e te) (hi : X.N[i]? = some x := by rfl) (hx : Loc X.env.scope x := by first | exact Or.inl rfl | exact Or.inr rfl)
    (hs : swapsWith e (some (.Name x pos')) pos.line X.env = pure false := by rfl) (hf : X.fn x = true ∨ X.env.scope.names.lookup x = some .local := by first | exact .inl rfl | exact .inr rfl | assumption) :
    PS X (.Assign [.Name x pos'] e pos) (tAsg te (gName i)) := ps_set hN hi hx he hs hf
theorem pg_nm (i : Nat) {x : Str} {pos : Pos} (hN : X.N.Nodup) (hi : X.N[i]? = some x := by rfl) (hx : Loc X.env.scope x := by first | exact Or.inl rfl | exact Or.inr rfl) (hf : X.fn x = true ∨ X.env.scope.names.lookup x = some .local := by first | exact .inl rfl | exact .inr rfl | assumption) : PG X (.Name x pos) (gName i) := pg_name hN hi hx hf
theorem pe_app {o e : Expr} {es : List Expr} {to : TE} {t : TA} {apos cpos : Pos} (ho : PE X o to) (ha : PA X (e :: es) t)
    (hbase : attributeBase o "append" X.env (eval o X.env) = eval o X.env := by rfl)
    (hfew : ((backTo cpos (starEach (e :: es) X.env)).all (fun x => !x.1) && (backToKw cpos (keywordEach [] X.env)).all (fun x => x.1.isSome)
      && decide ((e :: es).length + ([] : List Keyword).length + (if ([] : List Keyword).isEmpty then 0 else 1) < 30)) = true := by rfl)
    (hline : (apos.endLine == cpos.line) = true := by rfl) (hs : starEach (e :: es) X.env = (false, eval e X.env) :: starEach es X.env := by rfl) (hplain : (backTo cpos (starEach es X.env)).any (·.1) = false := by rfl) :
    PE X (.Call (.Attribute o "append" apos) (e :: es) [] cpos) (tBM X.K "list" rAppend to t) :=
  pe_bm PySem.F.plainAttrs_list PySem.F.slot_list_append PySem.F.type_list_append mt_append ho ha hbase hfew hline hs hplain
end
end AB
namespace AB
open PySem PySem.Spec PyProof.Rows L2
theorem upd_keep {H : Hp} {a p : Addr} {o u : HO} (h : H a = some u) (hp : H p = none) : upd H p o a = some u := by rw [upd_ne (ne_of_none h hp)]; exact h
theorem same_get {H H' : Hp} {a : Addr} {u : HO} (s : Same H H') (h : H a = some u) : H' a = some u := s _ _ h
theorem upd_none {H : Hp} {p q : Addr} {o : HO} (h : upd H p o q = none) : H q = none := by
  unfold upd at h
  split at h
  · cases h
  · exact h
theorem same_none {H H' : Hp} {q : Addr} (s : Same H H') (h : H' q = none) : H q = none := by
  cases e : H q with
  | none => rfl
  | some o => rw [s _ _ e] at h; cases h
/-- names: one to six small letters -/
def goodName (s : Str) : Prop := 1 ≤ s.length ∧ s.length ≤ 6 ∧ ∀ c ∈ s.cps.toList, 97 ≤ c ∧ c ≤ 122
theorem goodName.okS {s : Str} (h : goodName s) : okS s = true := by
  unfold AB.okS
  rw [← Array.all_toList, List.all_eq_true]
  intro c hc
  have := h.2.2 c hc
  simp only [decide_eq_true_eq]
  omega
theorem app_cps (x y : Str) : (x ++ y).cps.toList = x.cps.toList ++ y.cps.toList := by
  show (x.cps ++ y.cps).toList = _
  simp
theorem len_cps (x : Str) : x.length = x.cps.toList.length := by
  show x.cps.size = _
  simp
theorem foldl_app (l : List (Array Nat)) : ∀ a : Array Nat, (l.foldl (· ++ ·) a).toList = a.toList ++ (l.map Array.toList).flatten := by
  induction l with
  | nil => intro a; simp
  | cons x r ih => intro a; rw [List.foldl_cons, ih]; simp
theorem mul_cps {z : Str} {n : Int} (h : 0 ≤ n) : (Txt.mul z n).cps.toList = (List.replicate n.toNat z.cps.toList).flatten := by
  unfold Txt.mul
  by_cases h1 : n < 1
  · have e : n.toNat = 0 := by omega
    rw [if_pos h1, e]
    rfl
  · rw [if_neg h1]
    by_cases h2 : (n == 1 || z.length == 0) = true
    · rw [if_pos h2]
      rw [Bool.or_eq_true] at h2
      rcases h2 with h2 | h2
      · have e : n = 1 := by simpa using h2
        subst e
        simp
      · have e : z.cps.toList = [] := by
          have : z.length = 0 := by simpa using h2
          rw [len_cps] at this
          exact List.length_eq_zero_iff.mp this
        rw [e]
        simp
    · rw [if_neg h2]
      rw [foldl_app]
      simp
theorem flat_rep {α : Type} (c : α) : ∀ n : Nat, (List.replicate n [c]).flatten = List.replicate n c
  | 0 => rfl
  | n + 1 => by rw [List.replicate_succ, List.flatten_cons, flat_rep c n, List.replicate_succ]; rfl
theorem abc_at {i : Int} (h0 : 0 ≤ i) (h1 : i < 26) : ∃ c, atI ("abcdefghijklmnopqrstuvwxyz" : Str).cps.toList i = some c ∧ 97 ≤ c ∧ c ≤ 122 := by
  have key : ∀ n : Fin 26, ∃ c, atI ("abcdefghijklmnopqrstuvwxyz" : Str).cps.toList ((n.val : Nat) : Int) = some c ∧ 97 ≤ c ∧ c ≤ 122 := by
    intro n
    refine ⟨97 + n.val, ?_, by omega, by omega⟩
    revert n
    decide +kernel
  obtain ⟨c, h2, h3⟩ := key ⟨i.toNat, by omega⟩
  refine ⟨c, ?_, h3⟩
  rw [show i = ((i.toNat : Nat) : Int) by omega]
  exact h2
mutual
def Tm.count : Tm → Nat
  | .mk _ ps => 1 + Tm.counts ps
def Tm.counts : List Tm → Nat
  | [] => 0
  | t :: r => t.count + Tm.counts r
end
mutual
def Tm.good : Tm → Prop
  | .mk n ps => goodName n ∧ ps.length ≤ 3 ∧ Tm.goods ps
def Tm.goods : List Tm → Prop
  | [] => True
  | t :: r => t.good ∧ Tm.goods r
end
theorem Tm.goods_iff : ∀ {l : List Tm}, Tm.goods l ↔ ∀ t ∈ l, t.good
  | [] => by simp [Tm.goods]
  | x :: r => by simp [Tm.goods, Tm.goods_iff (l := r)]
mutual
theorem Tm.good_ok : ∀ {t : Tm}, t.good → t.ok = true
  | .mk n ps, h => by
    simp only [Tm.good] at h
    simp only [Tm.ok, h.1.okS, Tm.goods_ok h.2.2, Bool.and_self]
theorem Tm.goods_ok : ∀ {l : List Tm}, Tm.goods l → Tm.oks l = true
  | [], _ => rfl
  | t :: r, h => by
    simp only [Tm.goods] at h
    simp only [Tm.oks, Tm.good_ok h.1, Tm.goods_ok h.2, Bool.and_self]
end
mutual
theorem Tm.depth_count : ∀ t : Tm, t.depth ≤ t.count
  | .mk n ps => by
    have := Tm.depths_counts ps
    simp only [Tm.depth, Tm.count]
    omega
theorem Tm.depths_counts : ∀ l : List Tm, Tm.depths l ≤ Tm.counts l
  | [] => by simp [Tm.depths]
  | t :: r => by
    have h1 := Tm.depth_count t
    have h2 := Tm.depths_counts r
    simp only [Tm.depths, Tm.counts]
    omega
end
theorem Tm.good_okD {t : Tm} (h : t.good) (hd : t.depth ≤ 60) : okD t.da := ⟨by rw [Tm.da_ok]; exact Tm.good_ok h, by rw [Tm.da_depth]; exact hd⟩
/-- the script -/
def ScAt (K : PySem.W.Frag) (H : Hp) (a : Addr) (ns : List Int) : Prop := (∃ o, H a = some (.frz o (.lst (ns.map V.int)))) ∨ ∀ H', SqL K H' a (ns.map V.int)
theorem ScAt.sq {K : PySem.W.Frag} {H : Hp} {a : Addr} {ns : List Int} (h : ScAt K H a ns) : SqL K H a (ns.map V.int) := by
  rcases h with ⟨o, h⟩ | h
  · exact .inl (.inr ⟨o, h⟩)
  · exact h H
theorem ScAt.mono {K : PySem.W.Frag} {H H' : Hp} {a : Addr} {ns : List Int} (t : TX H H') (h : ScAt K H a ns) : ScAt K H' a ns := by
  rcases h with ⟨o, h⟩ | h
  · exact .inl ⟨o, t.frz h⟩
  · exact .inr h
/-- where several ways meet behind a statement: what holds there is said -/
def tCut (t : TS) : TS := fun D σ H => ∃ P : St → Hp → Prop, t { D with nx := P } σ H ∧ ∀ σ' H', P σ' H' → D.nx σ' H'
theorem ps_cut {X : Cx} {st : Stmt} {t : TS} (h : PS X st t) : PS X st (tCut t) := by
  refine ⟨fun pins s σ H D I hw => ?_⟩
  obtain ⟨P, h1, h2⟩ := hw
  refine thn (h.run pins s σ H { D with nx := P } I h1) fun f s' q => ?_
  cases f with
  | next => obtain ⟨σ', H', I', q⟩ := q; exact ⟨σ', H', I', h2 _ _ q⟩
  | brk => exact q
  | cont => exact q
  | ret u => exact q
section
variable {X : Cx} {es : List Expr} {t : TA} {pos : Pos}
/-- a tuple of data -/
def tTupD (t : TA) : TE := fun σ H Q => t σ H fun xs H1 => ∃ ds, DasAt H1 xs ds ∧ ds.length ≤ 1000000 ∧ ∀ v H', Same H1 H' → DaAt H' v (.tup ds) → Q v H'
theorem pe_tupD {x1} (h : PA X es t) : PE X (.Tuple es x1 pos) (tTupD t) := by
  refine ⟨fun pins s σ H Q I hq => ?_⟩
  refine wpAny_Tuple_spliced (thn (h.run pos pins s σ H _ I hq) fun us s1 ⟨xs, H1, I1, r, ds, hd, z, q⟩ => ?_)
  have hz : xs.length ≤ sizeLine := by rw [hd.length, sizeLine_eq]; omega
  have hf : H1 s1.heap.objs.size = none := I1.hok.fresh (Nat.le_refl _)
  refine ⟨by rw [← r.length]; exact hz, .ref s1.heap.objs.size, upd H1 s1.heap.objs.size (.tup xs), I1.laid (t' := s1.toks) (fun b u e => Heap.get?_push_of_some _ e) (Nat.le_refl _) ?_, rfl, q _ _ (same_new hf _) (.tup upd_same (hd.mono (TX.new hf)))⟩
  exact ⟨hz, us, r, ⟨_, Heap.get?_push_size _ rfl, rfl, _, rfl⟩⟩
/-- a list, told by what stands there -/
def tLstA (t : TA) : TE := fun σ H Q => t σ H fun xs H1 => xs.length ≤ sizeLine ∧ ∀ p H', H1 p = none → Same H1 H' → H' p = some (.lst xs) → Q (.ref p) H'
theorem pe_lstA (h : PA X es t) : PE X (.List es pos) (tLstA t) := by
  refine ⟨fun pins s σ H Q I hq => ?_⟩
  refine wpAny_List_spliced (thn (h.run pos pins s σ H _ I hq) fun us s1 ⟨xs, H1, I1, r, z, q⟩ => ⟨by rw [← r.length]; exact z, ?_⟩)
  have hf : H1 s1.heap.objs.size = none := I1.hok.fresh (Nat.le_refl _)
  refine ⟨.ref s1.heap.objs.size, upd H1 s1.heap.objs.size (.lst xs), I1.laid (t' := s1.toks) (fun b u e => Heap.get?_push_of_some _ e) (Nat.le_refl _) ?_, rfl, q _ _ hf (same_new hf _) upd_same⟩
  exact ⟨z, us, 0, r, Heap.get?_push_size _ rfl⟩
end
theorem at0 {α : Type} {x : α} {l : List α} : atI (x :: l) 0 = some x := atI_nat (xs := x :: l) (j := 0) (v := x) rfl
theorem at1 {α : Type} {x y : α} {l : List α} : atI (x :: y :: l) 1 = some y := atI_nat (xs := x :: y :: l) (j := 1) (v := y) rfl
theorem at2 {α : Type} {x y z : α} {l : List α} : atI (x :: y :: z :: l) 2 = some z := atI_nat (xs := x :: y :: z :: l) (j := 2) (v := z) rfl
/-- a def of the head's facts -/
theorem At.of_fun {e : Ev} {x : Str} {ps : List Str} {st : Stmt} {f : Addr} {fd : FuncData} (F : FunD e.K x x (defArgs st) (defBody st) (defScope st) [] [] f fd) (m : e.mg x = some (.ref f))
    (h : ∀ (kV doc pm : Value) (an : Option Addr) (cdv ct : Value) (us : List Value), us.length = ps.length → bindArgs (PySem.W.fnOf x x (defArgs st) (defBody st) (defScope st) .none kV doc pm an cdv ct) ⟨us, []⟩ = pure (ps.zip us)) : At e x ps st :=
  ⟨f, fd, F, m, F.bindsN h⟩
end AB
namespace AB
open PySem PySem.Spec PyProof.Rows L2
section
variable {X : Cx}
/-- a list beside a new empty one -/
def rEqNil (K : PySem.W.Frag) (neg : Bool) : R2 := fun x y H Q => ∃ a b xs, x = .ref a ∧ y = .ref b ∧ SqL K H a xs ∧ H b = some (.lst []) ∧ Q (.bl (if neg then !xs.isEmpty else xs.isEmpty)) H
theorem op_eqNil (hu : X.A.units + 64 < cLine) : OpR X (compareOp .Eq) (rEqNil X.K false) := by
  intro pins s σ H x y v u Q I rx ry h
  obtain ⟨a, b, xs, rfl, rfl, hx, hy, q⟩ := h
  obtain rfl : v = Value.ref a := rx
  obtain rfl : u = Value.ref b := ry
  obtain ⟨its, r, ⟨o, n, g, hc, hd, hs⟩, z⟩ := I.list hx
  obtain ⟨its2, r2, ⟨o2, n2, g2, hc2, hd2, hs2⟩, z2⟩ := I.list (SqL.of hy)
  have h1 : s.heap.IsList a its.toArray := ⟨o, g, hc, n, hs⟩
  have h2 : s.heap.IsList b its2.toArray := ⟨o2, g2, hc2, n2, hs2⟩
  have e2 : its2 = [] := by cases r2; rfl
  subst e2
  cases r with
  | nil => exact SeqAt.eq_listAt (e := fun _ => true) h1 h2 rfl (by omega) (fun j h => absurd h (by simp)) ⟨.bl _, H, I, rfl, q⟩
  | cons r0 r => exact SeqAt.eq_list_lengthsAt h1 h2 (by simp) (by omega) ⟨.bl _, H, I, rfl, q⟩
theorem op_neNil (hu : X.A.units + 64 < cLine) : OpR X (compareOp .NotEq) (rEqNil X.K true) := by
  intro pins s σ H x y v u Q I rx ry h
  obtain ⟨a, b, xs, rfl, rfl, hx, hy, q⟩ := h
  obtain rfl : v = Value.ref a := rx
  obtain rfl : u = Value.ref b := ry
  obtain ⟨its, r, ⟨o, n, g, hc, hd, hs⟩, z⟩ := I.list hx
  obtain ⟨its2, r2, ⟨o2, n2, g2, hc2, hd2, hs2⟩, z2⟩ := I.list (SqL.of hy)
  have h1 : s.heap.IsList a its.toArray := ⟨o, g, hc, n, hs⟩
  have h2 : s.heap.IsList b its2.toArray := ⟨o2, g2, hc2, n2, hs2⟩
  have e2 : its2 = [] := by cases r2; rfl
  subst e2
  cases r with
  | nil => exact SeqAt.RcNeAt.lists (e := fun _ => true) h1 h2 rfl (by omega) (fun j h => absurd h (by simp)) _ _ _ _ ⟨.bl _, H, I, rfl, q⟩
  | cons r0 r => exact SeqAt.RcNeAt.lists_lengths h1 h2 (by simp) (by omega) _ _ _ _ ⟨.bl _, H, I, rfl, q⟩
end
end AB
namespace AB
open PySem PySem.Spec PyProof.Rows L2
/-- element by element -/
inductive All2 {α : Type} (R : α → V → Prop) : List α → List V → Prop
  | nil : All2 R [] []
  | cons {x v l vs} (h : R x v) (t : All2 R l vs) : All2 R (x :: l) (v :: vs)
theorem All2.imp {α : Type} {R S : α → V → Prop} (h : ∀ x v, R x v → S x v) : ∀ {l : List α} {vs : List V}, All2 R l vs → All2 S l vs
  | _, _, .nil => .nil
  | _, _, .cons a t => .cons (h _ _ a) (t.imp h)
theorem All2.append {α : Type} {R : α → V → Prop} : ∀ {l m : List α} {vs ws : List V}, All2 R l vs → All2 R m ws → All2 R (l ++ m) (vs ++ ws)
  | _, _, _, _, .nil, h => h
  | _, _, _, _, .cons a t, h => .cons a (t.append h)
theorem All2.length {α : Type} {R : α → V → Prop} : ∀ {l : List α} {vs : List V}, All2 R l vs → vs.length = l.length
  | _, _, .nil => rfl
  | _, _, .cons _ t => by simp [t.length]
theorem All2.das {α : Type} {H : Hp} {F : α → Da} : ∀ {l : List α} {vs : List V}, All2 (fun d w => DaAt H w (F d)) l vs → DasAt H vs (l.map F)
  | _, _, .nil => .nil
  | _, _, .cons a t => .cons a t.das
theorem All2.eqs {α : Type} {F : α → V} : ∀ {l : List α} {vs : List V}, All2 (fun d w => w = F d) l vs → vs = l.map F
  | _, _, .nil => rfl
  | _, _, .cons a t => by rw [a, t.eqs]; rfl
section
variable {α : Type} {K : PySem.W.Frag} {H0 : Hp} {l : List α} {Gm : α → Da} {pr : α → Bool} {R : α → V → Hp → Prop} {g : TG} {tt : TT} {te : TE} {vs : List Nat} {σ : St} {Qd : Addr → Hp → Prop}
/-- what a turn of a comprehension over such data has to show -/
def LcTurn (H0 : Hp) (l : List α) (Gm : α → Da) (pr : α → Bool) (R : α → V → Hp → Prop) (g : TG) (tt : TT) (te : TE) (vs : List Nat) (σ : St) : Prop :=
  ∀ x d H, d ∈ l → DaAt H x (Gm d) → Same H0 H → ∀ (Q' : V → Hp → Prop) (N : Hp → Prop), (pr d = true → ∀ y H', Same H H' → R d y H' → Q' y H') → (pr d = false → ∀ H', Same H H' → N H') →
    g x (wipe σ vs) H fun σ2 H2 => wipe σ2 vs = wipe σ vs ∧ tt σ2 H2 fun b H3 => if b = true then te σ2 H3 Q' else N H3
theorem lcg_step (hR : ∀ x v H H', TX H H' → R x v H → R x v H') (hz : l.length ≤ 1000000) (hs : LcTurn H0 l Gm pr R g tt te vs σ) {xs : List V} (h2 : DasAt H0 xs (l.map Gm)) {D : Addr} (hD : H0 D = none) (i : Nat) (x : V) (H : Hp) (hi : xs[i]? = some x)
    (p : Same H0 H ∧ ∃ acc, H D = some (.lst acc) ∧ All2 (fun d w => R d w H) ((l.take i).filter pr) acc) : g x (wipe σ vs) H fun σ2 H2 => wipe σ2 vs = wipe σ vs ∧ tt σ2 H2 fun b H3 =>
      if b = true then te σ2 H3 fun y H4 => ∃ acc, H4 D = some (.lst acc) ∧ acc.length < sizeLine ∧ (Same H0 (upd H4 D (.lst (acc ++ [y]))) ∧ ∃ acc', upd H4 D (.lst (acc ++ [y])) D = some (.lst acc') ∧ All2 (fun d w => R d w (upd H4 D (.lst (acc ++ [y])))) ((l.take (i + 1)).filter pr) acc')
        else (Same H0 H3 ∧ ∃ acc, H3 D = some (.lst acc) ∧ All2 (fun d w => R d w H3) ((l.take (i + 1)).filter pr) acc) := by
  obtain ⟨d0, h3', h4⟩ := h2.at hi
  obtain ⟨d, h3, rfl⟩ : ∃ d, l[i]? = some d ∧ d0 = Gm d := by
    rw [List.getElem?_map] at h3'
    cases e : l[i]? with
    | none => rw [e] at h3'; cases h3'
    | some x => rw [e] at h3'; exact ⟨x, rfl, (Option.some.inj h3').symm⟩
  obtain ⟨s1, acc, h5, h6⟩ := p
  have hl : (l.take (i + 1)).filter pr = (l.take i).filter pr ++ (if pr d = true then [d] else []) := by
    rw [List.take_add_one, h3, List.filter_append]
    simp only [Option.toList_some, List.filter_cons, List.filter_nil]
  have hal : acc.length < sizeLine := by
    have h7 := h6.length
    have h8 := List.length_filter_le pr (l.take i)
    rw [List.length_take] at h8
    rw [sizeLine_eq]
    omega
  refine hs x d H (List.mem_of_getElem? h3) (h4.mono (TX.of_same s1)) s1 _ _ (fun hp y H' s2 hy => ?_) (fun hp H' s2 => ?_)
  · refine ⟨acc, s2 _ _ h5, hal, same_put (s1.trans s2) hD _, acc ++ [y], upd_same, ?_⟩
    rw [hl, if_pos hp]
    have X := TX.lst (o := .lst (acc ++ [y])) (s2 _ _ h5)
    exact ((h6.imp fun x v h => hR _ _ _ _ (TX.of_same s2) h).append (.cons hy .nil)).imp fun x v h => hR _ _ _ _ X h
  · refine ⟨s1.trans s2, acc, s2 _ _ h5, ?_⟩
    rw [hl, if_neg (by rw [hp]; decide), List.append_nil]
    exact h6.imp fun x v h => hR _ _ _ _ (TX.of_same s2) h
/-- [F x for x in t if p] -/
theorem lc_tupG {v : V} (hv : DaAt H0 v (.tup (l.map Gm))) (hR : ∀ x v H H', TX H H' → R x v H → R x v H') (hz : l.length ≤ 1000000) (hs : LcTurn H0 l Gm pr R g tt te vs σ)
    (hd : ∀ D H ws, H0 D = none → Same H0 H → H D = some (.lst ws) → All2 (fun d w => R d w H) (l.filter pr) ws → Qd D H) :
    ∃ a, v = .ref a ∧ (∃ xs, SqT K H0 a xs) ∧ ∀ D, H0 D = none → ∃ W : Nat → Nat → Hp → Prop, (∃ m, W 0 m (upd H0 D (.lst []))) ∧ ∀ i m H, W i m H →
      ((Itt K a).stop i H ∧ Qd D H) ∨ ((Itt K a).go i H ∧ ∃ Nx : Hp → Prop, (∀ H', Nx H' → ∃ m', m' < m ∧ W (i + 1) m' H') ∧ ∀ x H', (Itt K a).yld i H x H' → g x (wipe σ vs) H' fun σ2 H2 => wipe σ2 vs = wipe σ vs ∧ tt σ2 H2 fun b H3 =>
        if b = true then te σ2 H3 fun y H4 => ∃ acc, H4 D = some (.lst acc) ∧ acc.length < sizeLine ∧ Nx (upd H4 D (.lst (acc ++ [y]))) else Nx H3) := by
  obtain ⟨a, xs, rfl, h1, h2⟩ := hv.tup_inv
  refine ⟨a, rfl, ⟨xs, SqT.of h1⟩, fun D hD => ?_⟩
  exact lc_tup (K := K) (a := a) (xs := xs) (Qd := fun H => Qd D H) (fun i H => Same H0 H ∧ ∃ acc, H D = some (.lst acc) ∧ All2 (fun d w => R d w H) ((l.take i).filter pr) acc)
    ⟨same_put (Same.refl H0) hD _, [], upd_same, .nil⟩ (fun i H _ p => SqT.of (p.1 _ _ h1)) (fun i x H hi p => lcg_step hR hz hs h2 hD i x H hi p) (fun H p => by
      obtain ⟨s, acc, h5, h6⟩ := p
      rw [h2.length, List.length_map, List.take_length] at h6
      exact hd D H acc hD s h5 h6)
/-- the same over a list -/
theorem lc_listG {a : Addr} (hv : LD H0 a (l.map Gm)) (hR : ∀ x v H H', TX H H' → R x v H → R x v H') (hz : l.length ≤ 1000000) (hs : LcTurn H0 l Gm pr R g tt te vs σ)
    (hd : ∀ D H ws, H0 D = none → Same H0 H → H D = some (.lst ws) → All2 (fun d w => R d w H) (l.filter pr) ws → Qd D H) :
    (∃ xs, SqL K H0 a xs) ∧ ∀ D, H0 D = none → ∃ W : Nat → Nat → Hp → Prop, (∃ m, W 0 m (upd H0 D (.lst []))) ∧ ∀ i m H, W i m H →
      ((Itl K a).stop i H ∧ Qd D H) ∨ ((Itl K a).go i H ∧ ∃ Nx : Hp → Prop, (∀ H', Nx H' → ∃ m', m' < m ∧ W (i + 1) m' H') ∧ ∀ x H', (Itl K a).yld i H x H' → g x (wipe σ vs) H' fun σ2 H2 => wipe σ2 vs = wipe σ vs ∧ tt σ2 H2 fun b H3 =>
        if b = true then te σ2 H3 fun y H4 => ∃ acc, H4 D = some (.lst acc) ∧ acc.length < sizeLine ∧ Nx (upd H4 D (.lst (acc ++ [y]))) else Nx H3) := by
  obtain ⟨xs, h1, h2⟩ := hv
  refine ⟨⟨xs, SqL.of h1⟩, fun D hD => ?_⟩
  exact lc_list (K := K) (a := a) (xs := xs) (Qd := fun H => Qd D H) (fun i H => Same H0 H ∧ ∃ acc, H D = some (.lst acc) ∧ All2 (fun d w => R d w H) ((l.take i).filter pr) acc)
    ⟨same_put (Same.refl H0) hD _, [], upd_same, .nil⟩ (fun i H _ p => SqL.of (p.1 _ _ h1)) (fun i x H hi p => lcg_step hR hz hs h2 hD i x H hi p) (fun H p => by
      obtain ⟨s, acc, h5, h6⟩ := p
      rw [h2.length, List.length_map, List.take_length] at h6
      exact hd D H acc hD s h5 h6)
end
end AB

set_option Elab.async false
set_option linter.all false
set_option maxRecDepth 100000
namespace AB
open PySem PySem.Spec PyProof.Rows L2
/-! ### parts_of -/
/-- xs put behind acc, each that isn't there yet -/
def dd {α : Type} [DecidableEq α] (acc : List α) : List α → List α
  | [] => acc
  | x :: r => dd (if x ∈ acc then acc else acc ++ [x]) r
theorem dd_snoc {α : Type} [DecidableEq α] : ∀ (xs : List α) (acc : List α) (x : α), dd acc (xs ++ [x]) = if x ∈ dd acc xs then dd acc xs else dd acc xs ++ [x]
  | [], acc, x => rfl
  | y :: r, acc, x => by
    show dd _ (r ++ [x]) = _
    rw [dd_snoc r]
    rfl
theorem dd_mem {α : Type} [DecidableEq α] : ∀ (xs : List α) (acc : List α) (x : α), x ∈ dd acc xs ↔ x ∈ acc ∨ x ∈ xs
  | [], acc, x => by simp [dd]
  | y :: r, acc, x => by
    show x ∈ dd _ r ↔ _
    rw [dd_mem r]
    split
    · rename_i h
      constructor
      · rintro (h1 | h1)
        · exact .inl h1
        · exact .inr (by simp [h1])
      · rintro (h1 | h1)
        · exact .inl h1
        · rcases List.mem_cons.mp h1 with rfl | h1
          · exact .inl h
          · exact .inr h1
    · rw [List.mem_append, List.mem_singleton, List.mem_cons, or_assoc]
theorem dd_len {α : Type} [DecidableEq α] : ∀ (xs : List α) (acc : List α), (dd acc xs).length ≤ acc.length + xs.length
  | [], acc => by simp [dd]
  | y :: r, acc => by
    have h := dd_len r (if y ∈ acc then acc else acc ++ [y])
    have h2 : (if y ∈ acc then acc else acc ++ [y]).length ≤ acc.length + 1 := by
      split
      · omega
      · rw [List.length_append, List.length_singleton]; exact Nat.le_refl _
    show (dd (if y ∈ acc then acc else acc ++ [y]) r).length ≤ _
    rw [List.length_cons]
    omega
theorem dd_map {α β : Type} [DecidableEq α] [DecidableEq β] (f : α → β) (hf : ∀ a b, f a = f b → a = b) : ∀ (xs acc : List α), (dd acc xs).map f = dd (acc.map f) (xs.map f)
  | [], acc => rfl
  | x :: r, acc => by
    show (dd _ r).map f = dd _ (r.map f)
    rw [dd_map f hf r]
    by_cases h : x ∈ acc
    · rw [if_pos h, if_pos (List.mem_map_of_mem h)]
    · have h2 : ¬ f x ∈ acc.map f := fun z => by
        obtain ⟨y, hy, e⟩ := List.mem_map.mp z
        exact h (hf _ _ e ▸ hy)
      rw [if_neg h, if_neg h2, List.map_append]
      rfl
mutual
/-- all terms that stand in a term, itself last, each once -/
def Tm.subs : Tm → List Tm
  | .mk n ps => Tm.subss [] ps ++ [.mk n ps]
def Tm.subss (acc : List Tm) : List Tm → List Tm
  | [] => acc
  | p :: r => Tm.subss (dd acc p.subs) r
end
theorem Tm.subss_snoc : ∀ (l acc : List Tm) (p : Tm), Tm.subss acc (l ++ [p]) = dd (Tm.subss acc l) p.subs
  | [], acc, p => rfl
  | q :: r, acc, p => by
    show Tm.subss _ (r ++ [p]) = _
    rw [Tm.subss_snoc r]
    rfl
mutual
theorem Tm.subs_len : ∀ t : Tm, t.subs.length ≤ t.count
  | .mk n ps => by
    have := Tm.subss_len ps []
    simp only [Tm.subs, Tm.count, List.length_append, List.length_singleton]
    simp only [List.length_nil] at this
    omega
theorem Tm.subss_len : ∀ (l acc : List Tm), (Tm.subss acc l).length ≤ acc.length + Tm.counts l
  | [], acc => by simp [Tm.subss]
  | p :: r, acc => by
    have h1 := Tm.subs_len p
    have h2 := Tm.subss_len r (dd acc p.subs)
    have h3 := dd_len p.subs acc
    simp only [Tm.subss, Tm.counts]
    omega
end
mutual
theorem Tm.subs_depth : ∀ (t x : Tm), x ∈ t.subs → x.depth ≤ t.depth
  | .mk n ps, x, h => by
    simp only [Tm.subs, List.mem_append, List.mem_singleton] at h
    rcases h with h | rfl
    · have h2 := Tm.subss_depth ps [] x h
      simp only [List.not_mem_nil, false_or] at h2
      simp only [Tm.depth]
      omega
    · exact Nat.le_refl _
theorem Tm.subss_depth : ∀ (l acc : List Tm) (x : Tm), x ∈ Tm.subss acc l → x ∈ acc ∨ x.depth ≤ Tm.depths l
  | [], acc, x, h => .inl h
  | p :: r, acc, x, h => by
    rcases Tm.subss_depth r _ x h with h1 | h1
    · rcases (dd_mem _ _ _).mp h1 with h1 | h1
      · exact .inl h1
      · have := Tm.subs_depth p x h1
        exact .inr (by simp only [Tm.depths]; omega)
    · exact .inr (by simp only [Tm.depths]; omega)
end
mutual
theorem Tm.subs_ok : ∀ (t x : Tm), t.ok = true → x ∈ t.subs → x.ok = true
  | .mk n ps, x, hk, h => by
    simp only [Tm.subs, List.mem_append, List.mem_singleton] at h
    rcases h with h | rfl
    · simp only [Tm.ok, Bool.and_eq_true] at hk
      rcases Tm.subss_ok ps [] x hk.2 h with h1 | h1
      · simp at h1
      · exact h1
    · exact hk
theorem Tm.subss_ok : ∀ (l acc : List Tm) (x : Tm), Tm.oks l = true → x ∈ Tm.subss acc l → x ∈ acc ∨ x.ok = true
  | [], acc, x, _, h => .inl h
  | p :: r, acc, x, hk, h => by
    simp only [Tm.oks, Bool.and_eq_true] at hk
    rcases Tm.subss_ok r _ x hk.2 h with h1 | h1
    · rcases (dd_mem _ _ _).mp h1 with h1 | h1
      · exact .inl h1
      · exact .inr (Tm.subs_ok p x hk.1 h1)
    · exact .inr h1
end
/-- a term that may be compared: its texts are texts, not too deep, not too many names -/
structure okT (t : Tm) : Prop where
  ok : t.ok = true
  dp : t.depth ≤ 50
  ct : t.count ≤ 100000
theorem okT.da {t : Tm} (h : okT t) : okD t.da := ⟨by rw [Tm.da_ok]; exact h.ok, by rw [Tm.da_depth]; exact Nat.le_trans h.dp (by decide)⟩
theorem Tm.counts_mem : ∀ {l : List Tm} {t : Tm}, t ∈ l → t.count ≤ Tm.counts l
  | [], _, h => by simp at h
  | x :: r, t, h => by
    simp only [Tm.counts]
    rcases List.mem_cons.mp h with rfl | h
    · omega
    · have := Tm.counts_mem h
      omega
theorem okT.part {t p : Tm} (h : okT t) (hp : p ∈ t.parts) : okT p := by
  refine ⟨Tm.parts_ok h.ok hp, Nat.le_trans (Nat.le_of_lt (Tm.parts_depth hp)) h.dp, ?_⟩
  cases t with
  | mk n ps =>
    have h1 := Tm.counts_mem (show p ∈ ps from hp)
    have h2 := h.ct
    simp only [Tm.count] at h2
    omega
theorem okT.subs {t x : Tm} (h : okT t) (hx : x ∈ t.subs) : okD x.da := ⟨by rw [Tm.da_ok]; exact Tm.subs_ok t x h.ok hx, by rw [Tm.da_depth]; exact Nat.le_trans (Tm.subs_depth t x hx) (Nat.le_trans h.dp (by decide))⟩
theorem okL_map {l : List Tm} (h : ∀ t ∈ l, okD t.da) : okL (l.map Tm.da) := fun d hd => by
  obtain ⟨t, ht, rfl⟩ := List.mem_map.mp hd
  exact h t ht
theorem mem_das {l : List Tm} {t : Tm} : t.da ∈ l.map Tm.da ↔ t ∈ l := ⟨fun h => by
  obtain ⟨x, hx, e⟩ := List.mem_map.mp h
  exact Tm.da_inj _ _ e ▸ hx, fun h => List.mem_map_of_mem h⟩
theorem Tm.da_tail (t : Tm) {l : List Da} (h : t.da = .tup l) : l = .str t.name :: t.parts.map Tm.da := by
  rw [Tm.da_eq] at h
  injection h with h
  exact h.symm
theorem take_snoc {α : Type} {l : List α} {i : Nat} {x : α} (h : l[i]? = some x) : l.take (i + 1) = l.take i ++ [x] := by
  rw [List.take_add_one, h]
  rfl
theorem map_get {α β : Type} {f : α → β} {l : List α} {i : Nat} {y : β} (h : (l.map f)[i]? = some y) : ∃ x, l[i]? = some x ∧ y = f x := by
  rw [List.getElem?_map] at h
  cases e : l[i]? with
  | none => rw [e] at h; cases h
  | some x =>
    rw [e] at h
    exact ⟨x, rfl, (Option.some.inj h).symm⟩
def spParts (n : Nat) : Sp := fun vs H Q _ => ∃ (v : V) (t : Tm), vs = [v] ∧ DaAt H v t.da ∧ okT t ∧ t.depth ≤ n ∧ ∀ r H', H r = none → Same H H' → LD H' r (t.subs.map Tm.da) → Q (.ref r) H'
theorem Tm.counts_take (l : List Tm) : ∀ i : Nat, Tm.counts (l.take i) ≤ Tm.counts l := by
  induction l with
  | nil => intro i; simp
  | cons z r ih =>
    intro i
    cases i with
    | zero => simp [Tm.counts]
    | succ i =>
      have := ih i
      simp only [List.take_succ_cons, Tm.counts]
      omega
theorem Tm.counts_parts (t : Tm) : Tm.counts t.parts + 1 = t.count := by
  cases t with
  | mk n ps => simp only [Tm.parts, Tm.count]; omega
/-! ### terms: is_name, names_in, is_term, need_term -/
def letter (c : Nat) : Bool := decide (97 ≤ c) && decide (c ≤ 122)
theorem letter_iff {c : Nat} : letter c = true ↔ 97 ≤ c ∧ c ≤ 122 := by simp [letter]
theorem abc_cps : ("abcdefghijklmnopqrstuvwxyz" : Str).cps.toList = List.range' 97 26 := by decide +kernel
theorem abc_mem {c : Nat} : c ∈ ("abcdefghijklmnopqrstuvwxyz" : Str).cps.toList ↔ letter c = true := by
  rw [abc_cps, List.mem_range'_1, letter_iff]
  omega
theorem abc_dec (c : Nat) : decide (c ∈ ("abcdefghijklmnopqrstuvwxyz" : Str).cps.toList) = letter c := by
  cases h : letter c with
  | true => exact decide_eq_true (abc_mem.mpr h)
  | false => exact decide_eq_false fun z => by rw [abc_mem.mp z] at h; cases h
/-- a name's test -/
def nameB (z : Str) : Bool := z.cps.toList.all letter && (decide (1 ≤ z.length) && decide (z.length ≤ 6))
theorem nameB_iff {z : Str} : nameB z = true ↔ goodName z := by
  unfold nameB goodName
  simp only [Bool.and_eq_true, List.all_eq_true, decide_eq_true_eq, letter_iff]
  constructor
  · rintro ⟨h, h1, h2⟩; exact ⟨h1, h2, h⟩
  · rintro ⟨h1, h2, h⟩; exact ⟨h, h1, h2⟩
mutual
/-- a term's test, however many names -/
def Tm.goodB : Tm → Bool
  | .mk n ps => (nameB n && decide (ps.length ≤ 3)) && Tm.goodsB ps
def Tm.goodsB : List Tm → Bool
  | [] => true
  | t :: r => t.goodB && Tm.goodsB r
end
mutual
theorem Tm.goodB_iff : ∀ {t : Tm}, t.goodB = true ↔ t.good
  | .mk n ps => by
    have h := Tm.goodsB_iff (l := ps)
    simp only [Tm.goodB, Tm.good, Bool.and_eq_true, decide_eq_true_eq, nameB_iff, h, and_assoc]
theorem Tm.goodsB_iff : ∀ {l : List Tm}, Tm.goodsB l = true ↔ Tm.goods l
  | [] => by simp [Tm.goodsB, Tm.goods]
  | t :: r => by simp only [Tm.goodsB, Tm.goods, Bool.and_eq_true, Tm.goodB_iff (t := t), Tm.goodsB_iff (l := r)]
end
mutual
/-- names of a length that a text may have -/
def Tm.short : Tm → Prop
  | .mk n ps => n.length ≤ 1000 ∧ ps.length ≤ 1000 ∧ Tm.shorts ps
def Tm.shorts : List Tm → Prop
  | [] => True
  | t :: r => t.short ∧ Tm.shorts r
end
theorem Tm.shorts_iff : ∀ {l : List Tm}, Tm.shorts l ↔ ∀ t ∈ l, t.short
  | [] => by simp [Tm.shorts]
  | x :: r => by simp [Tm.shorts, Tm.shorts_iff (l := r)]
mutual
theorem Tm.good_short : ∀ {t : Tm}, t.good → t.short
  | .mk n ps, h => by
    simp only [Tm.good] at h
    have := h.1.2.1
    exact ⟨by omega, by omega, Tm.goods_shorts h.2.2⟩
theorem Tm.goods_shorts : ∀ {l : List Tm}, Tm.goods l → Tm.shorts l
  | [], _ => trivial
  | t :: r, h => ⟨Tm.good_short h.1, Tm.goods_shorts h.2⟩
end
theorem Tm.short_name {t : Tm} (h : t.short) : t.name.length ≤ 1000 := by cases t with | mk n ps => exact h.1
theorem Tm.short_len {t : Tm} (h : t.short) : t.parts.length ≤ 1000 := by cases t with | mk n ps => exact h.2.1
theorem Tm.short_part {t p : Tm} (h : t.short) (hp : p ∈ t.parts) : p.short := by cases t with | mk n ps => exact Tm.shorts_iff.mp h.2.2 p hp
theorem Tm.count_part {t p : Tm} (hp : p ∈ t.parts) : p.count < t.count := by
  cases t with
  | mk n ps =>
    have h1 := Tm.counts_mem (show p ∈ ps from hp)
    simp only [Tm.count]
    omega
theorem Tm.depth_pos (t : Tm) : 0 < t.depth := by cases t with | mk n ps => simp only [Tm.depth]; omega
def spIsName : Sp := fun vs H Q _ => ∃ z : Str, vs = [.str z] ∧ z.length ≤ 1000000 ∧ Q (.bl (nameB z)) H
def spNames (n : Nat) : Sp := fun vs H Q _ => ∃ (v : V) (t : Tm), vs = [v] ∧ DaAt H v t.da ∧ t.short ∧ t.depth ≤ n ∧ ∀ H', Same H H' → Q (.int t.count) H'
def spIsTerm (n : Nat) : Sp := fun vs H Q _ => ∃ (v : V) (t : Tm), vs = [v] ∧ DaAt H v t.da ∧ t.short ∧ t.depth ≤ n ∧ ∀ H', Same H H' → Q (.bl t.goodB) H'
/-- a term that there must be: good, at most forty names -/
def Tm.fine (t : Tm) : Prop := t.good ∧ t.count ≤ 40
def spNeed (n : Nat) (C : Addr) : Sp := fun vs H Q E => ∃ (v : V) (t : Tm), vs = [v] ∧ DaAt H v t.da ∧ t.short ∧ t.depth ≤ n ∧
  (t.fine → ∀ H', Same H H' → Q .non H') ∧ (¬ t.fine → ∀ H', Same H H' → E (.ref C) none H')
theorem das_ints {H : Hp} : ∀ {ns : List Int} {vs : List V}, DasAt H vs (ns.map Da.int) → vs = ns.map V.int
  | [], _, h => h.nil_inv
  | n :: ns, _, h => by
    obtain ⟨v, r, rfl, h1, h2⟩ := h.cons_inv
    rw [h1.int_inv, das_ints h2]
    rfl
theorem counts_sum : ∀ l : List Tm, (l.map fun t => (t.count : Int)).sum = (Tm.counts l : Int)
  | [] => rfl
  | t :: r => by
    rw [List.map_cons, List.sum_cons, counts_sum r, Tm.counts]
    omega
theorem goodsB_take : ∀ {l : List Tm} {i : Nat} {p : Tm}, l[i]? = some p → Tm.goodsB (l.take (i + 1)) = (Tm.goodsB (l.take i) && p.goodB)
  | [], i, p, h => by simp at h
  | x :: r, 0, p, h => by
    simp at h; subst h
    simp [Tm.goodsB]
  | x :: r, i + 1, p, h => by
    have := goodsB_take (l := r) (i := i) (p := p) (by simpa using h)
    simp only [List.take_succ_cons, Tm.goodsB, this, Bool.and_assoc]
theorem goodsB_mem : ∀ {l : List Tm} {p : Tm}, p ∈ l → p.goodB = false → Tm.goodsB l = false
  | x :: r, p, h, e => by
    rcases List.mem_cons.mp h with rfl | h
    · simp only [Tm.goodsB, e, Bool.false_and]
    · simp only [Tm.goodsB, goodsB_mem h e, Bool.and_false]
end AB
namespace AB
open PySem PySem.Spec PyProof.Rows L2
/-! ### texts of terms -/
mutual
/-- the signs by which a term is written -/
def Tm.codes : Tm → List Nat
  | .mk n ps => n.cps.toList ++ Tm.codesB ps
def Tm.codesB : List Tm → List Nat
  | [] => []
  | p :: ps => 40 :: (p.codes ++ (Tm.codesT ps ++ [41]))
def Tm.codesT : List Tm → List Nat
  | [] => []
  | q :: r => 44 :: (q.codes ++ Tm.codesT r)
end
def Tm.codess (p : Tm) (ps : List Tm) : List Nat := p.codes ++ Tm.codesT ps
theorem Tm.codess_nil (p : Tm) : Tm.codess p [] = p.codes := by simp [Tm.codess, Tm.codesT]
theorem Tm.codess_cons (p q : Tm) (r : List Tm) : Tm.codess p (q :: r) = p.codes ++ 44 :: Tm.codess q r := by simp [Tm.codess, Tm.codesT]
theorem Tm.codes_nil (n : Str) : (Tm.mk n []).codes = n.cps.toList := by simp [Tm.codes, Tm.codesB]
theorem Tm.codes_cons (n : Str) (p : Tm) (ps : List Tm) : (Tm.mk n (p :: ps)).codes = n.cps.toList ++ 40 :: (Tm.codess p ps ++ [41]) := by simp [Tm.codes, Tm.codesB, Tm.codess]
def Tm.text (t : Tm) : Str := ⟨t.codes.toArray⟩
theorem text_cps (t : Tm) : t.text.cps.toList = t.codes := by simp [Tm.text]
theorem str_ext {x y : Str} (h : x.cps.toList = y.cps.toList) : x = y := by
  cases x with
  | mk a =>
    cases y with
    | mk b =>
      have : a = b := by
        apply Array.ext'
        exact h
      rw [this]
theorem text_len (t : Tm) : t.text.length = t.codes.length := by rw [len_cps, text_cps]
theorem join_one (s x : Str) : Txt.join s [x] = x := by
  show PySem.Builtin.Str.glued s [x] = x
  rw [StrLaws.glued_eq_join]
  rfl
theorem join_two (s x y : Str) (r : List Str) : Txt.join s (x :: y :: r) = x ++ s ++ Txt.join s (y :: r) := by
  show PySem.Builtin.Str.glued s (x :: y :: r) = x ++ s ++ PySem.Builtin.Str.glued s (y :: r)
  rw [StrLaws.glued_eq_join, StrLaws.glued_eq_join]
  rfl
theorem join_texts (p : Tm) : ∀ ps : List Tm, (Txt.join ("," : Str) ((p :: ps).map Tm.text)).cps.toList = Tm.codess p ps
  | [] => by
    simp only [List.map_cons, List.map_nil, Tm.codess_nil]
    rw [join_one, text_cps]
  | q :: r => by
    have h := join_texts q r
    simp only [List.map_cons, Tm.codess_cons] at h ⊢
    rw [join_two, app_cps, app_cps, text_cps, h]
    have e : ("," : Str).cps.toList = [44] := by decide +kernel
    rw [e]
    simp
theorem Tm.codes_pos : ∀ {t : Tm}, t.good → 0 < t.codes.length
  | .mk n ps, h => by
    have := h.1.1
    rw [len_cps] at this
    simp only [Tm.codes, List.length_append]
    omega
theorem codess_len (p : Tm) : ∀ ps : List Tm, (Tm.codess p ps).length = ((p :: ps).map fun t => t.codes.length).sum + ps.length
  | [] => by simp [Tm.codess_nil]
  | q :: r => by
    have h := codess_len q r
    simp only [Tm.codess_cons, List.length_append, List.length_cons, List.map_cons, List.sum_cons] at h ⊢
    omega
theorem sum_mem : ∀ {l : List Nat} {n : Nat}, n ∈ l → n ≤ l.sum
  | x :: r, n, h => by
    rw [List.sum_cons]
    rcases List.mem_cons.mp h with rfl | h
    · omega
    · have := sum_mem h
      omega
theorem codes_part {t p : Tm} (h : p ∈ t.parts) : p.codes.length + 2 ≤ t.codes.length := by
  cases t with
  | mk n ps =>
    cases ps with
    | nil => simp [Tm.parts] at h
    | cons q r =>
      have h1 : p.codes.length ∈ ((q :: r).map fun t => t.codes.length) := List.mem_map.mpr ⟨p, h, rfl⟩
      have h2 := sum_mem h1
      have h3 := codess_len q r
      simp only [Tm.codes_cons, List.length_append, List.length_cons, List.length_nil]
      omega
theorem das_texts {H : Hp} : ∀ {l : List Tm} {vs : List V}, DasAt H vs (l.map fun t => Da.str t.text) → vs = (l.map Tm.text).map V.str
  | [], _, h => h.nil_inv
  | t :: r, _, h => by
    obtain ⟨v, s, rfl, h1, h2⟩ := h.cons_inv
    rw [h1.str_inv, das_texts h2]
    rfl
/-- its text -/
def spShown (n : Nat) : Sp := fun vs H Q _ => ∃ (v : V) (t : Tm), vs = [v] ∧ DaAt H v t.da ∧ t.short ∧ t.depth ≤ n ∧ t.codes.length ≤ 1000000 ∧ ∀ H', Same H H' → Q (.str t.text) H'
end AB

set_option Elab.async false
set_option linter.all false
set_option maxRecDepth 100000
namespace AB
open PySem PySem.Spec PyProof.Rows L2
/-! ### reading a text -/
/-- terms with a comma between, the first ones acc -/
def pLa (f : List Nat → Option (Tm × List Nat)) : Nat → List Tm → List Nat → Option (List Tm × List Nat)
  | 0, _, _ => none
  | k + 1, acc, cs =>
    match f cs with
    | none => none
    | some (t, r) =>
      match r with
      | [] => some (acc ++ [t], [])
      | c :: r2 => if c = 44 then pLa f k (acc ++ [t]) r2 else some (acc ++ [t], c :: r2)
/-- a term, at most n deep, and what is left -/
def pT : Nat → List Nat → Option (Tm × List Nat)
  | 0, _ => none
  | n + 1, cs =>
    if 1 ≤ (cs.takeWhile letter).length ∧ (cs.takeWhile letter).length ≤ 6 then
      match cs.dropWhile letter with
      | [] => some (.mk ⟨(cs.takeWhile letter).toArray⟩ [], [])
      | c :: r =>
        if c = 40 then
          match pLa (pT n) (r.length + 1) [] r with
          | none => none
          | some (ps, q) =>
            match q with
            | [] => none
            | d :: q2 => if d = 41 ∧ ps.length ≤ 3 then some (.mk ⟨(cs.takeWhile letter).toArray⟩ ps, q2) else none
        else some (.mk ⟨(cs.takeWhile letter).toArray⟩ [], c :: r)
    else none
/-- what a reader of terms keeps: what is left is a tail, shorter -/
def Tail (f : List Nat → Option (Tm × List Nat)) (P : Tm → Prop) : Prop := ∀ cs t r, f cs = some (t, r) → P t ∧ ∃ p, cs = p ++ r ∧ p ≠ []
theorem pLa_tail {f : List Nat → Option (Tm × List Nat)} {P : Tm → Prop} (h : Tail f P) : ∀ (k : Nat) (acc : List Tm) (cs : List Nat) (ps : List Tm) (q : List Nat), (∀ t ∈ acc, P t) → pLa f k acc cs = some (ps, q) → (∀ t ∈ ps, P t) ∧ (∃ p, cs = p ++ q ∧ p ≠ []) ∧ ∀ c r, q = c :: r → c ≠ 44
  | 0, _, _, _, _, _, e => by simp [pLa] at e
  | k + 1, acc, cs, ps, q, ha, e => by
    simp only [pLa] at e
    cases hf : f cs with
    | none => rw [hf] at e; cases e
    | some tr =>
      obtain ⟨t, r⟩ := tr
      rw [hf] at e
      obtain ⟨h1, p, h2, h3⟩ := h cs t r hf
      have ha' : ∀ u ∈ acc ++ [t], P u := fun u hu => by
        rcases List.mem_append.mp hu with hu | hu
        · exact ha u hu
        · rw [List.mem_singleton.mp hu]; exact h1
      cases r with
      | nil =>
        simp only [Option.some.injEq, Prod.mk.injEq] at e
        obtain ⟨rfl, rfl⟩ := e
        exact ⟨ha', ⟨p, h2, h3⟩, fun c r z => by cases z⟩
      | cons c r2 =>
        simp only at e
        by_cases hc : c = 44
        · rw [if_pos hc] at e
          obtain ⟨k1, ⟨p2, k2, k3⟩, k4⟩ := pLa_tail h k _ _ _ _ ha' e
          exact ⟨k1, ⟨p ++ c :: p2, by rw [h2, k2]; simp, by simp⟩, k4⟩
        · rw [if_neg hc] at e
          simp only [Option.some.injEq, Prod.mk.injEq] at e
          obtain ⟨rfl, rfl⟩ := e
          exact ⟨ha', ⟨p, h2, h3⟩, fun c' r z => by cases z; exact hc⟩
theorem takeWhile_all {p : Nat → Bool} : ∀ (l : List Nat), ∀ x ∈ l.takeWhile p, p x = true
  | [], x, h => by simp at h
  | y :: r, x, h => by
    rw [List.takeWhile_cons] at h
    split at h
    · rename_i hy
      rcases List.mem_cons.mp h with rfl | h
      · exact hy
      · exact takeWhile_all r x h
    · simp at h
theorem name_of {cs : List Nat} (h : 1 ≤ (cs.takeWhile letter).length ∧ (cs.takeWhile letter).length ≤ 6) : goodName ⟨(cs.takeWhile letter).toArray⟩ := by
  have e : (⟨(cs.takeWhile letter).toArray⟩ : Str).length = (cs.takeWhile letter).length := by rw [len_cps]
  exact ⟨by rw [e]; exact h.1, by rw [e]; exact h.2, fun c hc => letter_iff.mp (takeWhile_all cs c (by simpa using hc))⟩
theorem pT_tail : ∀ n : Nat, Tail (pT n) (fun t => t.good ∧ t.depth ≤ n)
  | 0, cs, t, r, e => by simp [pT] at e
  | n + 1, cs, t, r, e => by
    have ih := pT_tail n
    simp only [pT] at e
    have esp : cs = cs.takeWhile letter ++ cs.dropWhile letter := List.takeWhile_append_dropWhile.symm
    by_cases h : 1 ≤ (cs.takeWhile letter).length ∧ (cs.takeWhile letter).length ≤ 6
    · rw [if_pos h] at e
      have hne : cs.takeWhile letter ≠ [] := fun z => by rw [z] at h; simp at h
      have hn := name_of h
      have one : (Tm.mk ⟨(cs.takeWhile letter).toArray⟩ []).good ∧ (Tm.mk ⟨(cs.takeWhile letter).toArray⟩ []).depth ≤ n + 1 := ⟨⟨hn, by simp, trivial⟩, by simp [Tm.depth, Tm.depths]⟩
      cases hr : cs.dropWhile letter with
      | nil =>
        rw [hr] at e
        simp only [Option.some.injEq, Prod.mk.injEq] at e
        obtain ⟨rfl, rfl⟩ := e
        exact ⟨one, _, by rw [hr] at esp; exact esp, hne⟩
      | cons c q =>
        rw [hr] at e esp
        simp only at e
        by_cases hc : c = 40
        · rw [if_pos hc] at e
          cases hL : pLa (pT n) (q.length + 1) [] q with
          | none => rw [hL] at e; cases e
          | some pq =>
            obtain ⟨ps, q1⟩ := pq
            rw [hL] at e
            simp only at e
            obtain ⟨k1, ⟨p2, k2, k3⟩, _⟩ := pLa_tail ih _ _ _ _ _ (by simp) hL
            cases q1 with
            | nil => cases e
            | cons d q2 =>
              simp only at e
              by_cases hd : d = 41 ∧ ps.length ≤ 3
              · rw [if_pos hd] at e
                simp only [Option.some.injEq, Prod.mk.injEq] at e
                obtain ⟨rfl, rfl⟩ := e
                refine ⟨⟨⟨hn, hd.2, Tm.goods_iff.mpr fun t ht => (k1 t ht).1⟩, ?_⟩, cs.takeWhile letter ++ c :: (p2 ++ [d]), ?_, by simp⟩
                · have := (Tm.depths_le (l := ps) (n := n)).mpr fun t ht => (k1 t ht).2
                  simp only [Tm.depth]
                  omega
                · calc cs = cs.takeWhile letter ++ c :: q := esp
                    _ = _ := by rw [k2]; simp
              · rw [if_neg hd] at e; cases e
        · rw [if_neg hc] at e
          simp only [Option.some.injEq, Prod.mk.injEq] at e
          obtain ⟨rfl, rfl⟩ := e
          exact ⟨one, _, esp, hne⟩
    · rw [if_neg h] at e; cases e
/-! what is written is read -/
theorem takeWhile_app {l r : List Nat} (h : ∀ x ∈ l, letter x = true) (h2 : ∀ c q, r = c :: q → letter c = false) : (l ++ r).takeWhile letter = l ∧ (l ++ r).dropWhile letter = r := by
  induction l with
  | nil =>
    cases r with
    | nil => simp
    | cons c q => simp [h2 c q rfl]
  | cons x l ih =>
    have hx := h x (by simp)
    obtain ⟨i1, i2⟩ := ih fun y hy => h y (by simp [hy])
    constructor
    · rw [List.cons_append, List.takeWhile_cons, if_pos hx, i1]
    · rw [List.cons_append, List.dropWhile_cons, if_pos hx, i2]
theorem goodName_all {z : Str} (h : goodName z) : ∀ x ∈ z.cps.toList, letter x = true := fun x hx => letter_iff.mpr (h.2.2 x hx)
theorem str_eta (z : Str) : (⟨z.cps.toList.toArray⟩ : Str) = z := by cases z; rfl
/-- what may stand behind a term -/
def Ends1 (r : List Nat) : Prop := ∀ c q, r = c :: q → letter c = false ∧ c ≠ 40
mutual
theorem pT_codes : ∀ (t : Tm) (n : Nat) (r : List Nat), t.good → t.depth ≤ n → Ends1 r → pT n (t.codes ++ r) = some (t, r)
  | .mk m ps, 0, r, hg, hd, hr => by simp [Tm.depth] at hd
  | .mk m ps, n + 1, r, hg, hd, hr => by
    obtain ⟨hm, hl, hp⟩ := hg
    have hl1 := hm.1
    have hl2 := hm.2.1
    rw [len_cps] at hl1 hl2
    cases ps with
    | nil =>
      rw [Tm.codes_nil]
      obtain ⟨e1, e2⟩ := takeWhile_app (goodName_all hm) fun c q z => (hr c q z).1
      simp only [pT, e1, e2]
      rw [if_pos ⟨hl1, hl2⟩, str_eta]
      cases r with
      | nil => rfl
      | cons c q => simp only [if_neg (hr c q rfl).2]
    | cons p ps =>
      rw [Tm.codes_cons]
      have e0 : m.cps.toList ++ 40 :: (Tm.codess p ps ++ [41]) ++ r = m.cps.toList ++ 40 :: (Tm.codess p ps ++ 41 :: r) := by simp
      rw [e0]
      obtain ⟨e1, e2⟩ := takeWhile_app (r := 40 :: (Tm.codess p ps ++ 41 :: r)) (goodName_all hm) fun c q z => by
        injection z with z _
        subst z
        decide
      simp only [pT, e1, e2]
      rw [if_pos ⟨hl1, hl2⟩, str_eta]
      simp only [if_true]
      have hd' : Tm.depths (p :: ps) ≤ n := by simp only [Tm.depth] at hd; omega
      have := pL_codes p ps n ((Tm.codess p ps ++ 41 :: r).length + 1) [] r hp hd' (by
        have := codess_len p ps
        simp only [List.length_append, List.length_cons]
        omega)
      rw [this]
      simp only [List.nil_append]
      rw [if_pos ⟨trivial, hl⟩]
theorem pL_codes : ∀ (p : Tm) (ps : List Tm) (n k : Nat) (acc : List Tm) (r : List Nat), Tm.goods (p :: ps) → Tm.depths (p :: ps) ≤ n → ps.length < k → pLa (pT n) k acc (Tm.codess p ps ++ 41 :: r) = some (acc ++ p :: ps, 41 :: r)
  | p, ps, n, 0, acc, r, hg, hd, hk => by omega
  | p, [], n, k + 1, acc, r, hg, hd, hk => by
    have h := pT_codes p n (41 :: r) hg.1 (by simp only [Tm.depths] at hd; omega) fun c q z => by
      injection z with z _
      subst z
      decide
    simp only [pLa, Tm.codess_nil, h]
    rw [if_neg (by decide)]
  | p, q :: ps, n, k + 1, acc, r, hg, hd, hk => by
    have e0 : Tm.codess p (q :: ps) ++ 41 :: r = p.codes ++ 44 :: (Tm.codess q ps ++ 41 :: r) := by rw [Tm.codess_cons]; simp
    have h := pT_codes p n (44 :: (Tm.codess q ps ++ 41 :: r)) hg.1 (by simp only [Tm.depths] at hd; omega) fun c q z => by
      injection z with z _
      subst z
      decide
    have h2 := pL_codes q ps n k (acc ++ [p]) r hg.2 (by simp only [Tm.depths] at hd ⊢; omega) (by simp only [List.length_cons] at hk; omega)
    simp only [pLa, e0, h]
    rw [if_pos trivial, h2]
    simp
end
theorem Tm.codesT_flat : ∀ ps : List Tm, Tm.codesT ps = (ps.map fun t => 44 :: t.codes).flatten
  | [] => rfl
  | q :: r => by simp [Tm.codesT, Tm.codesT_flat r]
mutual
theorem Tm.codes_le : ∀ {t : Tm}, t.good → t.codes.length + 2 ≤ 8 * t.count
  | .mk n [], h => by
    have := h.1.2.1
    rw [len_cps] at this
    simp only [Tm.codes, Tm.codesB, Tm.count, Tm.counts, List.append_nil]
    omega
  | .mk n (p :: ps), h => by
    have h0 := h.1.2.1
    rw [len_cps] at h0
    have h1 := Tm.codes_le h.2.2.1
    have h2 := Tm.codesT_le h.2.2.2
    simp only [Tm.codes, Tm.codesB, Tm.count, Tm.counts, List.length_append, List.length_cons, List.length_nil]
    omega
theorem Tm.codesT_le : ∀ {l : List Tm}, Tm.goods l → (Tm.codesT l).length ≤ 8 * Tm.counts l
  | [], _ => by simp [Tm.codesT]
  | t :: r, h => by
    have h1 := Tm.codes_le h.1
    have h2 := Tm.codesT_le h.2
    simp only [Tm.codesT, Tm.counts, List.length_append, List.length_cons]
    omega
end
theorem name_count {z : Str} (h : goodName z) : z.cps.toList.count 40 = 0 := by
  rw [List.count_eq_zero]
  intro hx
  have := h.2.2 40 hx
  omega
mutual
theorem Tm.codes_opens : ∀ {t : Tm}, t.good → t.codes.count 40 + 1 ≤ t.count
  | .mk n [], h => by
    simp only [Tm.codes, Tm.codesB, Tm.count, Tm.counts, List.append_nil, name_count h.1]
    omega
  | .mk n (p :: ps), h => by
    have h1 := Tm.codes_opens h.2.2.1
    have h2 := Tm.codesT_opens h.2.2.2
    have h3 : List.count 40 ([41] : List Nat) = 0 := by decide
    simp only [Tm.codes, Tm.codesB, Tm.count, Tm.counts, List.count_append, List.count_cons_self, name_count h.1, h3]
    omega
theorem Tm.codesT_opens : ∀ {l : List Tm}, Tm.goods l → (Tm.codesT l).count 40 ≤ Tm.counts l
  | [], _ => by simp [Tm.codesT]
  | t :: r, h => by
    have h1 := Tm.codes_opens h.1
    have h2 := Tm.codesT_opens h.2
    have h3 : List.count 40 (44 :: (t.codes ++ Tm.codesT r)) = List.count 40 (t.codes ++ Tm.codesT r) := by rw [List.count_cons]; rfl
    simp only [Tm.codesT, Tm.counts, h3, List.count_append]
    omega
end
/-- reading a whole text -/
def readR (n : Nat) (z : Str) : Option Tm :=
  if z.length ≤ 320 then
    match pT n z.cps.toList with
    | some (t, []) => if t.count ≤ 40 then some t else none
    | _ => none
  else none
theorem readR_text {t : Tm} {n : Nat} (h : t.fine) (hd : t.depth ≤ n) : readR n t.text = some t := by
  have h1 := Tm.codes_le h.1
  have h2 := h.2
  unfold readR
  rw [if_pos (by rw [text_len]; omega), text_cps]
  have := pT_codes t n [] h.1 hd fun c q z => by cases z
  rw [List.append_nil] at this
  rw [this]
  simp only [if_pos h2]
/-- what is read is what is written -/
theorem pLa_inv {f : List Nat → Option (Tm × List Nat)} (h : ∀ cs t r, f cs = some (t, r) → cs = t.codes ++ r) : ∀ (k : Nat) (acc : List Tm) (cs : List Nat) (ps : List Tm) (q : List Nat), pLa f k acc cs = some (ps, q) → ∃ t ts, ps = acc ++ t :: ts ∧ cs = Tm.codess t ts ++ q
  | 0, _, _, _, _, e => by simp [pLa] at e
  | k + 1, acc, cs, ps, q, e => by
    simp only [pLa] at e
    cases hf : f cs with
    | none => rw [hf] at e; cases e
    | some tr =>
      obtain ⟨t, r⟩ := tr
      rw [hf] at e
      have h1 := h cs t r hf
      cases r with
      | nil =>
        simp only [Option.some.injEq, Prod.mk.injEq] at e
        obtain ⟨rfl, rfl⟩ := e
        exact ⟨t, [], rfl, by rw [Tm.codess_nil]; exact h1⟩
      | cons c r2 =>
        simp only at e
        by_cases hc : c = 44
        · rw [if_pos hc] at e
          obtain ⟨t2, ts, h2, h3⟩ := pLa_inv h k _ _ _ _ e
          refine ⟨t, t2 :: ts, by rw [h2]; simp, ?_⟩
          rw [h1, hc, h3, Tm.codess_cons]
          simp
        · rw [if_neg hc] at e
          simp only [Option.some.injEq, Prod.mk.injEq] at e
          obtain ⟨rfl, rfl⟩ := e
          exact ⟨t, [], rfl, by rw [Tm.codess_nil]; exact h1⟩
theorem pT_inv : ∀ (n : Nat) (cs : List Nat) (t : Tm) (r : List Nat), pT n cs = some (t, r) → cs = t.codes ++ r
  | 0, cs, t, r, e => by simp [pT] at e
  | n + 1, cs, t, r, e => by
    have ih := pT_inv n
    simp only [pT] at e
    have esp : cs = cs.takeWhile letter ++ cs.dropWhile letter := List.takeWhile_append_dropWhile.symm
    by_cases h : 1 ≤ (cs.takeWhile letter).length ∧ (cs.takeWhile letter).length ≤ 6
    · rw [if_pos h] at e
      cases hr : cs.dropWhile letter with
      | nil =>
        rw [hr] at e esp
        simp only [Option.some.injEq, Prod.mk.injEq] at e
        obtain ⟨rfl, rfl⟩ := e
        rw [Tm.codes_nil]
        exact esp
      | cons c q =>
        rw [hr] at e esp
        simp only at e
        by_cases hc : c = 40
        · rw [if_pos hc] at e
          cases hL : pLa (pT n) (q.length + 1) [] q with
          | none => rw [hL] at e; cases e
          | some pq =>
            obtain ⟨ps, q1⟩ := pq
            rw [hL] at e
            simp only at e
            obtain ⟨t1, ts, h1, h2⟩ := pLa_inv ih _ _ _ _ _ hL
            cases q1 with
            | nil => cases e
            | cons d q2 =>
              simp only at e
              by_cases hd : d = 41 ∧ ps.length ≤ 3
              · rw [if_pos hd] at e
                simp only [Option.some.injEq, Prod.mk.injEq] at e
                obtain ⟨rfl, rfl⟩ := e
                rw [List.nil_append] at h1
                subst h1
                rw [Tm.codes_cons]
                calc cs = cs.takeWhile letter ++ c :: q := esp
                  _ = _ := by rw [hc, h2, hd.1]; simp
              · rw [if_neg hd] at e; cases e
        · rw [if_neg hc] at e
          simp only [Option.some.injEq, Prod.mk.injEq] at e
          obtain ⟨rfl, rfl⟩ := e
          rw [Tm.codes_nil]
          exact esp
    · rw [if_neg h] at e; cases e
/-- reading, by the reader of a part -/
theorem readR_iff {n : Nat} {z : Str} : readR n z = match pT n z.cps.toList with
    | some (t, []) => if t.count ≤ 40 then some t else none
    | _ => none := by
  unfold readR
  by_cases h : z.length ≤ 320
  · rw [if_pos h]
  · rw [if_neg h]
    cases e : pT n z.cps.toList with
    | none => rfl
    | some tr =>
      obtain ⟨t, r⟩ := tr
      cases r with
      | cons _ _ => rfl
      | nil =>
        have h1 := pT_inv n _ _ _ e
        have h2 := Tm.codes_le (pT_tail n _ _ _ e).1.1
        have h3 : z.length = t.codes.length := by rw [len_cps, h1, List.append_nil]
        show none = (if t.count ≤ 40 then some t else none)
        rw [if_neg (by omega)]
theorem pT_len {n : Nat} {acc : List Tm} {cs : List Nat} {k : Nat} {ps : List Tm} {q : List Nat} (h : pLa (pT n) k acc cs = some (ps, q)) : acc.length < ps.length := by
  obtain ⟨t, ts, h1, _⟩ := pLa_inv (pT_inv n) _ _ _ _ _ h
  rw [h1, List.length_append, List.length_cons]
  omega
end AB

set_option Elab.async false
set_option linter.all false
set_option maxRecDepth 100000
namespace AB
open PySem PySem.Spec PyProof.Rows L2
/-! ### the keys of a dict that stays -/
def ItR (ks : List V) (G : Hp → Prop) : It := ⟨fun i H => G H ∧ i < ks.length, fun i H x H' => H' = H ∧ ks[i]? = some x, fun i H => G H ∧ ks.length ≤ i⟩
theorem vals_size {ks : List V} {es : Array DictEntry} (h : Vals ks (es.toList.map (·.key))) : es.size = ks.length := by
  have := h.length
  rw [List.length_map, Array.length_toList] at this
  exact this.symm
theorem turn_keysR {P : Program} {w : World} {K : PySem.W.Frag} {tg : Expr} {d : Addr} {es : Array DictEntry} {ep : Nat} {ks : List V} {G : Hp → Prop} (it : Addr)
    (hG : ∀ (X : Cx) (pins : List (Addr × Obj)) (σ : St) (s : Shared) (H : Hp), X.prog = P → X.w = w → X.K = K → Inv X pins σ H s → G H → s.heap.DictRaw d es ep) (hk : Vals ks (es.toList.map (·.key))) :
    Turn P w K tg (ItR ks G) [it] it (fun i h => h.IsKeyIter it d i es.size ep) where
  mem := by simp
  obj := fun i h st b hb => by
    have e : b = it := by simpa using hb
    subst e
    obtain ⟨oi, e, c, dd⟩ := st
    exact ⟨oi, e, fun v z => by rw [dd] at z; cases z⟩
  keep := fun i h h' st k => st.at fun oi e => k it (by simp) oi e
  item := by
    intro X hP hw hK hc i pins s σ H E I hf st hg
    obtain ⟨hd, hi⟩ := hg
    have hm := hG X pins σ s H hP hw hK I hd
    subst hP hw hK
    obtain ⟨f0, f1, f2, f3, f4, f5⟩ := hf it (by simp)
    have hsz := vals_size hk
    have hi' : i < es.size := by omega
    refine PySem.wpAny_pyNext_keys_item_raw st hm hi' fun h' st' sb => ?_
    have I1 : Inv X pins σ H { s with heap := h' } := I.turned (t' := s.toks) (fun b ob hb e => (sb.2 b hb).trans e) f0 f1 f3 f4 f5
    obtain ⟨oi, e, c, dd⟩ := id st'
    obtain ⟨x, hx⟩ : ∃ x, ks[i]? = some x := ⟨ks[i], List.getElem?_eq_getElem hi⟩
    obtain ⟨u, hu, ru⟩ := Vals.get hk hx
    have eu : u = es[i].key := by
      rw [List.getElem?_map] at hu
      simp only [Array.getElem?_toList, Array.getElem?_eq_getElem hi', Option.map_some, Option.some.injEq] at hu
      exact hu.symm
    subst eu
    exact ⟨_, rfl, go_of (s := { s with heap := h' }) e c dd (by decide) ⟨x, H, I1, ru, ⟨rfl, hx⟩, st', fun b hb => (hf b hb).1⟩⟩
  done := by
    intro X hP hw hK hc i pins s σ H E I hf st hg
    obtain ⟨hd, hi⟩ := hg
    have hm := hG X pins σ s H hP hw hK I hd
    subst hP hw hK
    obtain ⟨f0, f1, f2, f3, f4, f5⟩ := hf it (by simp)
    have hsz := vals_size hk
    exact PySem.wpAny_pyNext_keys_end_raw (I.ok.hd hc) st hm (by omega) fun h' eb => ⟨rfl, I.turned (t' := s.toks) (fun b ob hb e => eb b ob hb e) f0 f1 f3 f4 f5⟩
  self := fun A i s Q E st h => wpAny_pyIter_keyiter st h
theorem walk_keysR {ks : List V} {G : Hp → Prop} : Walk (ItR ks G) ks.length G (fun i H x H' => H' = H ∧ ks[i]? = some x) where
  goes := fun i H hi g => ⟨g, hi⟩
  yields := fun i H x H' hi g y => y
  stops := fun H g => ⟨g, Nat.le_refl _⟩
/-! ### a dict of the module with text keys -/
structure TabAt (e : Ev) (x : Str) (d : Addr) (kvs : List (Str × V)) : Prop where
  mg : e.mg x = some (.ref d)
  ex : ∃ es n, KDict e.K e.w d es n ∧ Vals (kvs.map fun q => V.str q.1) (es.toList.map (·.key)) ∧ ∀ q ∈ kvs, ∃ u, PySem.W.nsIn e.K d q.1 = some (some u) ∧ RelV q.2 u
theorem find_none_of {ks : List Str} {z : Str} (hz : ¬ z ∈ ks) : ∀ {es : List DictEntry}, Vals (ks.map V.str) (es.map (·.key)) → es.find? (·.key.isStr z) = none ∧ es.any (·.refKey) = false := by
  induction ks with
  | nil =>
    intro es h
    cases es with
    | nil => exact ⟨rfl, rfl⟩
    | cons e r => cases h
  | cons k ks ih =>
    intro es h
    cases es with
    | nil => cases h
    | cons e r =>
      cases h with
      | cons h1 h2 =>
        obtain ⟨i1, i2⟩ := ih (fun hm => hz (List.mem_cons_of_mem _ hm)) h2
        obtain ⟨t, ht⟩ := h1
        have ht : e.key = Value.str k t := ht
        have hne : (e.key.isStr z) = false := by
          rw [ht]
          exact beq_eq_false_iff_ne.mpr fun q => hz (by rw [q]; exact List.mem_cons_self)
        have hrk : e.refKey = false := by
          unfold DictEntry.refKey
          rw [ht]
        constructor
        · rw [List.find?_cons, hne]
          exact i1
        · rw [List.any_cons, i2, hrk]
          rfl
theorem map_strs (kvs : List (Str × V)) : (kvs.map fun q => V.str q.1) = (kvs.map (·.1)).map V.str := by rw [List.map_map]; rfl
theorem TabAt.get {e : Ev} {x : Str} {d : Addr} {kvs : List (Str × V)} (h : TabAt e x d kvs) (z : Str) : ∃ es n, KDict e.K e.w d es n ∧ ∃ r, PySem.W.nsIn e.K d z = some r ∧ r.isSome = decide (z ∈ kvs.map (·.1)) := by
  obtain ⟨es, n, hk, hv, hg⟩ := h.ex
  refine ⟨es, n, hk, ?_⟩
  by_cases hz : z ∈ kvs.map (·.1)
  · obtain ⟨q, hq, rfl⟩ := List.mem_map.mp hz
    obtain ⟨u, h1, h2⟩ := hg q hq
    exact ⟨_, h1, by rw [decide_eq_true hz]; rfl⟩
  · rw [map_strs] at hv
    obtain ⟨h1, h2⟩ := find_none_of hz hv
    refine ⟨none, ?_, by rw [decide_eq_false hz]; rfl⟩
    unfold PySem.W.nsIn
    rw [hk.at_]
    simp only [h1, h2, Bool.false_eq_true, if_false]
section
variable {e : Ev} {X : Cx} {x : Str} {d : Addr} {kvs : List (Str × V)} {pos : Pos}
theorem pe_tab (h : TabAt e x d kvs) (hX : Of e X := by exact ⟨rfl, rfl, rfl, rfl, rfl⟩) (hg : Gl X x := by rfl) (hd : (x == ("__debug__" : Str)) = false := by decide) : PE X (.Name x pos) (tC (.ref d)) :=
  pe_glob hg (by rw [hX.mg]; exact h.mg) rfl hd
def rInTab (d : Addr) (kvs : List (Str × V)) (neg : Bool) : R2 := fun x y H Q => ∃ z, x = .str z ∧ y = .ref d ∧ Q (.bl (if neg then !decide (z ∈ kvs.map (·.1)) else decide (z ∈ kvs.map (·.1)))) H
theorem op_inTab (h : TabAt e x d kvs) (hX : Of e X := by exact ⟨rfl, rfl, rfl, rfl, rfl⟩) : OpR X (compareOp .In) (rInTab d kvs false) := by
  intro pins s σ H a b v u Q I rx ry q
  obtain ⟨z, rfl, rfl, q⟩ := q
  obtain ⟨es, n, hk, r, h1, h2⟩ := h.get z
  rw [← hX.K, ← hX.w] at hk
  rw [← hX.K] at h1
  exact op_in_kd hk pins s σ H _ _ v u Q I rx ry ⟨z, r, rfl, rfl, h1, by rw [h2]; exact q⟩
theorem op_notInTab (h : TabAt e x d kvs) (hX : Of e X := by exact ⟨rfl, rfl, rfl, rfl, rfl⟩) : OpR X (compareOp .NotIn) (rInTab d kvs true) := by
  intro pins s σ H a b v u Q I rx ry q
  obtain ⟨z, rfl, rfl, q⟩ := q
  obtain ⟨es, n, hk, r, h1, h2⟩ := h.get z
  rw [← hX.K, ← hX.w] at hk
  rw [← hX.K] at h1
  exact op_notIn_kd hk pins s σ H _ _ v u Q I rx ry ⟨z, r, rfl, rfl, h1, by rw [h2]; exact q⟩
def rIxTab (d : Addr) (kvs : List (Str × V)) : R2 := fun x y H Q => ∃ z v, x = .ref d ∧ y = .str z ∧ (z, v) ∈ kvs ∧ Q v H
theorem ix_tab (h : TabAt e x d kvs) (hX : Of e X := by exact ⟨rfl, rfl, rfl, rfl, rfl⟩) : IxR X (rIxTab d kvs) := by
  intro value slice pins s σ H a b v u Q I rx ry q hs
  obtain ⟨z, w, rfl, rfl, hm, q⟩ := q
  obtain ⟨es, n, hk, hv, hg⟩ := h.ex
  obtain ⟨u0, h1, h2⟩ := hg _ hm
  rw [← hX.K, ← hX.w] at hk
  rw [← hX.K] at h1
  exact ix_kdict value slice pins s σ H _ _ v u Q I rx ry ⟨d, z, w, rfl, rfl, ⟨es, n, u0, hk.at_, hk.lit, h1, h2⟩, q⟩ hs
/-- for x in the dict -/
def iTab (d : Addr) (ks : List V) (te : TE) : TI := fun σ H R => te σ H fun x H1 => x = .ref d ∧ R (ItR ks fun _ => True) H1
theorem pi_tab {tg : Expr} {n : Expr} {te : TE} (h : TabAt e x d kvs) (he : PE X n te) (hX : Of e X := by exact ⟨rfl, rfl, rfl, rfl, rfl⟩) : PI X tg n (iTab d (kvs.map fun q => V.str q.1) te) := by
  refine ⟨fun pins s σ H R I q => ?_⟩
  refine thn (he.run pins s σ H _ I q) fun u s1 ⟨y, H1, I1, ry, ey, q1⟩ => ?_
  subst ey
  obtain rfl : u = Value.ref d := ry
  obtain ⟨es, n, hk, hv, hg⟩ := h.ex
  have hraw : ∀ (X' : Cx) (pins : List (Addr × Obj)) (σ : St) (s : Shared) (H : Hp), X'.prog = X.prog → X'.w = X.w → X'.K = X.K → Inv X' pins σ H s → True → s.heap.DictRaw d es n := fun X' pins σ s H _ _ hK I _ =>
    ⟨_, I.kIn _ _ (by rw [hK, hX.K]; exact hk.at_), ⟨rfl, rfl, rfl⟩, rfl⟩
  exact PySem.wpAny_pyIter_dict_raw hk.low (hraw X pins σ s1 H1 rfl rfl rfl I1 trivial) (pi_one (tk := s1.toks) I1 _ (turn_keysR _ hraw hv) ⟨_, Heap.get?_push_size _ rfl, rfl, rfl⟩ q1)
end
/-- from the head's facts -/
theorem keyOf_keys {P : Params} : ∀ {l : List DictEntry} {ks : List Str}, l.map He.keyOf = He.keysIn P ks → Vals (ks.map V.str) (l.map (·.key))
  | [], [], _ => .nil
  | [], _ :: _, h => by cases h
  | _ :: _, [], h => by cases h
  | e :: r, k :: ks, h => by
    have h1 : He.keyOf e :: r.map He.keyOf = some (k, PyData.keyHash P k) :: He.keysIn P ks := h
    injection h1 with h2 h3
    refine .cons ?_ (keyOf_keys h3)
    unfold He.keyOf at h2
    split at h2
    · rename_i x t q
      have h4 := Option.some.inj h2
      obtain ⟨h5, h6⟩ := Prod.mk.inj h4
      show L2.RelV (V.str k) e.key
      rw [q, h5]
      exact ⟨t, rfl⟩
    · cases h2
theorem dicW_keys {K : PySem.W.Frag} {w : World} {a : Addr} {ks : List Str} (h : He.dicW K a = some (He.keysIn w.params ks)) : ∃ es n, KDict K w a es n ∧ Vals (ks.map V.str) (es.toList.map (·.key)) := by
  obtain ⟨es, n, hk⟩ := He.dicW_ok h
  refine ⟨es, n, hk, ?_⟩
  unfold He.dicW at h
  rw [hk.at_] at h
  have h1 : (match decide (("dict" : String) = "dict") && ((#[] : Array (Option Value)).isEmpty && !(a == sysModules)) with
    | true => some (es.toList.map He.keyOf)
    | false => none) = some (He.keysIn w.params ks) := h
  rw [show (a == sysModules) = false from hk.low] at h1
  exact keyOf_keys (Option.some.inj h1)
theorem tab_of {fa : List He.Fa} {fn : List He.DefD} {ts : List He.Tab} {P : Program} {w : World} {K : PySem.W.Frag} {h base : Heap} {mg : Str → Option Value} (X : K.In h) (G : h.Ns mainGlobals mg) (c : He.SaysT fa fn ts w K) {x : Str} {kvs : List (Str × He.Dv)} (i : Nat)
    (ht : ts[i]? = some (fun K => He.ga K x, kvs.map (·.1))) (hx : (He.Fa.glo x).ok K = true) (hv : He.valsB K (He.ga K x) kvs = true) : TabAt ⟨P, w, K, mg, base⟩ x (He.ga K x) (kvs.map fun q => (q.1, q.2.v K)) := by
  have e : ts.map (fun t => He.dicW K (t.1 K)) = ts.map fun t => some (He.keysIn w.params t.2) := congrArg (fun z : He.AlT => z.2) c
  have e2 : (ts.map fun t => He.dicW K (t.1 K))[i]? = (ts.map fun t => some (He.keysIn w.params t.2))[i]? := by rw [e]
  rw [List.getElem?_map, List.getElem?_map, ht] at e2
  obtain ⟨es, n, hk, hv2⟩ := dicW_keys (Option.some.inj e2)
  refine ⟨He.glo_ok X G hx, es, n, hk, ?_, fun q hq => ?_⟩
  · rw [List.map_map]
    rw [List.map_map] at hv2
    exact hv2
  · obtain ⟨q0, h0, rfl⟩ := List.mem_map.mp hq
    exact He.valsB_ok hv h0
end AB
namespace AB
open PySem L2
theorem hu1 {A : Around} {k : Nat} (hr : Room k A) : A.units + 1 < cLine := by have := hr.un; omega
end AB
namespace AB
open PySem PySem.Spec PyProof.Rows L2
/-! ### the head's facts: hookT and one more Bool -/
structure SaysY (fa : List He.Fa) (fn : List He.DefD) (ts : List He.Tab) (ex : PySem.W.Frag → Bool) (w : World) (K : PySem.W.Frag) : Prop where
  t : He.SaysT fa fn ts w K
  more : ex K = true
abbrev AlY : Type := He.AlT × Bool
def obsY (n : Nat) (fa : List He.Fa) (fn : List He.DefD) (ts : List He.Tab) (ex : PySem.W.Frag → Bool) (g : Addr → Option Obj) : AlY := (He.obsT fa fn ts (He.frG g (He.asD g n)), ex (He.frG g (He.asD g n)))
def valY (fn : List He.DefD) (ts : List He.Tab) (w : World) : AlY := (He.valT fn ts w, true)
def hookY (n : Nat) (fa : List He.Fa) (fn : List He.DefD) (ts : List He.Tab) (ex : PySem.W.Frag → Bool) : PySem.W.Hook where
  α := AlY
  obs := fun s => obsY n fa fn ts ex s.heap.get?
  val := fun w => valY fn ts w
  says := fun w h => ∃ K : PySem.W.Frag, K.In h ∧ SaysY fa fn ts ex w K
  of := fun _ _ e => ⟨_, He.frG_in, ⟨congrArg (fun z : AlY => z.1) e, congrArg (fun z : AlY => z.2) e⟩⟩
  keeps := fun _ _ _ ⟨K, hK, c⟩ k => ⟨K, PySem.W.Frag.In.keeps hK k, c⟩
theorem obsY_eq {n : Nat} {fa : List He.Fa} {fn : List He.DefD} {ts : List He.Tab} {ex : PySem.W.Frag → Bool} {g : Addr → Option Obj} {s : Shared} (h : ∀ a, g a = s.heap.get? a) : obsY n fa fn ts ex g = (hookY n fa fn ts ex).obs s := by
  have e : g = s.heap.get? := funext h
  rw [e] <;> rfl
end AB
namespace AB
open PySem PySem.Spec PyProof.Rows L2
section
variable {X : Cx}
/-- k in d: a dict of texts, ints -/
def rInK (neg : Bool) : R2 := fun x y H Q => ∃ a o, y = .ref a ∧ DGet H a x o ∧ Q (.bl (if neg then !o.isSome else o.isSome)) H
theorem op_inK (hu : X.A.units + 65 < cLine) : OpR X (compareOp .In) (rInK false) := by
  intro pins s σ H x y v u Q I rx ry h
  obtain ⟨a, o, rfl, g, q⟩ := h
  cases ry
  exact d_in (by omega) I g rx fun s' I' => ⟨.bl _, H, I', rfl, q⟩
theorem op_notInK (hu : X.A.units + 65 < cLine) : OpR X (compareOp .NotIn) (rInK true) := by
  intro pins s σ H x y v u Q I rx ry h
  obtain ⟨a, o, rfl, g, q⟩ := h
  cases ry
  exact d_notIn (by omega) I g rx fun s' I' => ⟨.bl _, H, I', rfl, q⟩
end
end AB

set_option Elab.async false
set_option linter.all false
set_option maxRecDepth 100000
namespace AB
open PySem PySem.Spec PyProof.Rows L2
/-! ### facts -/
inductive Wd where
  | alike | unlike | most | over
deriving DecidableEq
def Wd.name : Wd → Str
  | .alike => "alike" | .unlike => "unlike" | .most => "most" | .over => "over"
def Wd.sign : Wd → Str
  | .alike => "=" | .unlike => "!=" | .most => "<=" | .over => ">"
def Wd.opp : Wd → Wd
  | .alike => .unlike | .unlike => .alike | .most => .over | .over => .most
theorem Wd.opp_opp (w : Wd) : w.opp.opp = w := by cases w <;> rfl
def signsK : List (Str × V) := [("alike", .str "="), ("unlike", .str "!="), ("most", .str "<="), ("over", .str ">")]
def oppsK : List (Str × V) := [("alike", .str "unlike"), ("unlike", .str "alike"), ("most", .str "over"), ("over", .str "most")]
theorem Wd.in_signs (w : Wd) : (w.name, V.str w.sign) ∈ signsK := by cases w <;> decide +kernel
theorem Wd.in_opps (w : Wd) : (w.name, V.str w.opp.name) ∈ oppsK := by cases w <;> decide +kernel
theorem Wd.name_in (w : Wd) : w.name ∈ signsK.map (·.1) := by cases w <;> decide +kernel
theorem Wd.of_name {z : Str} (h : z ∈ signsK.map (·.1)) : ∃ w : Wd, z = w.name := by
  simp only [signsK, List.map_cons, List.map_nil, List.mem_cons, List.not_mem_nil, or_false] at h
  rcases h with rfl | rfl | rfl | rfl
  · exact ⟨.alike, rfl⟩
  · exact ⟨.unlike, rfl⟩
  · exact ⟨.most, rfl⟩
  · exact ⟨.over, rfl⟩
theorem Wd.name_inj {a b : Wd} (h : a.name = b.name) : a = b := by revert h; cases a <;> cases b <;> decide +kernel
theorem Wd.sign_inj {a b : Wd} (h : a.sign = b.sign) : a = b := by revert h; cases a <;> cases b <;> decide +kernel
theorem Wd.ok (w : Wd) : okS w.name = true := by cases w <;> decide +kernel
theorem Wd.name_len (w : Wd) : w.name.length ≤ 6 := by cases w <;> decide +kernel
theorem Wd.sign_len (w : Wd) : 1 ≤ w.sign.length ∧ w.sign.length ≤ 2 := by cases w <;> decide +kernel
theorem Wd.sign_no32 (w : Wd) : 32 ∉ w.sign.cps.toList := by cases w <;> decide +kernel
structure Fc where
  w : Wd
  l : Tm
  r : Tm
deriving DecidableEq
def Fc.da (f : Fc) : Da := .tup [.str f.w.name, f.l.da, f.r.da]
def Fc.opp (f : Fc) : Fc := ⟨f.w.opp, f.l, f.r⟩
theorem Fc.opp_opp (f : Fc) : f.opp.opp = f := by cases f with | mk w l r => simp only [Fc.opp, Wd.opp_opp]
def Fc.text (f : Fc) : Str := f.l.text ++ (" " : Str) ++ f.w.sign ++ (" " : Str) ++ f.r.text
def Fc.good (f : Fc) : Prop := f.l.good ∧ f.r.good
def Fc.fine (f : Fc) : Prop := f.l.fine ∧ f.r.fine
def Fc.deep (n : Nat) (f : Fc) : Prop := f.l.depth ≤ n ∧ f.r.depth ≤ n
theorem Fc.fine.good {f : Fc} (h : f.fine) : f.good := ⟨h.1.1, h.2.1⟩
theorem Fc.da_inj {a b : Fc} (h : a.da = b.da) : a = b := by
  cases a with
  | mk w l r =>
    cases b with
    | mk w2 l2 r2 =>
      simp only [Fc.da, Da.tup.injEq, List.cons.injEq, Da.str.injEq, and_true] at h
      obtain ⟨h1, h2, h3⟩ := h
      rw [Wd.name_inj h1, Tm.da_inj _ _ h2, Tm.da_inj _ _ h3]
theorem Fc.okD {f : Fc} (h : f.good) (hd : f.deep 58) : okD f.da := by
  have h1 := Tm.good_okD h.1 (by have := hd.1; omega)
  have h2 := Tm.good_okD h.2 (by have := hd.2; omega)
  refine okD.tup fun d hd2 => ?_
  simp only [List.mem_cons, List.not_mem_nil, or_false] at hd2
  rcases hd2 with rfl | rfl | rfl
  · exact ⟨by simp only [Da.ok]; exact f.w.ok, by simp only [Da.depth]; omega⟩
  · exact ⟨h1.1, by rw [Tm.da_depth]; have := hd.1; omega⟩
  · exact ⟨h2.1, by rw [Tm.da_depth]; have := hd.2; omega⟩
/-- a fact that is read -/
def Wd.of (s : Str) : Option Wd := if s = "=" then some .alike else if s = "!=" then some .unlike else if s = "<=" then some .most else if s = ">" then some .over else none
theorem Wd.of_sign (w : Wd) : Wd.of w.sign = some w := by cases w <;> decide +kernel
theorem Wd.of_some {s : Str} {w : Wd} (h : Wd.of s = some w) : s = w.sign := by
  unfold Wd.of at h
  split at h
  · rename_i e; cases h; exact e
  · split at h
    · rename_i e; cases h; exact e
    · split at h
      · rename_i e; cases h; exact e
      · split at h
        · rename_i e; cases h; exact e
        · cases h
def readW (n : Nat) : List Str → Option Fc
  | [a, s, b] => (match Wd.of s with
    | some w => (match readR n a with
      | some t => (match readR n b with
        | some u => some ⟨w, t, u⟩
        | none => none)
      | none => none)
    | none => none)
  | _ => none
def readF (n : Nat) (z : Str) : Option Fc := readW n (Txt.split z " ")
mutual
/-- the signs of a written term: letters, brackets, commas -/
theorem Tm.codes_signs : ∀ {t : Tm}, t.good → ∀ c ∈ t.codes, letter c = true ∨ c = 40 ∨ c = 41 ∨ c = 44
  | .mk n [], h, c, hc => by
    simp only [Tm.codes, Tm.codesB, List.append_nil] at hc
    exact .inl (goodName_all h.1 c hc)
  | .mk n (p :: ps), h, c, hc => by
    simp only [Tm.codes, Tm.codesB, List.mem_append, List.mem_cons, List.not_mem_nil, or_false] at hc
    rcases hc with hc | hc | hc | hc | hc
    · exact .inl (goodName_all h.1 c hc)
    · exact .inr (.inl hc)
    · exact Tm.codes_signs h.2.2.1 c hc
    · exact Tm.codesT_signs h.2.2.2 c hc
    · exact .inr (.inr (.inl hc))
theorem Tm.codesT_signs : ∀ {l : List Tm}, Tm.goods l → ∀ c ∈ Tm.codesT l, letter c = true ∨ c = 40 ∨ c = 41 ∨ c = 44
  | [], _, c, hc => by simp [Tm.codesT] at hc
  | t :: r, h, c, hc => by
    simp only [Tm.codesT, List.mem_append, List.mem_cons] at hc
    rcases hc with hc | hc | hc
    · exact .inr (.inr (.inr hc))
    · exact Tm.codes_signs h.1 c hc
    · exact Tm.codesT_signs h.2 c hc
end
theorem Tm.no32 {t : Tm} (h : t.good) : 32 ∉ t.codes := fun hc => by
  rcases Tm.codes_signs h 32 hc with h | h | h | h
  · revert h; decide
  · cases h
  · cases h
  · cases h
theorem Fc.split {f : Fc} (h : f.good) : Txt.split f.text " " = [f.l.text, f.w.sign, f.r.text] := by
  have e1 : f.text = Txt.join (" " : Str) [f.l.text, f.w.sign, f.r.text] := by
    rw [join_two, join_two, join_one]
    refine str_ext ?_
    simp only [Fc.text, app_cps, List.append_assoc]
  rw [e1]
  refine TL.split_join (y := (" " : Str)) (s := 32) (S := []) (by decide +kernel) (by decide +kernel) (by simp) fun p hp => ?_
  simp only [List.mem_cons, List.not_mem_nil, or_false] at hp
  rcases hp with rfl | rfl | rfl
  · show 32 ∉ f.l.text.cps.toList
    rw [text_cps]
    exact Tm.no32 h.1
  · exact f.w.sign_no32
  · show 32 ∉ f.r.text.cps.toList
    rw [text_cps]
    exact Tm.no32 h.2
theorem readF_text {f : Fc} {n : Nat} (h : f.fine) (hd : f.deep n) : readF n f.text = some f := by
  unfold readF
  rw [Fc.split h.good]
  simp only [readW, Wd.of_sign, readR_text h.1 hd.1, readR_text h.2 hd.2]
/-! parts of a text -/
theorem spl_sub (q : Nat → Bool) : ∀ (l acc p : List Nat), p ∈ TL.spl [32] 0 acc l → p.countP q ≤ (acc ++ l).countP q
  | [], acc, p, h => by
    rw [TL.spl_nil] at h
    rw [List.mem_singleton.mp h, List.append_nil]
    exact Nat.le_refl _
  | c :: r, acc, p, h => by
    cases hp : TL.pre [32] (c :: r) with
    | true =>
      rw [TL.spl_hit hp] at h
      rw [List.countP_append]
      rcases List.mem_cons.mp h with rfl | h
      · omega
      · have := spl_sub q r [] p h
        rw [List.nil_append] at this
        rw [List.countP_cons]
        omega
    | false =>
      rw [TL.spl_miss hp] at h
      have := spl_sub q r (acc ++ [c]) p h
      rw [List.append_assoc] at this
      exact this
theorem split_sub (q : Nat → Bool) {z p : Str} (h : p ∈ Txt.split z " ") : p.cps.toList.countP q ≤ z.cps.toList.countP q := by
  have h1 : (" " : Str).cps.toList = [32] := by decide +kernel
  have h2 := TL.split_spl z (" " : Str) (by show (" " : Str).cps.toList ≠ []; rw [h1]; simp) (TL.kind_ok (by decide +kernel))
  have h3 : p.cps.toList ∈ (Txt.split z " ").map TL.tl := List.mem_map_of_mem (f := TL.tl) h
  rw [h2] at h3
  have h4 : p.cps.toList ∈ TL.spl [32] 0 [] z.cps.toList := by
    have : TL.tl (" " : Str) = [32] := h1
    rw [this] at h3
    exact h3
  have := spl_sub q _ _ _ h4
  rw [List.nil_append] at this
  exact this
theorem split_len {z p : Str} (h : p ∈ Txt.split z " ") : p.length ≤ z.length := by
  have := split_sub (fun _ => true) h
  simp only [List.countP_true] at this
  rw [len_cps, len_cps]
  exact this
theorem split_count {a : Nat} {z p : Str} (h : p ∈ Txt.split z " ") : p.cps.toList.count a ≤ z.cps.toList.count a := split_sub _ h
mutual
/-- as many names as brackets and commas, and one -/
theorem Tm.codes_marks : ∀ {t : Tm}, t.good → t.codes.count 40 + t.codes.count 44 + 1 = t.count
  | .mk n [], h => by
    have h4 : n.cps.toList.count 44 = 0 := List.count_eq_zero.mpr fun hx => by have := h.1.2.2 44 hx; omega
    simp only [Tm.codes, Tm.codesB, Tm.count, Tm.counts, List.append_nil, name_count h.1, h4]
  | .mk n (p :: ps), h => by
    have h4 : n.cps.toList.count 44 = 0 := List.count_eq_zero.mpr fun hx => by have := h.1.2.2 44 hx; omega
    have h1 := Tm.codes_marks h.2.2.1
    have h2 := Tm.codesT_marks h.2.2.2
    have h3 : List.count 40 ([41] : List Nat) = 0 := by decide
    have h5 : List.count 44 ([41] : List Nat) = 0 := by decide
    have h6 : List.count 44 (40 :: (p.codes ++ (Tm.codesT ps ++ [41]))) = List.count 44 (p.codes ++ (Tm.codesT ps ++ [41])) := by rw [List.count_cons]; rfl
    simp only [Tm.codes, Tm.codesB, Tm.count, Tm.counts, List.count_append, List.count_cons_self, name_count h.1, h3, h4, h6, h5]
    omega
theorem Tm.codesT_marks : ∀ {l : List Tm}, Tm.goods l → (Tm.codesT l).count 40 + (Tm.codesT l).count 44 = Tm.counts l
  | [], _ => by simp [Tm.codesT, Tm.counts]
  | t :: r, h => by
    have h1 := Tm.codes_marks h.1
    have h2 := Tm.codesT_marks h.2
    have h3 : List.count 40 (44 :: (t.codes ++ Tm.codesT r)) = List.count 40 (t.codes ++ Tm.codesT r) := by rw [List.count_cons]; rfl
    simp only [Tm.codesT, Tm.counts, h3, List.count_append, List.count_cons_self]
    omega
end
/-- what a law reads: no bound of names -/
def dueR (n : Nat) (z : Str) : Option Tm := match pT n z.cps.toList with
  | some (t, []) => some t
  | _ => none
theorem dueR_read {n : Nat} {z : Str} (h : z.cps.toList.count 40 + z.cps.toList.count 44 ≤ 39) : dueR n z = readR n z := by
  rw [readR_iff]
  unfold dueR
  cases e : pT n z.cps.toList with
  | none => rfl
  | some tr =>
    obtain ⟨t, r⟩ := tr
    cases r with
    | cons _ _ => rfl
    | nil =>
      have h1 := pT_inv n _ _ _ e
      have h2 := Tm.codes_marks (pT_tail n _ _ _ e).1.1
      rw [List.append_nil] at h1
      rw [h1] at h
      simp only
      rw [if_pos (by omega)]
def dueW (n : Nat) : List Str → Option Fc
  | [a, s, b] => (match Wd.of s with
    | some w => (match dueR n a with
      | some t => (match dueR n b with
        | some u => some ⟨w, t, u⟩
        | none => none)
      | none => none)
    | none => none)
  | _ => none
theorem dueW_read {n : Nat} {z : Str} (h : z.cps.toList.count 40 + z.cps.toList.count 44 ≤ 39) : dueW n (Txt.split z " ") = readF n z := by
  have key : ∀ p ∈ Txt.split z " ", dueR n p = readR n p := fun p hp => dueR_read (by
    have h1 := split_count (a := 40) hp
    have h2 := split_count (a := 44) hp
    omega)
  unfold readF
  match e : Txt.split z " ", key with
  | [], _ => rfl
  | [_], _ => rfl
  | [_, _], _ => rfl
  | [a, s, b], key =>
    have ha := key a (by simp)
    have hb := key b (by simp)
    simp only [dueW, readW, ha, hb]
  | _ :: _ :: _ :: _ :: _, _ => rfl
theorem readR_good {n : Nat} {z : Str} {t : Tm} (h : readR n z = some t) : t.fine ∧ t.depth ≤ n := by
  rw [readR_iff] at h
  cases e : pT n z.cps.toList with
  | none => rw [e] at h; cases h
  | some tr =>
    obtain ⟨t2, r⟩ := tr
    rw [e] at h
    cases r with
    | cons _ _ => cases h
    | nil =>
      simp only at h
      split at h
      · injection h with h
        subst h
        have := (pT_tail n _ _ _ e).1
        exact ⟨⟨this.1, by assumption⟩, this.2⟩
      · cases h
theorem readF_good {n : Nat} {z : Str} {f : Fc} (h : readF n z = some f) : f.fine ∧ f.deep n := by
  unfold readF at h
  match e : Txt.split z " " with
  | [] => rw [e] at h; cases h
  | [_] => rw [e] at h; cases h
  | [_, _] => rw [e] at h; cases h
  | _ :: _ :: _ :: _ :: _ => rw [e] at h; cases h
  | [a, s, b] =>
    rw [e] at h
    simp only [readW] at h
    cases hw : Wd.of s with
    | none => rw [hw] at h; cases h
    | some w =>
      rw [hw] at h
      cases ha : readR n a with
      | none => rw [ha] at h; cases h
      | some t =>
        rw [ha] at h
        cases hb : readR n b with
        | none => rw [hb] at h; cases h
        | some u =>
          rw [hb] at h
          simp only [Option.some.injEq] at h
          subst h
          have h1 := readR_good ha
          have h2 := readR_good hb
          exact ⟨⟨h1.1, h2.1⟩, h1.2, h2.2⟩
end AB

set_option Elab.async false
set_option linter.all false
set_option maxRecDepth 100000
namespace AB
open PySem PySem.Spec PyProof.Rows L2
/-! ### errors caught -/
theorem takes0 {X : Cx} : Takes X (fun _ _ _ _ => False) := takes_none5
/-- a class by its name -/
structure Glo (e : Ev) (x : Str) (C : Addr) : Prop where
  mg : e.mg x = some (.ref C)
theorem ExK.glo {e : Ev} {x : Str} {C : Addr} (h : ExK e x C) : Glo e x C := ⟨h.mg⟩
theorem pe_glo {e : Ev} {X : Cx} {x : Str} {C : Addr} {pos : Pos} (h : Glo e x C) (hX : Of e X := by exact ⟨rfl, rfl, rfl, rfl, rfl⟩) (hg : Gl X x := by rfl) (hd : (x == ("__debug__" : Str)) = false := by decide) : PE X (.Name x pos) (tC (.ref C)) :=
  pe_glob hg (by rw [hX.mg]; exact h.mg) rfl hd
theorem names_own {e : Ev} {X : Cx} {x : Str} {C : Addr} (h : Glo e x C) (hX : Of e X := by exact ⟨rfl, rfl, rfl, rfl, rfl⟩) (hg : Gl X x := by rfl) (hd : (x == ("__debug__" : Str)) = false := by decide) : Names X x (.ref C) :=
  ⟨hg, hd, .inl (by rw [hX.mg]; exact h.mg)⟩
/-- what is known of an error's class D: whether it is the classes kt -/
structure ExcK (e : Ev) (D : Addr) (kt : List (V × Value × Bool)) : Prop where
  c : ExcC e.K D
  kit : ∀ q ∈ kt, (∀ u, RelV q.1 u → u = q.2.1) ∧ PySem.W.kitOne e.K (.ref D) q.2.1 = some q.2.2
/-- isinstance(n, c): n the error that the suite holds -/
def rIsEG (e : Ev) (cls : Value) (d : Option Addr) (a : Addr) : List V → Hp → VK → Prop := fun xs H Q => ∃ (D : Addr) (kt : List (V × Value × Bool)) (c : V) (cv : Value) (b : Bool), cls = .ref D ∧ d = none ∧ ExcK e D kt ∧ xs = [.ref a, c] ∧ (c, cv, b) ∈ kt ∧ Q (.bl b) H
theorem call_isEG {e : Ev} {X : Cx} {a : Addr} {cls : Value} {d : Option Addr} {oe : Obj} {pn : List (Addr × Obj)} (hz : Zc cls d oe) (hf : ∃ vs, oe.data = .fields vs) (hX : Of e X := by exact ⟨rfl, rfl, rfl, rfl, rfl⟩) : CallR (X.suite a ((a, oe) :: pn)) (.builtin "isinstance") (rIsEG e cls d a) := by
  intro pins s σ H xs us Q I r h
  obtain ⟨D, kt, c, cv, b, rfl, rfl, K, rfl, hm, q⟩ := h
  obtain ⟨h1, h2⟩ := K.kit _ hm
  have C := K.c
  rw [← hX.K] at C h2
  exact call_isE C hz hf pins s σ H _ us Q I r ⟨c, cv, b, rfl, h1, h2, q⟩
theorem kitAny_of {K : PySem.W.Frag} {t : Value} : ∀ {cs : List (V × Value × Bool)}, (∀ q ∈ cs, PySem.W.kitOne K t q.2.1 = some q.2.2) → PySem.W.kitAny K t (cs.map (·.2.1)) = some (cs.any (·.2.2))
  | [], _ => rfl
  | q :: r, h => by
    have h1 := h q (by simp)
    have h2 := kitAny_of (cs := r) fun z hz => h z (by simp [hz])
    simp only [List.map_cons, List.any_cons, PySem.W.kitAny, h1]
    cases q.2.2 with
    | true => rfl
    | false => simpa using h2
theorem vals_det : ∀ {cs : List (V × Value × Bool)} {us : List Value}, (∀ q ∈ cs, ∀ u, RelV q.1 u → u = q.2.1) → Vals (cs.map (·.1)) us → us = cs.map (·.2.1)
  | [], _, _, .nil => rfl
  | q :: r, _, h, .cons h1 h2 => by
    rw [h q (by simp) _ h1, vals_det (cs := r) (fun z hz => h z (by simp [hz])) h2]
    rfl
/-- isinstance(n, (c, ..)) -/
def rIsET (e : Ev) (cls : Value) (d : Option Addr) (a : Addr) : List V → Hp → VK → Prop := fun xs H Q => ∃ (D : Addr) (kt : List (V × Value × Bool)) (cs : List (V × Value × Bool)) (p : Addr), cls = .ref D ∧ d = none ∧ ExcK e D kt ∧ xs = [.ref a, .ref p] ∧ H p = some (.tup (cs.map (·.1))) ∧ (∀ q ∈ cs, q ∈ kt) ∧
  Q (.bl (cs.any (·.2.2))) H
theorem call_isET {e : Ev} {X : Cx} {a : Addr} {cls : Value} {d : Option Addr} {oe : Obj} {pn : List (Addr × Obj)} (hz : Zc cls d oe) (hf : ∃ vs, oe.data = .fields vs) (hX : Of e X := by exact ⟨rfl, rfl, rfl, rfl, rfl⟩) : CallR (X.suite a ((a, oe) :: pn)) (.builtin "isinstance") (rIsET e cls d a) := by
  intro pins s σ H xs us Q I r h
  obtain ⟨D, kt, cs, p, rfl, rfl, K, rfl, hp, hm, q⟩ := h
  have C := K.c
  rw [← hX.K] at C
  cases r with
  | cons rx rr =>
    cases rr with
    | cons rt rr =>
      cases rr
      cases rx
      cases rt
      obtain ⟨its, hv, ⟨ot, ho, hc, n, hd⟩, _⟩ := I.tuple (SqT.of hp)
      have e1 : its = cs.map (·.2.1) := vals_det (fun q hq => (K.kit q (hm q hq)).1) hv
      have e2 : PySem.W.kitAny X.K (.ref D) its = some (cs.any (·.2.2)) := by
        rw [e1]
        exact kitAny_of fun q hq => by have := (K.kit q (hm q hq)).2; rw [← hX.K] at this; exact this
      obtain ⟨hget, _⟩ := I.pin (a, oe) (List.mem_append.mpr (.inl List.mem_cons_self))
      obtain ⟨vs, hv⟩ := hf
      have J : PySem.W.InstAt s.heap a oe D none := by
        obtain ⟨oc, od, oda, osl⟩ := oe
        obtain ⟨h1, h2⟩ := hz
        dsimp only at h1 h2 hv
        subst h1 h2 hv
        exact ⟨hget, rfl, rfl, trivial⟩
      obtain ⟨tc, td, tdt, tsl⟩ := ot
      dsimp only at hc hd
      subst hc hd
      exact PySem.W.kia_tup (PySem.W.handS_kitx_exc C.hg C.hk C.hs C.hd C.ha C.hn C.ht C.hm) I.kIn J ho e2 (fun z => nomatch z) fun tk => ⟨.bl _, H, I.kept (t' := tk) fun _ _ z => z, rfl, q⟩
/-! what the head shows of these -/
def excCB (K : PySem.W.Frag) (D : Addr) : Bool :=
  decide (PySem.W.findIn K (.ref D) "__getattribute__" = some (some (.builtin "BaseException.__getattribute__"))) && (decide (PySem.W.findIn K (.ref D) "__getattr__" = some none) && (decide (PySem.W.subIn K (.ref D) (.type "BaseException") = some true) &&
  (PySem.W.hasDictIn K D && (decide (PySem.W.findIn K (.ref D) "__class__" = some (some (.builtin "object.__class__"))) && (decide (PySem.W.specialIn K (.builtin "object.__class__") "__get__" = some (some (.builtin "getset_descriptor.__get__"))) &&
  (decide (PySem.W.takesIn K (.builtin "object.__class__") = some true) && decide (PySem.W.mroIn K D (.type "object") = some true)))))))
theorem excCB_ok {K : PySem.W.Frag} {D : Addr} (h : excCB K D = true) : ExcC K D := by
  unfold excCB at h
  simp only [Bool.and_eq_true, decide_eq_true_eq] at h
  obtain ⟨h1, h2, h3, h4, h5, h6, h7, h8⟩ := h
  exact ⟨h1, h2, h3, h4, h5, h6, h7, h8⟩
def kitB (K : PySem.W.Frag) (D : Addr) (c : Value) (b : Bool) : Bool := decide (PySem.W.kitOne K (.ref D) c = some b)
theorem kitB_ok {K : PySem.W.Frag} {D : Addr} {c : Value} {b : Bool} (h : kitB K D c b = true) : PySem.W.kitOne K (.ref D) c = some b := of_decide_eq_true h
theorem rel_ref {C : Addr} : ∀ u, RelV (.ref C) u → u = .ref C := fun _ h => h
theorem rel_ty {n : String} : ∀ u, RelV (.ty n) u → u = .type n := fun _ h => h
/-- where the error is caught: the clause takes it -/
def Takes1 (e : Ev) (D C : Addr) : Prop := PySem.W.exmOne e.K (.ref D) (.ref C) = some true
end AB
namespace AB
open PySem PySem.Spec PyProof.Rows L2
def kts (l : List (Addr × Bool)) : List (V × Value × Bool) := (V.ty "ValueError", Value.type "ValueError", true) :: l.map fun q => (V.ref q.1, Value.ref q.1, q.2)
theorem kts_ve {l : List (Addr × Bool)} : (V.ty "ValueError", Value.type "ValueError", true) ∈ kts l := List.mem_cons_self
theorem kts_of {l : List (Addr × Bool)} {q : Addr × Bool} (h : q ∈ l) : (V.ref q.1, Value.ref q.1, q.2) ∈ kts l := List.mem_cons_of_mem _ (List.mem_map_of_mem (f := fun q => (V.ref q.1, Value.ref q.1, q.2)) h)
/-- the classes of a tuple of them -/
def ktt (l : List (Addr × Bool)) : List (V × Value × Bool) := l.map fun q => (V.ref q.1, Value.ref q.1, q.2)
theorem ktt_sub {l m : List (Addr × Bool)} (h : ∀ q ∈ l, q ∈ m) : ∀ q ∈ ktt l, q ∈ kts m := fun q hq => by
  obtain ⟨z, hz, rfl⟩ := List.mem_map.mp hq
  exact kts_of (h z hz)
theorem excK_of {K : PySem.W.Frag} {P : Program} {w : World} {mg : Str → Option Value} {base : Heap} {D : Addr} {l : List (Addr × Bool)} (h : excCB K D = true) (hv : kitB K D (.type "ValueError") true = true) (hl : ∀ q ∈ l, kitB K D (.ref q.1) q.2 = true) : ExcK ⟨P, w, K, mg, base⟩ D (kts l) := by
  refine ⟨excCB_ok h, fun q hq => ?_⟩
  rcases List.mem_cons.mp hq with rfl | hq
  · exact ⟨rel_ty, kitB_ok hv⟩
  · obtain ⟨z, hz, rfl⟩ := List.mem_map.mp hq
    exact ⟨rel_ref, kitB_ok (hl z hz)⟩
end AB

set_option Elab.async false
set_option linter.all false
set_option maxRecDepth 100000
set_option maxHeartbeats 4000000
namespace AB
open PySem PySem.Spec PyProof.Rows L2
def top (i : Nat) : Stmt := PySem.Challenge.pw_alikeboard_k06_facts_read_or_refused.main.body.getD i (.Pass ⟨0, 0, 0, 0⟩)

/-! ### the draws of the laws -/
def cellV (ns : List Int) (k : Int) : Int := if k < ns.length then ns.getD k.toNat 0 else 0
def spCell (K : PySem.W.Frag) : Sp := fun vs H Q _ => ∃ (a : Addr) (ns : List Int) (k : Int), vs = [.ref a, .int k] ∧ ScAt K H a ns ∧ 0 ≤ k ∧ Q (.int (cellV ns k)) H
/-- a dice: [number, script, where, rest] -/
def DiceAt (K : PySem.W.Frag) (H : Hp) (d : Addr) : Prop := ∃ (a : Addr) (ns : List Int) (x j g : Int), H d = some (.lst [.int x, .ref a, .int j, .int g]) ∧ ScAt K H a ns ∧ ns.length ≤ 63 ∧ 0 ≤ x ∧ 0 ≤ j ∧ 0 ≤ g
def spDice (K : PySem.W.Frag) : Sp := fun vs H Q _ => ∃ (a : Addr) (ns : List Int) (k : Int), vs = [.ref a, .int k] ∧ ScAt K H a ns ∧ ns.length ≤ 63 ∧ 0 ≤ k ∧
  ∀ p H', H p = none → Same H H' → DiceAt K H' p → Q (.ref p) H'
def spLaw (K : PySem.W.Frag) : Sp := fun vs H Q _ => ∃ (a : Addr) (ns : List Int), vs = [.ref a] ∧ ScAt K H a ns ∧ ns.length ≤ 63 ∧ ∀ H', Q (.bl true) H'
/-- all but d stands -/
def But (d : Addr) (H H' : Hp) : Prop := ∀ b o, b ≠ d → H b = some o → H' b = some o
theorem But.of {d : Addr} {H H' : Hp} (s : Same H H') : But d H H' := fun b o _ h => s b o h
theorem But.refl {d : Addr} (H : Hp) : But d H H := fun _ _ _ h => h
theorem But.trans {d : Addr} {H H1 H2 : Hp} (a : But d H H1) (b : But d H1 H2) : But d H H2 := fun c o n h => b c o n (a c o n h)
theorem But.put {d : Addr} (H : Hp) (o : HO) : But d H (upd H d o) := fun b u n h => by rw [upd_ne n]; exact h
theorem But.same {d : Addr} {H0 H H' : Hp} (b : But d H H') (s : Same H0 H) (h : H0 d = none) : Same H0 H' := fun c o e => b c o (ne_of_none e h) (s c o e)
theorem DiceAt.lst {K : PySem.W.Frag} {H : Hp} {d : Addr} (h : DiceAt K H d) : ∃ xs, H d = some (.lst xs) := let ⟨_, _, _, _, _, h, _⟩ := h; ⟨_, h⟩
theorem But.tx {K : PySem.W.Frag} {d : Addr} {H H' : Hp} (b : But d H H') (h : DiceAt K H d) : TX H H' := fun a o i e => by
  obtain ⟨ys, h⟩ := h.lst
  exact b a _ (ne_of e h (fun z => by subst z; exact i)) e
theorem DiceAt.tx {K : PySem.W.Frag} {H H' : Hp} {d : Addr} (t : TX H H') (e : H' d = H d) (h : DiceAt K H d) : DiceAt K H' d := by
  obtain ⟨a, ns, x, j, g, h1, h2, h3⟩ := h
  exact ⟨a, ns, x, j, g, e.trans h1, h2.mono t, h3⟩
theorem DiceAt.same {K : PySem.W.Frag} {H H' : Hp} {d : Addr} (s : Same H H') (h : DiceAt K H d) : DiceAt K H' d := by
  obtain ⟨a, ns, x, j, g, h1, h2, h3⟩ := h
  exact ⟨a, ns, x, j, g, s _ _ h1, h2.mono (TX.of_same s), h3⟩
def spOff (K : PySem.W.Frag) : Sp := fun vs H Q _ => ∃ (d : Addr) (m : Int), vs = [.ref d, .int m] ∧ DiceAt K H d ∧ 0 < m ∧ m < 1000000 ∧ ∀ (n : Int) H', 0 ≤ n → n < m → But d H H' → DiceAt K H' d → Q (.int n) H'

abbrev s__law_cell : Stmt := top 21
theorem sc__law_cell : FnScope ["_law_script", "_law_k"] ["_law_script", "_law_k"] (defScope s__law_cell) := ⟨rfl, rfl, rfl, by decide +kernel, rfl, by decide +kernel, by decide +kernel⟩
abbrev s__law_dice : Stmt := top 22
theorem sc__law_dice : FnScope ["_law_script", "_law_k", "_law_cell_here"] ["_law_script", "_law_k"] (defScope s__law_dice) := ⟨rfl, rfl, rfl, by decide +kernel, rfl, by decide +kernel, by decide +kernel⟩
abbrev s__law_off : Stmt := top 23
theorem sc__law_off : FnScope ["_law_d", "_law_most", "_law_found", "_law_more"] ["_law_d", "_law_most"] (defScope s__law_off) := ⟨rfl, rfl, rfl, by decide +kernel, rfl, by decide +kernel, by decide +kernel⟩
section
variable {e : Ev} (B : Bl e)
include B
theorem ok_cell (A__law_cell : At e "_law_cell" ["_law_script", "_law_k"] s__law_cell) : Has e 1 "_law_cell" ["_law_script", "_law_k"] (spCell e.K) := by
  refine A__law_cell.ok sc__law_cell (fun vs H Q E h => ?_) (fun f cdv A outer s H vs Q E hr h => ?_)
  · obtain ⟨a, ns, k, rfl, _⟩ := h
    rfl
  obtain ⟨a, ns, k, rfl, hS, h0, q⟩ := h
  have nd := sc__law_cell.nd
  refine ⟨_, pss_cons (ps_if (pt_cmpR op_lt (pv 1) (pe_b call_lenL B.len (pa_cons (pv 0) pa_nil)) (nomark _))
      (pss_one (ps_ret (pe_ix ix_list (pv 0) (pv 1) (fun _ _ => rfl))))
      (pss_nil))
    (pss_one (ps_ret pe_int)), ?_⟩
  refine ⟨_, rfl, _, rfl, a, _, rfl, hS.sq, _, _, rfl, rfl, _, rfl, ?_⟩
  have hl : (ns.map V.int).length = ns.length := List.length_map _
  refine ite2 (fun c => ?_) (fun c => ?_)
  · have c' : k < ((ns.map V.int).length : Int) := of_decide_eq_true c
    rw [hl] at c'
    have hk : k.toNat < ns.length := by omega
    refine ⟨_, rfl, _, rfl, a, _, _, .int (ns[k.toNat]), rfl, rfl, hS.sq, at_of (j := k.toNat) (by omega) ?_, ?_⟩
    · rw [List.getElem?_map, List.getElem?_eq_getElem hk]; rfl
    · have e2 : cellV ns k = ns[k.toNat] := by
        unfold cellV
        rw [if_pos c', List.getD_eq_getElem?_getD, List.getElem?_eq_getElem hk]
        rfl
      rw [← e2]
      exact q
  · have c' : ¬ k < ((ns.map V.int).length : Int) := of_decide_eq_false (Bool.eq_false_iff.mpr c)
    rw [hl] at c'
    have e2 : cellV ns k = 0 := by unfold cellV; rw [if_neg c']
    rw [e2] at q
    exact q
theorem ok_dice (A__law_dice : At e "_law_dice" ["_law_script", "_law_k"] s__law_dice) (h__law_cell : Has e 1 "_law_cell" ["_law_script", "_law_k"] (spCell e.K)) : Has e 2 "_law_dice" ["_law_script", "_law_k"] (spDice e.K) := by
  refine A__law_dice.ok sc__law_dice (fun vs H Q E h => ?_) (fun f cdv A outer s H vs Q E hr h => ?_)
  · obtain ⟨a, ns, k, rfl, _⟩ := h
    rfl
  obtain ⟨a, ns, k, rfl, hS, h63, h0, q⟩ := h
  have nd := sc__law_dice.nd
  refine ⟨_, pss_cons (ps_st 2 nd (pe_b call_abs B.abs (pa_cons (pe_callH h__law_cell hr (pa_cons (pv 0) (pa_cons (pv 1) pa_nil))) pa_nil)))
    (pss_one (ps_ret (pe_lst (pa_cons (pe_op op_mod (pv 2) pe_int) (pa_cons (pv 0) (pa_cons (pe_op op_add (pv 1) pe_int) (pa_cons (pe_op op_mul (pe_ty call_int1 B.int (pa_cons (pe_cmpR op_ge (pv 2) (pe_op op_pow pe_int pe_int) (nomark _)) pa_nil)) (pv 2)) pa_nil))))))), ?_⟩
  refine ⟨_, rfl, _, rfl, a, ns, k, rfl, hS, h0, _, rfl, ?_⟩
  have hz : 0 ≤ (if cellV ns k < 0 then -cellV ns k else cellV ns k) := by split <;> omega
  generalize (if cellV ns k < 0 then -cellV ns k else cellV ns k) = z at hz
  refine ⟨_, rfl, _, _, rfl, rfl, (by show (0 : Int) < 2147483647; decide), _, rfl, _, rfl, _, _, rfl, rfl, _, rfl, _, _, rfl, rfl, ⟨by decide, by decide, by decide⟩, _, _, rfl, rfl, .inr ⟨_, rfl, ?_⟩⟩
  refine ⟨_, rfl, _, _, rfl, rfl, ?_, by show 4 ≤ sizeLine; decide, fun p hp => ?_⟩
  · refine .inl ?_
    split <;> exact ⟨by decide, by decide⟩
  · refine q p _ hp (same_new hp _) ⟨a, ns, _, _, _, upd_same, hS.mono (TX.new hp), h63, Int.emod_nonneg _ (by decide), by omega, ?_⟩
    split
    · simpa using hz
    · simp
theorem ok_off (A__law_off : At e "_law_off" ["_law_d", "_law_most"] s__law_off) (h__law_cell : Has e 1 "_law_cell" ["_law_script", "_law_k"] (spCell e.K)) : Has e 2 "_law_off" ["_law_d", "_law_most"] (spOff e.K) := by
  refine A__law_off.ok sc__law_off (fun vs H Q E h => ?_) (fun f cdv A outer s H vs Q E hr h => ?_)
  · obtain ⟨d, m, rfl, _⟩ := h
    rfl
  obtain ⟨d, m, rfl, ⟨a, ns, x, j, g, hd, hS, h63, hx, hj, hg⟩, hm, hm2, q⟩ := h
  have nd := sc__law_off.nd
  refine ⟨_, pss_cons (ps_if (pt_cmpR op_gt (pe_ix ix_list (pv 0) pe_int (fun _ _ => rfl)) pe_int (nomark _))
      (pss_cons (ps_st 2 nd (pe_op op_mod (pe_ix ix_list (pv 0) pe_int (fun _ _ => rfl)) (pv 1)))
      (pss_cons (ps_asg (pe_op op_fdiv (pe_ix ix_list (pv 0) pe_int (fun _ _ => rfl)) (pv 1)) (pg_sub (pv 0) pe_int set_list))
      (pss_one (ps_ret (pv 2)))))
      (pss_nil))
    (pss_cons (ps_st 3 nd (pe_b call_abs B.abs (pa_cons (pe_callH h__law_cell hr (pa_cons (pe_ix ix_list (pv 0) pe_int (fun _ _ => rfl)) (pa_cons (pe_op op_mod (pe_ix ix_list (pv 0) pe_int (fun _ _ => rfl)) (pe_b (call_max2 rfl) B.max (pa_cons pe_int (pa_cons (pe_b call_lenL B.len (pa_cons (pe_ix ix_list (pv 0) pe_int (fun _ _ => rfl)) pa_nil)) pa_nil)))) pa_nil))) pa_nil)))
    (pss_cons (ps_asg (pe_op op_add (pe_ix ix_list (pv 0) pe_int (fun _ _ => rfl)) pe_int) (pg_sub (pv 0) pe_int set_list))
    (pss_cons (ps_asg (pe_op op_mod (pe_op op_add (pe_op op_add (pe_op op_mul (pe_ix ix_list (pv 0) pe_int (fun _ _ => rfl)) pe_int) pe_int) (pv 3)) pe_int) (pg_sub (pv 0) pe_int set_list))
    (pss_one (ps_ret (pe_op op_mod (pe_op op_fdiv (pe_ix ix_list (pv 0) pe_int (fun _ _ => rfl)) pe_int) (pv 1))))))), ?_⟩
  have i0 : ∀ (x j g : Int), atI [V.int x, .ref a, .int j, .int g] 0 = some (.int x) := fun _ _ _ => rfl
  have i1 : ∀ (x j g : Int), atI [V.int x, .ref a, .int j, .int g] 1 = some (.ref a) := fun _ _ _ => rfl
  have i2 : ∀ (x j g : Int), atI [V.int x, .ref a, .int j, .int g] 2 = some (.int j) := fun _ _ _ => rfl
  have i3 : ∀ (x j g : Int), atI [V.int x, .ref a, .int j, .int g] 3 = some (.int g) := fun _ _ _ => rfl
  refine ⟨_, rfl, d, _, _, _, rfl, rfl, SqL.of hd, i3 _ _ _, _, _, rfl, rfl, _, rfl, ?_⟩
  refine ite2 (fun c => ?_) (fun c => ?_)
  · refine ⟨_, rfl, d, _, _, _, rfl, rfl, SqL.of hd, i3 _ _ _, _, rfl, _, _, rfl, rfl, hm, ?_⟩
    refine ⟨_, rfl, d, _, _, _, rfl, rfl, SqL.of hd, i3 _ _ _, _, rfl, _, _, rfl, rfl, ⟨hm, by omega⟩, ?_⟩
    refine ⟨_, rfl, d, _, _, 3, rfl, rfl, hd, rfl, _, rfl, ?_⟩
    refine q _ _ (Int.emod_nonneg _ (by omega)) (Int.emod_lt_of_pos _ hm) (But.put _ _) ⟨a, ns, _, _, _, upd_same, hS.mono (TX.lst hd), h63, hx, hj, Int.ediv_nonneg hg (by omega)⟩
  · refine ⟨_, rfl, d, _, _, _, rfl, rfl, SqL.of hd, i1 _ _ _, _, rfl, d, _, _, _, rfl, rfl, SqL.of hd, i2 _ _ _, _, rfl, d, _, _, _, rfl, rfl, SqL.of hd, i1 _ _ _, a, _, rfl, hS.sq, _, _, rfl, ?_⟩
    have hl : (ns.map V.int).length = ns.length := List.length_map _
    have hM : 0 < (if (((ns.map V.int).length : Nat) : Int) > 1 then (((ns.map V.int).length : Nat) : Int) else 1) := by split <;> omega
    generalize (if (((ns.map V.int).length : Nat) : Int) > 1 then (((ns.map V.int).length : Nat) : Int) else 1) = M at hM
    refine ⟨_, _, rfl, rfl, hM, a, ns, _, rfl, hS, Int.emod_nonneg _ (by omega), _, rfl, ?_⟩
    have hz : 0 ≤ (if cellV ns (j % M) < 0 then -cellV ns (j % M) else cellV ns (j % M)) := by split <;> omega
    generalize (if cellV ns (j % M) < 0 then -cellV ns (j % M) else cellV ns (j % M)) = z at hz
    refine ⟨_, rfl, d, _, _, _, rfl, rfl, SqL.of hd, i2 _ _ _, _, _, rfl, rfl, _, rfl, d, _, _, 2, rfl, rfl, hd, rfl, ?_⟩
    refine ⟨_, rfl, d, _, _, _, rfl, rfl, SqL.of upd_same, i0 _ _ _, _, _, rfl, rfl, .inr ⟨by decide, by decide⟩, _, _, rfl, rfl, _, rfl, _, _, rfl, rfl, _, _, rfl, rfl, (by show (0 : Int) < 2147483647; decide), _, rfl, d, _, _, 0, rfl, rfl, upd_same, rfl, ?_⟩
    refine ⟨_, rfl, d, _, _, _, rfl, rfl, SqL.of upd_same, i0 _ _ _, _, _, rfl, rfl, ⟨by decide, by decide⟩, _, rfl, _, _, rfl, rfl, hm, ?_⟩
    rw [upd_upd]
    refine q _ _ (Int.emod_nonneg _ (by omega)) (Int.emod_lt_of_pos _ hm) (But.put _ _) ⟨a, ns, _, _, _, upd_same, hS.mono (TX.lst hd), h63, Int.emod_nonneg _ (by decide), by omega, hg⟩
end

/-- the works that a law draws: five names with their counts of parts -/
def WorksD (ds : List Da) : Prop := ∃ n0 n1 n2 n3 n4 m, ds = [.tup [.str n0, .int 0], .tup [.str n1, .int 0], .tup [.str n2, .int 0], .tup [.str n3, .int 1], .tup [.str n4, .int m]] ∧
  goodName n0 ∧ goodName n1 ∧ goodName n2 ∧ goodName n3 ∧ goodName n4 ∧ (m = 2 ∨ m = 3)
def spWorks (K : PySem.W.Frag) : Sp := fun vs H Q _ => ∃ (d : Addr), vs = [.ref d] ∧ DiceAt K H d ∧ ∀ l ds H', H l = none → But d H H' → DiceAt K H' d → LD H' l ds → WorksD ds → Q (.ref l) H'
theorem m_cps {n : Int} (h : 0 ≤ n) : (Txt.mul ("m" : Str) n).cps.toList = List.replicate n.toNat 109 := by
  have e : ("m" : Str).cps.toList = [109] := by decide +kernel
  rw [mul_cps h, e, flat_rep]
theorem name_made {a b : Int} {c : Nat} (h0 : 0 ≤ a) (h1 : 0 ≤ b) (h2 : a + b ≤ 5) (hc : 97 ≤ c ∧ c ≤ 122) : goodName (Txt.mul ("m" : Str) a ++ ⟨#[c]⟩ ++ Txt.mul ("m" : Str) b) := by
  have e : (Txt.mul ("m" : Str) a ++ ⟨#[c]⟩ ++ Txt.mul ("m" : Str) b).cps.toList = List.replicate a.toNat 109 ++ [c] ++ List.replicate b.toNat 109 := by
    rw [app_cps, app_cps, m_cps h0, m_cps h1]
  unfold goodName
  rw [len_cps, e]
  simp only [List.length_append, List.length_replicate, List.length_singleton]
  refine ⟨by omega, by omega, fun x hx => ?_⟩
  simp only [List.mem_append, List.mem_replicate, List.mem_singleton] at hx
  omega
theorem m_len {a : Int} (h0 : 0 ≤ a) (h1 : a ≤ 100) : (Txt.mul ("m" : Str) a).length ≤ 100 := by
  rw [len_cps, m_cps h0, List.length_replicate]
  omega
theorem five {α : Type} {l : List α} (h : l.length = 5) : ∃ a b c d e, l = [a, b, c, d, e] := by
  match l, h with
  | [a, b, c, d, e], _ => exact ⟨a, b, c, d, e, rfl⟩
theorem below3 {n : Int} (h0 : 0 ≤ n) (h1 : n < 3) : n = 0 ∨ n = 1 ∨ n = 2 := by omega
abbrev s__law_works : Stmt := top 24
theorem sc__law_works : FnScope ["_law_d", "_law_size", "_law_at", "_law_turn", "_law_names", "_law_k", "_law_sign", "_law_shared", "_law_one", "_law_many"] ["_law_d"] (defScope s__law_works) := ⟨rfl, rfl, rfl, by decide +kernel, rfl, by decide +kernel, by decide +kernel⟩
section
variable {e : Ev} (B : Bl e)
include B
theorem ok_works (A__law_works : At e "_law_works" ["_law_d"] s__law_works) (h__law_off : Has e 2 "_law_off" ["_law_d", "_law_most"] (spOff e.K)) : Has e 3 "_law_works" ["_law_d"] (spWorks e.K) := by
  refine A__law_works.ok sc__law_works (fun vs H Q E h => ?_) (fun f cdv A outer s H vs Q E hr h => ?_)
  · obtain ⟨d, rfl, _⟩ := h
    rfl
  obtain ⟨d, rfl, hD, q⟩ := h
  have nd := sc__law_works.nd
  refine ⟨_, pss_cons (ps_st 1 nd (pe_op op_add pe_int (pe_callH h__law_off hr (pa_cons (pv 0) (pa_cons pe_int pa_nil)))))
    (pss_cons (ps_st 2 nd (pe_callH h__law_off hr (pa_cons (pv 0) (pa_cons (pv 1) pa_nil))))
    (pss_cons (ps_st 3 nd (pe_callH h__law_off hr (pa_cons (pv 0) (pa_cons pe_int pa_nil))))
    (pss_cons (ps_st 4 nd (pe_lst pa_nil))
    (pss_cons (ps_for PassesOwn.never rfl (pi_range1 (by rfl) B.range (pa_cons pe_int pa_nil)) (pg_nm 5 nd)
      (pss_cons (ps_st 6 nd (pe_ix ix_str pe_str (pe_op op_mod (pe_op op_add (pv 3) (pe_op op_mul pe_int (pv 5))) pe_int) (fun _ _ => rfl)))
      (pss_one (ps_expr (pe_app (pv 4) (pa_cons (pe_op op_add_str (pe_op op_add_str (pe_op op_mulS pe_str (pv 2)) (pv 6)) (pe_op op_mulS pe_str (pe_op op_sub (pe_op op_sub (pv 1) (pv 2)) pe_int))) pa_nil))))))
    (pss_cons (ps_st 7 nd (pe_callH h__law_off hr (pa_cons (pv 0) (pa_cons pe_int pa_nil))))
    (pss_cons (ps_st 8 nd (pe_ix ix_list (pv 4) (pe_ix ix_list (pe_lst (pa_cons pe_int (pa_cons pe_int (pa_cons pe_int pa_nil)))) (pv 7) (fun _ _ => rfl)) (fun _ _ => rfl)))
    (pss_cons (ps_st 9 nd (pe_ix ix_list (pe_lst (pa_cons pe_int (pa_cons pe_int (pa_cons pe_int pa_nil)))) (pe_callH h__law_off hr (pa_cons (pv 0) (pa_cons pe_int pa_nil))) (fun _ _ => rfl)))
    (pss_one (ps_ret (pe_lst (pa_cons (pe_tup (pa_cons (pe_ix ix_list (pv 4) pe_int (fun _ _ => rfl)) (pa_cons pe_int pa_nil))) (pa_cons (pe_tup (pa_cons (pe_ix ix_list (pv 4) pe_int (fun _ _ => rfl)) (pa_cons pe_int pa_nil))) (pa_cons (pe_tup (pa_cons (pe_ix ix_list (pv 4) pe_int (fun _ _ => rfl)) (pa_cons pe_int pa_nil))) (pa_cons (pe_tup (pa_cons (pv 8) (pa_cons pe_int pa_nil))) (pa_cons (pe_tup (pa_cons (pe_ix ix_list (pe_lst (pa_cons (pe_ix ix_list (pv 4) pe_int (fun _ _ => rfl)) (pa_cons (pe_ix ix_list (pv 4) pe_int (fun _ _ => rfl)) (pa_cons (pv 8) pa_nil)))) (pv 7) (fun _ _ => rfl)) (pa_cons (pv 9) pa_nil))) pa_nil))))))))))))))), ?_⟩
  refine ⟨_, rfl, d, 6, rfl, hD, by decide, by decide, fun n1 H1 a1 b1 t1 D1 => ⟨_, _, rfl, rfl, ?_⟩⟩
  refine ⟨_, rfl, _, rfl, d, 1 + n1, rfl, D1, by omega, by omega, fun n2 H2 a2 b2 t2 D2 => ?_⟩
  refine ⟨_, rfl, d, 26, rfl, D2, by decide, by decide, fun n3 H3 a3 b3 t3 D3 => ?_⟩
  refine ⟨by show 0 ≤ sizeLine; decide, fun p hp => ?_⟩
  have T3 := (t1.trans t2).trans t3
  refine ⟨5, rfl, by decide, by decide, for_range (n := 5) (fun i σ H' => ∃ (ns : List Str) (u v : Option V), σ = [some (.ref d), some (.int (1 + n1)), some (.int n2), some (.int n3), some (.ref p), u, v, none, none, none] ∧ H' = upd H3 p (.lst (ns.map V.str)) ∧ ns.length = i ∧ ∀ z ∈ ns, goodName z)
    ⟨[], none, none, rfl, rfl, rfl, by simp⟩ ?_ ?_⟩
  · rintro i σ H' hi ⟨ns, u, v, rfl, rfl, hl, hg⟩
    obtain ⟨c, hc, hc2⟩ := abc_at (i := (n3 + 5 * (0 + (i : Int))) % 26) (Int.emod_nonneg _ (by decide)) (Int.emod_lt_of_pos _ (by decide))
    refine ⟨_, rfl, _, rfl, _, _, rfl, rfl, .inl ⟨by decide, by decide⟩, _, _, rfl, rfl, _, _, rfl, rfl, (by show (0 : Int) < 26; decide), _, _, c, rfl, rfl, by decide +kernel, hc, ?_⟩
    refine ⟨_, rfl, .inl ⟨rfl, _, SqL.of upd_same⟩, _, rfl, _, _, rfl, rfl, by decide +kernel, by omega, by omega, ?_⟩
    have l1 := m_len (a := n2) (by omega) (by omega)
    have l2 := m_len (a := 1 + n1 - n2 - 1) (by omega) (by omega)
    have l3 : (Txt.mul ("m" : Str) n2 ++ ⟨#[c]⟩).length ≤ 101 := by
      rw [len_cps, app_cps, List.length_append, ← len_cps]
      simp only [List.length_singleton]
      omega
    have hs := sizeLine_eq
    refine ⟨_, rfl, _, _, rfl, rfl, ?_, _, rfl, _, rfl, _, _, rfl, rfl, _, _, rfl, rfl, _, _, rfl, rfl, by decide +kernel, by omega, by omega, _, _, rfl, rfl, ?_, p, _, _, rfl, rfl, upd_same, ?_, ?_⟩
    · show (Txt.mul ("m" : Str) n2).length + 1 ≤ sizeLine
      omega
    · omega
    · rw [List.length_map]
      omega
    · refine ⟨ns ++ [_], _, _, rfl, by rw [upd_upd, List.map_append]; rfl, by rw [List.length_append, hl]; rfl, fun z hz => ?_⟩
      rcases List.mem_append.mp hz with hz | hz
      · exact hg z hz
      · rw [List.mem_singleton.mp hz]
        exact name_made (by omega) (by omega) (by omega) hc2
  · rintro σ H' ⟨ns, u, v, rfl, rfl, hl, hg⟩
    obtain ⟨m0, m1, m2, m3, m4, rfl⟩ := five hl
    simp only [List.mem_cons, List.not_mem_nil, or_false, forall_eq_or_imp, forall_eq] at hg
    obtain ⟨g0, g1, g2, g3, g4⟩ := hg
    obtain ⟨ys, hd3⟩ := D3.lst
    have D4 : DiceAt e.K (upd H3 p (.lst ([m0, m1, m2, m3, m4].map V.str))) d := D3.same (same_new hp _)
    refine ⟨_, rfl, d, 3, rfl, D4, by decide, by decide, fun n5 H5 a5 b5 t5 D5 => ?_⟩
    have npd : p ≠ d := (ne_of_none hd3 hp).symm
    have h5 : H5 p = some (.lst ([m0, m1, m2, m3, m4].map V.str)) := t5 _ _ npd upd_same
    have S5 : But d H H5 := T3.trans ((But.of (same_new hp _)).trans t5)
    -- names[[3, 0, 3][shared]]
    have e1 : ∃ w z, atI [V.int 3, .int 0, .int 3] n5 = some (.int w) ∧ atI ([m0, m1, m2, m3, m4].map V.str) w = some (.str z) ∧ goodName z := by
      rcases below3 a5 b5 with rfl | rfl | rfl
      · exact ⟨3, m3, rfl, rfl, g3⟩
      · exact ⟨0, m0, rfl, rfl, g0⟩
      · exact ⟨3, m3, rfl, rfl, g3⟩
    obtain ⟨w, z, e2, e3, gz⟩ := e1
    refine ⟨_, rfl, by show 3 ≤ sizeLine; decide, fun q1 hq1 => ⟨_, rfl, q1, _, _, _, rfl, rfl, SqL.of upd_same, e2, p, _, _, _, rfl, rfl, SqL.of (upd_keep h5 hq1), e3, ?_⟩⟩
    have D6 := D5.same (same_new hq1 (.lst [V.int 3, .int 0, .int 3]))
    have h6 := upd_keep (o := .lst [V.int 3, .int 0, .int 3]) h5 hq1
    have S6 := S5.trans (But.of (same_new hq1 (.lst [V.int 3, .int 0, .int 3])))
    generalize upd H5 q1 (.lst [V.int 3, .int 0, .int 3]) = H6 at D6 h6 S6
    refine ⟨by show 3 ≤ sizeLine; decide, fun q2 hq2 => ?_⟩
    have D7 := D6.same (same_new hq2 (.lst [V.int 2, .int 2, .int 3]))
    have h7 := upd_keep (o := .lst [V.int 2, .int 2, .int 3]) h6 hq2
    have S7 := S6.trans (But.of (same_new hq2 (.lst [V.int 2, .int 2, .int 3])))
    have l7 : upd H6 q2 (.lst [V.int 2, .int 2, .int 3]) q2 = some (.lst [V.int 2, .int 2, .int 3]) := upd_same
    generalize upd H6 q2 (.lst [V.int 2, .int 2, .int 3]) = H7 at D7 h7 S7 l7
    refine ⟨_, rfl, d, 3, rfl, D7, by decide, by decide, fun n8 H8 a8 b8 t8 D8 => ?_⟩
    obtain ⟨ys7, hd7⟩ := D7.lst
    have nq2 : q2 ≠ d := fun z => by
      obtain ⟨_, hd6⟩ := D6.lst
      rw [z, hd6] at hq2
      cases hq2
    have h8 := t8 _ _ npd h7
    have l8 := t8 _ _ nq2 l7
    have S8 := S7.trans t8
    have e4 : ∃ m, atI [V.int 2, .int 2, .int 3] n8 = some (.int m) ∧ (m = 2 ∨ m = 3) := by
      rcases below3 a8 b8 with rfl | rfl | rfl
      · exact ⟨2, rfl, .inl rfl⟩
      · exact ⟨2, rfl, .inl rfl⟩
      · exact ⟨3, rfl, .inr rfl⟩
    obtain ⟨m, e5, hm⟩ := e4
    refine ⟨q2, _, _, _, rfl, rfl, SqL.of l8, e5, ?_⟩
    -- the five pairs
    have e6 : ∃ z4, atI [V.str m4, .str m4, .str z] n5 = some (.str z4) ∧ goodName z4 := by
      rcases below3 a5 b5 with rfl | rfl | rfl
      · exact ⟨m4, rfl, g4⟩
      · exact ⟨m4, rfl, g4⟩
      · exact ⟨z, rfl, gz⟩
    obtain ⟨z4, e7, gz4⟩ := e6
    refine ⟨_, rfl, p, _, _, _, rfl, rfl, SqL.of h8, rfl, by show 2 ≤ sizeLine; decide, fun r0 k0 => ?_⟩
    have h9 := upd_keep (o := .tup [V.str m0, .int 0]) h8 k0
    have w0 : upd H8 r0 (.tup [V.str m0, .int 0]) r0 = some (.tup [V.str m0, .int 0]) := upd_same
    have S9 := S8.trans (But.of (same_new k0 (.tup [V.str m0, .int 0])))
    have D9 := D8.same (same_new k0 (.tup [V.str m0, .int 0]))
    refine ⟨_, rfl, p, _, _, _, rfl, rfl, SqL.of h9, rfl, by show 2 ≤ sizeLine; decide, fun r1 k1 => ?_⟩
    generalize upd H8 r0 (.tup [V.str m0, .int 0]) = H9 at h9 w0 S9 D9 k1
    have h10 := upd_keep (o := .tup [V.str m1, .int 0]) h9 k1
    have w1 : upd H9 r1 (.tup [V.str m1, .int 0]) r1 = some (.tup [V.str m1, .int 0]) := upd_same
    have w10 := upd_keep (o := .tup [V.str m1, .int 0]) w0 k1
    have S10 := S9.trans (But.of (same_new k1 (.tup [V.str m1, .int 0])))
    have D10 := D9.same (same_new k1 (.tup [V.str m1, .int 0]))
    refine ⟨_, rfl, p, _, _, _, rfl, rfl, SqL.of h10, rfl, by show 2 ≤ sizeLine; decide, fun r2 k2 => ?_⟩
    generalize upd H9 r1 (.tup [V.str m1, .int 0]) = H10 at h10 w1 w10 S10 D10 k2
    have w2 : upd H10 r2 (.tup [V.str m2, .int 0]) r2 = some (.tup [V.str m2, .int 0]) := upd_same
    have w20 := upd_keep (o := .tup [V.str m2, .int 0]) w10 k2
    have w21 := upd_keep (o := .tup [V.str m2, .int 0]) w1 k2
    have h11 := upd_keep (o := .tup [V.str m2, .int 0]) h10 k2
    have S11 := S10.trans (But.of (same_new k2 (.tup [V.str m2, .int 0])))
    have D11 := D10.same (same_new k2 (.tup [V.str m2, .int 0]))
    refine ⟨_, rfl, by show 2 ≤ sizeLine; decide, fun r3 k3 => ?_⟩
    generalize upd H10 r2 (.tup [V.str m2, .int 0]) = H11 at h11 w2 w20 w21 S11 D11 k3
    have w3 : upd H11 r3 (.tup [V.str z, .int 1]) r3 = some (.tup [V.str z, .int 1]) := upd_same
    have w30 := upd_keep (o := .tup [V.str z, .int 1]) w20 k3
    have w31 := upd_keep (o := .tup [V.str z, .int 1]) w21 k3
    have w32 := upd_keep (o := .tup [V.str z, .int 1]) w2 k3
    have h12 := upd_keep (o := .tup [V.str z, .int 1]) h11 k3
    have S12 := S11.trans (But.of (same_new k3 (.tup [V.str z, .int 1])))
    have D12 := D11.same (same_new k3 (.tup [V.str z, .int 1]))
    refine ⟨_, rfl, p, _, _, _, rfl, rfl, SqL.of h12, rfl, _, rfl, p, _, _, _, rfl, rfl, SqL.of h12, rfl, _, rfl, by show 3 ≤ sizeLine; decide, fun q3 k4 => ?_⟩
    generalize upd H11 r3 (.tup [V.str z, .int 1]) = H12 at h12 w3 w30 w31 w32 S12 D12 k4
    refine ⟨_, rfl, q3, _, _, _, rfl, rfl, SqL.of upd_same, e7, _, rfl, by show 2 ≤ sizeLine; decide, fun r4 k5 => ?_⟩
    have X13 : Same H12 (upd H12 q3 (.lst [V.str m4, .str m4, .str z])) := same_new k4 _
    generalize upd H12 q3 (.lst [V.str m4, .str m4, .str z]) = H13 at X13 k5
    have X14 := X13.trans (same_new k5 (.tup [V.str z4, .int m]))
    have w4 : upd H13 r4 (.tup [V.str z4, .int m]) r4 = some (.tup [V.str z4, .int m]) := upd_same
    generalize upd H13 r4 (.tup [V.str z4, .int m]) = H14 at X14 w4
    refine ⟨by show 5 ≤ sizeLine; decide, fun l hl2 => ?_⟩
    have X15 := same_new hl2 (.lst [V.ref r0, .ref r1, .ref r2, .ref r3, .ref r4])
    have X := X14.trans X15
    have pr : ∀ {H : Hp} {r : Addr} {x : Str} {i : Int}, H r = some (.tup [V.str x, .int i]) → DaAt H (.ref r) (.tup [.str x, .int i]) := fun h => .tup h (.cons .str (.one .int))
    refine q l [.tup [.str m0, .int 0], .tup [.str m1, .int 0], .tup [.str m2, .int 0], .tup [.str z, .int 1], .tup [.str z4, .int m]] _ ?_ (S12.trans (But.of X)) (D12.same X) ⟨_, upd_same, ?_⟩ ⟨m0, m1, m2, z, z4, m, rfl, g0, g1, g2, gz, gz4, hm⟩
    · cases hq : H l with
      | none => rfl
      | some o =>
        by_cases hld : l = d
        · obtain ⟨_, k6⟩ := (D12.same X14).lst
          rw [hld, k6] at hl2
          cases hl2
        · have := X14 _ _ (S12 _ _ hld hq)
          rw [this] at hl2
          cases hl2
    · exact .cons (pr (X _ _ w30)) (.cons (pr (X _ _ w31)) (.cons (pr (X _ _ w32)) (.cons (pr (X _ _ w3)) (.one (pr (X15 _ _ w4))))))
end

/-- a drawn term -/
def spTerm (K : PySem.W.Frag) (n : Nat) : Sp := fun vs H Q _ => ∃ (d l : Addr) (ds : List Da) (deep : Int), vs = [.ref d, .ref l, .int deep] ∧ DiceAt K H d ∧ LD H l ds ∧ WorksD ds ∧ 0 ≤ deep ∧ deep < n ∧
  ∀ (v : V) (t : Tm) H', But d H H' → DiceAt K H' d → DaAt H' v t.da → t.good → (t.depth : Int) ≤ deep + 1 → (deep = 0 → t.count = 1) → (t.count + 1 ≤ 5 * 2 ^ deep.toNat) → Q v H'
theorem works_ne {K : PySem.W.Frag} {H : Hp} {d l : Addr} {ds : List Da} (h : DiceAt K H d) (hl : LD H l ds) (hw : WorksD ds) : l ≠ d := by
  obtain ⟨_, _, _, _, _, h1, _⟩ := h
  obtain ⟨vs, h2, h3⟩ := hl
  obtain ⟨_, _, _, _, _, _, rfl, _⟩ := hw
  obtain ⟨v, r, rfl, h4, _⟩ := h3.cons_inv
  obtain ⟨a, _, rfl, _, _⟩ := h4.tup_inv
  intro z
  subst z
  rw [h1] at h2
  have := Option.some.inj h2
  simp at this
theorem LD.but {K : PySem.W.Frag} {H H' : Hp} {d l : Addr} {ds : List Da} (b : But d H H') (h : DiceAt K H d) (n : l ≠ d) (hl : LD H l ds) : LD H' l ds := by
  obtain ⟨vs, h2, h3⟩ := hl
  exact ⟨vs, b _ _ n h2, h3.mono (b.tx h)⟩
theorem works_at {ds : List Da} (hw : WorksD ds) {i : Int} (h0 : 0 ≤ i) (h1 : i < 5) : ∃ nm m, atI ds i = some (.tup [.str nm, .int m]) ∧ goodName nm ∧ (i < 3 → m = 0) ∧ 0 ≤ m ∧ m ≤ 3 := by
  obtain ⟨n0, n1, n2, n3, n4, m, rfl, g0, g1, g2, g3, g4, hm⟩ := hw
  have : i = 0 ∨ i = 1 ∨ i = 2 ∨ i = 3 ∨ i = 4 := by omega
  rcases this with rfl | rfl | rfl | rfl | rfl
  · exact ⟨n0, 0, rfl, g0, fun _ => rfl, by omega, by omega⟩
  · exact ⟨n1, 0, rfl, g1, fun _ => rfl, by omega, by omega⟩
  · exact ⟨n2, 0, rfl, g2, fun _ => rfl, by omega, by omega⟩
  · exact ⟨n3, 1, rfl, g3, fun h => absurd h (by omega), by omega, by omega⟩
  · exact ⟨n4, m, rfl, g4, fun h => absurd h (by omega), by omega, by omega⟩
theorem Tm.counts_le {B : Nat} : ∀ {l : List Tm}, (∀ t ∈ l, t.count ≤ B) → Tm.counts l ≤ l.length * B
  | [], _ => by simp [Tm.counts]
  | t :: r, h => by
    have h1 := h t (by simp)
    have h2 := Tm.counts_le (l := r) fun x hx => h x (by simp [hx])
    simp only [Tm.counts, List.length_cons, Nat.add_mul, Nat.one_mul]
    omega
abbrev s__law_term : Stmt := top 25
theorem sc__law_term : FnScope ["_law_d", "_law_works_here", "_law_deep", "_law_name", "_law_many", "_law_k"] ["_law_d", "_law_works_here", "_law_deep"] (defScope s__law_term) := ⟨rfl, rfl, rfl, by decide +kernel, rfl, by decide +kernel, by decide +kernel⟩
section
variable {e : Ev} (B : Bl e)
include B
theorem ok_term (A__law_term : At e "_law_term" ["_law_d", "_law_works_here", "_law_deep"] s__law_term) (h__law_off : Has e 2 "_law_off" ["_law_d", "_law_most"] (spOff e.K)) : ∀ n : Nat, Has e (n + 2) "_law_term" ["_law_d", "_law_works_here", "_law_deep"] (spTerm e.K n)
  | 0 => (A__law_term.zero (fun vs H Q E h => by obtain ⟨_, _, _, _, _, _, _, _, h0, h1, _⟩ := h; omega)).mono (by omega)
  | n + 1 => by
    have h__law_term := ok_term A__law_term h__law_off n
    refine A__law_term.ok sc__law_term (fun vs H Q E h => ?_) (fun f cdv A outer s H vs Q E hr h => ?_)
    · obtain ⟨d, l, ds, deep, rfl, _⟩ := h
      rfl
    obtain ⟨d, l, ds, deep, rfl, hD, hL, hW, h0, h1, q⟩ := h
    have nd := sc__law_term.nd
    have hls := sizeLine_eq
    refine ⟨_, pss_cons (ps_asg (pe_ix ix_listD (pv 1) (pe_callH h__law_off hr (pa_cons (pv 0) (pa_cons (pe_ix ix_list (pe_lst (pa_cons pe_int (pa_cons pe_int pa_nil))) (pe_ty call_int1 B.int (pa_cons (pe_cmpR op_gt (pv 2) pe_int (nomark _)) pa_nil)) (fun _ _ => rfl)) pa_nil))) (fun _ _ => rfl)) (pg_tup (by rfl) (pgs_cons (pg_nm 3 nd) (pgs_cons (pg_nm 4 nd) pgs_nil))))
    (pss_cons (ps_cut (ps_if (pt_cmpR op_eq (pv 4) pe_int (nomark _))
      (pss_one (ps_st 2 nd pe_int))
      (pss_nil)))
    (pss_one (ps_ret (pe_op op_catD (pe_tup (pa_cons (pv 3) pa_nil)) (pe_ty call_tupL B.tuple (pa_cons (pe_lc (own := [("_law_k", 5)]) (by rfl) nd (pi_range1 (by rfl) B.range (pa_cons (pv 4) pa_nil)) (blkOk_by (N := ["_law_d", "_law_works_here", "_law_deep", "_law_name", "_law_many", "_law_k"]) (sc := defScope s__law_term) (by decide +kernel)) (fun _ _ _ _ _ => pg_nm 5 nd) (fun _ _ _ _ _ => pts_nil) (fun _ _ _ _ _ => pe_callH h__law_term hr (pa_cons (pv 0) (pa_cons (pv 1) (pa_cons (pe_op op_sub (pv 2) pe_int) pa_nil))))) pa_nil)))))), ?_⟩
    have ndl := works_ne hD hL hW
    -- the name and how many parts
    have e1 : ∃ k, atI [V.int 3, .int 5] (if decide (deep > 0) = true then 1 else 0) = some (.int k) ∧ 0 < k ∧ k ≤ 5 ∧ (deep = 0 → k = 3) := by
      by_cases c : deep > 0
      · rw [decide_eq_true c]
        exact ⟨5, rfl, by omega, by omega, fun z => by omega⟩
      · rw [decide_eq_false c]
        exact ⟨3, rfl, by omega, by omega, fun _ => rfl⟩
    obtain ⟨k, e2, k0, k5, k3⟩ := e1
    refine ⟨_, rfl, _, rfl, by show 2 ≤ sizeLine; decide, fun p hp => ⟨_, rfl, _, _, rfl, rfl, .inr ⟨_, rfl, ?_⟩⟩⟩
    have S1 := same_new hp (.lst [V.int 3, .int 5])
    refine ⟨p, _, _, _, rfl, rfl, SqL.of upd_same, e2, d, k, rfl, hD.same S1, k0, by omega, fun i H2 i0 i1 t2 D2 => ?_⟩
    have T2 : But d H H2 := (But.of S1).trans t2
    have L2 : LD H2 l ds := LD.but T2 hD ndl hL
    obtain ⟨nm, m, e3, gn, m3, m0, mm⟩ := works_at hW i0 (by omega)
    refine ⟨l, ds, i, _, rfl, L2, rfl, e3, fun v hv => ?_⟩
    obtain ⟨a, vs, rfl, hv1, hv2⟩ := hv.tup_inv
    obtain ⟨v1, r1, rfl, hn1, hr1⟩ := hv2.cons_inv
    obtain ⟨v2, r2, rfl, hn2, hr2⟩ := hr1.cons_inv
    obtain rfl := hn1.str_inv
    obtain rfl := hn2.int_inv
    obtain rfl := hr2.nil_inv
    refine ⟨a, _, rfl, SqT.of hv1, rfl, _, _, rfl, _, _, rfl, rfl, ?_⟩
    -- the rest, however deep
    have hdeep : m ≠ 0 → 0 < deep := fun hm => by
      by_cases z : deep = 0
      · have := k3 z
        exact absurd (m3 (by omega)) hm
      · omega
    refine ⟨fun σ' H' => ∃ dp : Int, σ' = [some (.ref d), some (.ref l), some (.int dp), some (.str nm), some (.int m), none] ∧ H2 = H' ∧ (m ≠ 0 → 0 < dp ∧ dp ≤ deep) ∧ (m = 3 → dp = 1), ⟨_, rfl, rfl, _, rfl, ?_⟩, ?_⟩
    · refine ite2 (fun c => ?_) (fun c => ?_)
      · exact ⟨1, rfl, rfl, fun hm => ⟨by omega, hdeep hm⟩, fun _ => rfl⟩
      · have c' : ¬ V.int m = V.int 3 := of_decide_eq_false (Bool.eq_false_iff.mpr c)
        exact ⟨deep, rfl, rfl, fun hm => ⟨hdeep hm, Int.le_refl _⟩, fun z => absurd (by rw [z]) c'⟩
    · rintro σ' H' ⟨dp, rfl, rfl, hdp, hdp3⟩
      refine ⟨_, rfl, by show 1 ≤ sizeLine; decide, fun p3 hp3 => ?_⟩
      have S3 := same_new hp3 (.tup [V.str nm])
      have w3 : upd H2 p3 (.tup [V.str nm]) p3 = some (.tup [V.str nm]) := upd_same
      have D3 := D2.same S3
      have L3 := L2.mono S3
      have T3 : But d H _ := T2.trans (But.of S3)
      generalize upd H2 p3 (.tup [V.str nm]) = H3 at S3 w3 D3 L3 T3
      refine ⟨_, rfl, m, rfl, by omega, by omega, fun R hR => lc_range (n := m.toNat) (fun i H' => ∃ (acc : List V) (ts : List Tm), H' R = some (.lst acc) ∧ But d H3 H' ∧ DiceAt e.K H' d ∧ DasAt H' acc (ts.map Tm.da) ∧ ts.length = i ∧ Tm.goods ts ∧
        (∀ t ∈ ts, (t.depth : Int) ≤ dp ∧ (dp = 1 → t.count = 1) ∧ t.count + 1 ≤ 5 * 2 ^ (dp - 1).toNat)) ?_ ?_ ?_⟩
      · have S4 := same_new hR (.lst [])
        exact ⟨[], [], upd_same, But.of S4, D3.same S4, .nil, rfl, by simp [Tm.goods], by simp⟩
      · rintro i H' hi ⟨acc, ts, hRl, T, D, hA, hl, hg, hb⟩
        have hm1 : m ≠ 0 := by omega
        obtain ⟨d0, d1⟩ := hdp hm1
        refine ⟨rfl, _, rfl, _, rfl, _, rfl, _, _, rfl, rfl, d, l, ds, dp - 1, rfl, D, LD.but T D3 ndl L3, hW, by omega, by omega, fun v t H'' T' D' hv g1 g2 g3 g4 => ?_⟩
        have nRd : R ≠ d := fun z => by
          obtain ⟨_, hd3⟩ := D3.lst
          rw [z, hd3] at hR
          cases hR
        have hR' := T' _ _ nRd hRl
        have X := TX.lst (o := .lst (acc ++ [v])) hR'
        refine ⟨acc, hR', ?_, acc ++ [v], ts ++ [t], upd_same, ?_, ?_, ?_, ?_, ?_, ?_⟩
        · rw [hA.length, List.length_map]
          omega
        · exact fun b o nb hb' => by
            have h2 := T' _ _ nb (T _ _ nb hb')
            rw [upd_ne (ne_of_none hb' hR)]
            exact h2
        · exact D'.tx X (upd_ne nRd.symm)
        · rw [List.map_append]
          exact ((hA.mono (T'.tx D)).append (.one hv)).mono X
        · rw [List.length_append, hl]; rfl
        · rw [Tm.goods_iff] at hg ⊢
          intro t' ht'
          rcases List.mem_append.mp ht' with z | z
          · exact hg t' z
          · rw [List.mem_singleton.mp z]; exact g1
        · intro t' ht'
          rcases List.mem_append.mp ht' with z | z
          · exact hb t' z
          · rw [List.mem_singleton.mp z]
            exact ⟨by omega, fun z => g3 (by omega), g4⟩
      · rintro H' ⟨acc, ts, hRl, T, D, hA, hl, hg, hb⟩
        refine ⟨R, ts.map Tm.da, rfl, ⟨acc, hRl, hA⟩, fun v2 H'' S2 hv2 => ?_⟩
        have w4 : H'' p3 = some (.tup [V.str nm]) := S2 _ _ ((T.tx D3).tup w3)
        refine ⟨[.str nm], ts.map Tm.da, .tup w4 (.one .str), hv2, by rw [List.length_map, List.length_singleton]; omega, fun v5 H5 S5 hv5 => ?_⟩
        have et : (Tm.mk nm ts).da = .tup ([.str nm] ++ ts.map Tm.da) := by rw [Tm.da_eq]; rfl
        refine q v5 (.mk nm ts) H5 (T3.trans (T.trans ((But.of S2).trans (But.of S5)))) ((D.same S2).same S5) (by rw [et]; exact hv5) ⟨gn, by omega, hg⟩ ?_ ?_ ?_
        · by_cases hm1 : m = 0
          · have : ts = [] := List.length_eq_zero_iff.mp (by omega)
            subst this
            simp only [Tm.depth, Tm.depths]
            omega
          · obtain ⟨d0, d1⟩ := hdp hm1
            have : Tm.depths ts ≤ dp.toNat := Tm.depths_le.mpr fun t ht => by have := (hb t ht).1; omega
            simp only [Tm.depth]
            omega
        · intro z
          have hm1 : m = 0 := by
            have := k3 z
            exact m3 (by omega)
          have : ts = [] := List.length_eq_zero_iff.mp (by omega)
          subst this
          rfl
        · by_cases hm1 : m = 0
          · have : ts = [] := List.length_eq_zero_iff.mp (by omega)
            subst this
            have : 1 ≤ 2 ^ deep.toNat := Nat.one_le_two_pow
            simp only [Tm.count, Tm.counts]
            omega
          · obtain ⟨d0, d1⟩ := hdp hm1
            have e4 : deep.toNat = (deep - 1).toNat + 1 := by omega
            have p1 : 1 ≤ 2 ^ (deep - 1).toNat := Nat.one_le_two_pow
            rw [e4, Nat.pow_succ]
            by_cases hm3 : m = 3
            · have c1 : Tm.counts ts ≤ ts.length * 1 := Tm.counts_le fun t ht => by have := (hb t ht).2.1 (hdp3 hm3); omega
              simp only [Tm.count]
              omega
            · have p2 : 2 ^ (dp - 1).toNat ≤ 2 ^ (deep - 1).toNat := Nat.pow_le_pow_right (by omega) (by omega)
              have c1 : Tm.counts ts ≤ ts.length * (5 * 2 ^ (deep - 1).toNat - 1) := Tm.counts_le fun t ht => by have := (hb t ht).2.2; omega
              have c2 : ts.length ≤ 2 := by omega
              have c3 : ts.length * (5 * 2 ^ (deep - 1).toNat - 1) ≤ 2 * (5 * 2 ^ (deep - 1).toNat - 1) := Nat.mul_le_mul_right _ c2
              simp only [Tm.count]
              omega
end

abbrev s_is_name : Stmt := top 13
theorem sc_is_name : FnScope ["text", "sign"] ["text"] (defScope s_is_name) := ⟨rfl, rfl, rfl, by decide +kernel, rfl, by decide +kernel, by decide +kernel⟩
section
variable {e : Ev} (B : Bl e)
include B
theorem ok_is_name (A_is_name : At e "is_name" ["text"] s_is_name) (k_LETTERS : Cst e "LETTERS" (.str "abcdefghijklmnopqrstuvwxyz")) (k_MOST_LETTERS : Cst e "MOST_LETTERS" (.int 6)) : Has e 1 "is_name" ["text"] spIsName := by
  refine A_is_name.ok sc_is_name (fun vs H Q E h => ?_) (fun f cdv A outer s H vs Q E hr h => ?_)
  · obtain ⟨z, rfl, _⟩ := h
    rfl
  obtain ⟨z, rfl, hz, q⟩ := h
  have nd := sc_is_name.nd
  have hls := sizeLine_eq
  refine ⟨_, pss_cons (ps_for PassesOwn.never rfl (pi_str (pv 0)) (pg_nm 1 nd)
      (pss_one (ps_if (pt_cmpR op_notIn_sign (pv 1) (pe_cst k_LETTERS) (by rfl))
        (pss_one (ps_ret pe_bl))
        (pss_nil))))
    (pss_one (ps_ret (pe_chain op_le op_le pe_int (pe_b call_len_str B.len (pa_cons (pv 0) pa_nil)) (pe_cst k_MOST_LETTERS)))), ?_⟩
  refine ⟨_, rfl, z, rfl, for_it walk_str (fun i σ H' => (∃ a, σ = [some (.str z), a]) ∧ H' = H ∧ ∀ c ∈ z.cps.toList.take i, letter c = true) ⟨⟨_, rfl⟩, rfl, by simp⟩ (fun _ _ _ _ _ => trivial) ?_ ?_⟩
  · rintro i x σ _ H2 hi ⟨⟨a, rfl⟩, rfl, hp⟩ ⟨rfl, c, hc, rfl⟩
    refine ⟨_, rfl, c, _, rfl, rfl, _, rfl, ?_⟩
    have hc' : z.cps.toList[i]? = some c := by simpa using hc
    rw [abc_dec]
    cases hl : letter c with
    | false =>
      have e1 : nameB z = false := by
        unfold nameB
        rw [Bool.and_eq_false_iff]
        left
        rw [List.all_eq_false]
        exact ⟨c, List.mem_of_getElem? hc', by rw [hl]; decide⟩
      rw [e1] at q
      exact q
    | true =>
      refine ⟨⟨_, rfl⟩, rfl, fun c2 h2 => ?_⟩
      rw [take_snoc hc'] at h2
      rcases List.mem_append.mp h2 with h2 | h2
      · exact hp c2 h2
      · rw [List.mem_singleton.mp h2]; exact hl
  · rintro σ _ ⟨⟨a, rfl⟩, rfl, hp⟩
    refine ⟨_, rfl, z, rfl, by omega, _, _, rfl, rfl, _, rfl, ?_⟩
    have hall : z.cps.toList.all letter = true := List.all_eq_true.mpr fun c hc => hp c (by rw [show z.cps.size = z.cps.toList.length by simp, List.take_length]; exact hc)
    have e1 : nameB z = (decide (1 ≤ z.length) && decide (z.length ≤ 6)) := by unfold nameB; rw [hall]; rfl
    rw [e1] at q
    by_cases h1 : 1 ≤ z.length
    · have h1' : (1 : Int) ≤ ((z.length : Nat) : Int) := by omega
      have e2 : decide ((1 : Int) ≤ ((z.length : Nat) : Int)) = true := decide_eq_true h1'
      rw [e2]
      refine ⟨_, _, rfl, rfl, ?_⟩
      have e3 : decide (((z.length : Nat) : Int) ≤ 6) = decide (z.length ≤ 6) := by
        by_cases h2 : z.length ≤ 6
        · rw [decide_eq_true h2]; exact decide_eq_true (by omega)
        · rw [decide_eq_false h2]; exact decide_eq_false (by omega)
      show Q (.bl (decide (((z.length : Nat) : Int) ≤ 6))) _
      rw [e3]
      rw [decide_eq_true h1, Bool.true_and] at q
      exact q
    · have e2 : decide ((1 : Int) ≤ ((z.length : Nat) : Int)) = false := decide_eq_false (by omega)
      rw [e2]
      rw [decide_eq_false h1, Bool.false_and] at q
      exact q
end

abbrev s_names_in : Stmt := top 14
theorem sc_names_in : FnScope ["term", "part"] ["term"] (defScope s_names_in) := ⟨rfl, rfl, rfl, by decide +kernel, rfl, by decide +kernel, by decide +kernel⟩
section
variable {e : Ev} (B : Bl e)
include B
theorem ok_names_in (A_names_in : At e "names_in" ["term"] s_names_in) : ∀ n : Nat, Has e n "names_in" ["term"] (spNames n)
  | 0 => A_names_in.zero fun vs H Q E h => by
    obtain ⟨_, t, _, _, _, h, _⟩ := h
    have := t.depth_pos
    omega
  | n + 1 => by
    have h_names_in := ok_names_in A_names_in n
    refine A_names_in.ok sc_names_in (fun vs H Q E h => ?_) (fun f cdv A outer s H vs Q E hr h => ?_)
    · obtain ⟨v, t, rfl, _⟩ := h
      rfl
    obtain ⟨v, t, rfl, hv, hs, hn, q⟩ := h
    have nd := sc_names_in.nd
    refine ⟨_, pss_one (ps_ret (pe_op op_add pe_int (pe_b (cr_sum rfl) B.sum (pa_cons (pe_lc (own := [("part", 1)]) (by rfl) nd (pi_tup (pe_slice sl_tupD (pv 0) (po_some pe_int) po_none)) (blkOk_by (N := ["term", "part"]) (sc := defScope s_names_in) (by decide +kernel)) (fun _ _ _ _ _ => pg_nm 1 nd) (fun _ _ _ _ _ => pts_nil) (fun _ _ _ _ _ => pe_callH h_names_in hr (pa_cons (pv 1) pa_nil))) pa_nil)))), ?_⟩
    rw [Tm.da_eq] at hv
    refine ⟨v, rfl, 1, rfl, _, hv, fun v2 H2 S2 hv2 => ?_⟩
    rw [cutD_tail] at hv2
    refine lc_tupD (F := fun t : Tm => .int t.count) hv2 (Nat.le_trans (Tm.short_len hs) (by decide)) (fun x p H3 hp hx S3 Q' N k => ?_) (fun D H3 hD S3 ⟨ws, h3, hw⟩ => ?_)
    · refine ⟨rfl, _, rfl, x, p, rfl, hx, Tm.short_part hs hp, by have := Tm.parts_depth hp; omega, fun H4 S4 => k _ _ S4 .int⟩
    · have hw' : DasAt H3 ws ((t.parts.map fun t => (t.count : Int)).map Da.int) := by rw [List.map_map]; exact hw
      have ew := das_ints hw'
      subst ew
      refine ⟨D, _, rfl, SqL.of h3, _, _, rfl, rfl, ?_⟩
      have e1 : (1 : Int) + (t.parts.map fun t => (t.count : Int)).sum = (t.count : Int) := by
        rw [counts_sum]
        have := Tm.counts_parts t
        omega
      show Q (.int (1 + (t.parts.map fun t => (t.count : Int)).sum)) H3
      rw [e1]
      exact q _ (S2.trans S3)
end

abbrev s__law_text : Stmt := top 28
theorem sc__law_text : FnScope ["_law_term_here", "_law_part"] ["_law_term_here"] (defScope s__law_text) := ⟨rfl, rfl, rfl, by decide +kernel, rfl, by decide +kernel, by decide +kernel⟩
section
variable {e : Ev} (B : Bl e)
include B
theorem ok__law_text (A__law_text : At e "_law_text" ["_law_term_here"] s__law_text) : ∀ n : Nat, Has e n "_law_text" ["_law_term_here"] (spShown n)
  | 0 => A__law_text.zero fun vs H Q E h => by
    obtain ⟨_, t, _, _, _, h, _⟩ := h
    have := t.depth_pos
    omega
  | n + 1 => by
    have h__law_text := ok__law_text A__law_text n
    refine A__law_text.ok sc__law_text (fun vs H Q E h => ?_) (fun f cdv A outer s H vs Q E hr h => ?_)
    · obtain ⟨v, t, rfl, _⟩ := h
      rfl
    obtain ⟨v, t, rfl, hv, hs, hn, hl, q⟩ := h
    have nd := sc__law_text.nd
    have hls := sizeLine_eq
    refine ⟨_, pss_cons (ps_if (pt_cmpR op_eq (pe_b call_lenT B.len (pa_cons (pv 0) pa_nil)) pe_int (nomark _))
      (pss_one (ps_ret (pe_ix ix_tupD (pv 0) pe_int (fun _ _ => rfl))))
      (pss_nil))
    (pss_one (ps_ret (pe_op op_add_str (pe_op op_add_str (pe_op op_add_str (pe_ix ix_tupD (pv 0) pe_int (fun _ _ => rfl)) pe_str) (pe_join pe_str (pe_lc (own := [("_law_part", 1)]) (by rfl) nd (pi_tup (pe_slice sl_tupD (pv 0) (po_some pe_int) po_none)) (blkOk_by (N := ["_law_term_here", "_law_part"]) (sc := defScope s__law_text) (by decide +kernel)) (fun _ _ _ _ _ => pg_nm 1 nd) (fun _ _ _ _ _ => pts_nil) (fun _ _ _ _ _ => pe_callH h__law_text hr (pa_cons (pv 1) pa_nil))))) pe_str))), ?_⟩
    have hv' := hv
    rw [Tm.da_eq] at hv
    refine ⟨_, rfl, v, _, rfl, hv, rfl, _, rfl, ?_⟩
    refine ite2 (fun c => ?_) (fun c => ?_)
    · have c' : V.int ((Da.str t.name :: t.parts.map Tm.da).length : Nat) = V.int 1 := of_decide_eq_true c
      have c2 : (((Da.str t.name :: t.parts.map Tm.da).length : Nat) : Int) = 1 := by injection c'
      have c3 : t.parts = [] := List.length_eq_zero_iff.mp (by simp only [List.length_cons, List.length_map] at c2; omega)
      refine ⟨_, rfl, _, 0, _, hv, rfl, at0, fun w hw => ?_⟩
      obtain rfl := hw.str_inv
      have e1 : t.text = t.name := by
        cases t with
        | mk n ps =>
          obtain rfl : ps = [] := c3
          refine str_ext ?_
          rw [text_cps, Tm.codes_nil]
          rfl
      rw [e1] at q
      exact q _ (Same.refl _)
    · have c' : ¬ V.int ((Da.str t.name :: t.parts.map Tm.da).length : Nat) = V.int 1 := of_decide_eq_false (Bool.eq_false_iff.mpr c)
      have c3 : t.parts ≠ [] := fun z => c' (by rw [z]; rfl)
      refine ⟨_, rfl, _, 0, _, hv, rfl, at0, fun w hw => ?_⟩
      obtain rfl := hw.str_inv
      have hn2 := Tm.short_name hs
      refine ⟨_, _, rfl, rfl, ?_, ⟨_, rfl⟩, v, rfl, 1, rfl, _, hv, fun v2 H2 S2 hv2 => ?_⟩
      · have : ("(" : Str).length = 1 := by decide +kernel
        omega
      rw [cutD_tail] at hv2
      refine lc_tupD (F := fun t : Tm => .str t.text) hv2 (Nat.le_trans (Tm.short_len hs) (by decide)) (fun x p H3 hp hx S3 Q' N k => ?_) (fun D H3 hD S3 ⟨ws, h3, hw⟩ => ?_)
      · exact ⟨rfl, _, rfl, x, p, rfl, hx, Tm.short_part hs hp, by have := Tm.parts_depth hp; omega, by have := codes_part hp; omega, fun H4 S4 => k _ _ S4 .str⟩
      · have ew := das_texts hw
        subst ew
        obtain ⟨p, ps, ep⟩ : ∃ p ps, t.parts = p :: ps := by
          cases h : t.parts with
          | nil => exact absurd h c3
          | cons p ps => exact ⟨p, ps, rfl⟩
        have ej : (Txt.join ("," : Str) (t.parts.map Tm.text)).cps.toList = Tm.codess p ps := by rw [ep]; exact join_texts p ps
        have et : t.codes = t.name.cps.toList ++ 40 :: (Tm.codess p ps ++ [41]) := by
          cases t with
          | mk n qs =>
            obtain rfl : qs = p :: ps := ep
            rw [Tm.codes_cons]
            rfl
        have el : t.codes.length = t.name.length + 1 + (Tm.codess p ps).length + 1 := by
          rw [et, len_cps]
          simp only [List.length_append, List.length_cons, List.length_nil]
          omega
        have e1 : ("(" : Str).cps.toList = [40] := by decide +kernel
        have e2 : (")" : Str).cps.toList = [41] := by decide +kernel
        have e3 : ("," : Str).length = 1 := by decide +kernel
        have hA : (t.name ++ ("(" : Str)).length = t.name.length + 1 := by rw [len_cps, app_cps, e1, List.length_append, ← len_cps]; rfl
        have hJ : (Txt.join ("," : Str) (t.parts.map Tm.text)).length = (Tm.codess p ps).length := by rw [len_cps, ej]
        have hB : (t.name ++ ("(" : Str) ++ Txt.join ("," : Str) (t.parts.map Tm.text)).length = t.name.length + 1 + (Tm.codess p ps).length := by
          rw [len_cps, app_cps, List.length_append, ← len_cps, ← len_cps, hA, hJ]
        have hC : (")" : Str).length = 1 := by decide +kernel
        refine ⟨",", D, t.parts.map Tm.text, rfl, rfl, .inl (SqL.of h3), ?_, _, _, rfl, rfl, ?_, _, _, rfl, rfl, ?_, ?_⟩
        · have s1 := codess_len p ps
          rw [ep, List.map_map, e3]
          have s2 : ((p :: ps).map ((fun x => x.length) ∘ Tm.text)) = (p :: ps).map fun t => t.codes.length := List.map_congr_left fun x _ => text_len x
          rw [s2, List.length_map, List.length_cons]
          omega
        · rw [hA, hJ]
          omega
        · rw [hB, hC]
          omega
        · have fin : t.name ++ ("(" : Str) ++ Txt.join ("," : Str) (t.parts.map Tm.text) ++ (")" : Str) = t.text := by
            refine str_ext ?_
            rw [app_cps, app_cps, app_cps, ej, text_cps, et, e1, e2]
            simp
          rw [fin]
          exact q _ (S2.trans S3)
end

abbrev s_Reader___init__ : Stmt := inClass (top 15) 0
theorem sc_Reader___init__ : FnScope ["self", "text"] ["self", "text"] (defScope s_Reader___init__) := ⟨rfl, rfl, rfl, by decide +kernel, rfl, by decide +kernel, by decide +kernel⟩
abbrev s_Reader_sign : Stmt := inClass (top 15) 1
theorem sc_Reader_sign : FnScope ["self"] ["self"] (defScope s_Reader_sign) := ⟨rfl, rfl, rfl, by decide +kernel, rfl, by decide +kernel, by decide +kernel⟩
abbrev s_Reader_term : Stmt := inClass (top 15) 2
theorem sc_Reader_term : FnScope ["self", "begin", "name"] ["self"] (defScope s_Reader_term) := ⟨rfl, rfl, rfl, by decide +kernel, rfl, by decide +kernel, by decide +kernel⟩
abbrev s_Reader_parts : Stmt := inClass (top 15) 3
theorem sc_Reader_parts : FnScope ["self", "found"] ["self"] (defScope s_Reader_parts) := ⟨rfl, rfl, rfl, by decide +kernel, rfl, by decide +kernel, by decide +kernel⟩
abbrev s_read : Stmt := top 16
theorem sc_read : FnScope ["text", "reader", "found"] ["text"] (defScope s_read) := ⟨rfl, rfl, rfl, by decide +kernel, rfl, by decide +kernel, by decide +kernel⟩
structure RdC (e : Ev) (C : Addr) : Prop where
  mg : e.mg "Reader" = some (.ref C)
  cl : Cls e.K C
  text : NoAttr e.K C "text"
  at_ : NoAttr e.K C "at"
/-- a reader of z, at the sign i -/
def RdAt (C : Addr) (H : Hp) (x dx : Addr) (z : Str) (i : Nat) : Prop := H x = some (.ins C dx [("text", .str z), ("at", .int i)])
def sgn (z : Str) (i : Nat) : Str := ⟨((z.cps.toList.drop i).take 1).toArray⟩
theorem sgn_nil {z : Str} {i : Nat} (h : z.cps.toList.drop i = []) : sgn z i = "" := by unfold sgn; rw [h]; rfl
theorem sgn_cons {z : Str} {i c : Nat} {r : List Nat} (h : z.cps.toList.drop i = c :: r) : sgn z i = ⟨#[c]⟩ := by unfold sgn; rw [h]; rfl
theorem drop_add {z : Str} {i j : Nat} : z.cps.toList.drop (i + j) = (z.cps.toList.drop i).drop j := by rw [List.drop_drop]
theorem cut_nat {z : Str} {i j : Nat} (h : i ≤ j) : cutS z (some (i : Int)) (some (j : Int)) = ⟨((z.cps.toList.drop i).take (j - i)).toArray⟩ := by
  unfold cutS
  rw [HT.sIx_nat, HT.sIx_nat, len_cps]
  by_cases h1 : i ≤ z.cps.toList.length
  · rw [Nat.min_eq_left h1]
    by_cases h2 : j ≤ z.cps.toList.length
    · rw [Nat.min_eq_left h2]
    · rw [Nat.min_eq_right (by omega)]
      have e1 : (z.cps.toList.drop i).length = z.cps.toList.length - i := List.length_drop
      rw [List.take_of_length_le (by omega), List.take_of_length_le (by omega)]
  · rw [Nat.min_eq_right (by omega), Nat.min_eq_right (by omega), List.drop_of_length_le (Nat.le_refl _), List.drop_of_length_le (by omega)]
    simp
theorem sgn_ne {z : Str} {i : Nat} {c : Nat} {r : List Nat} (h : z.cps.toList.drop i = c :: r) : V.str (sgn z i) ≠ V.str "" := fun z0 => by
  rw [sgn_cons h] at z0
  injection z0 with z0
  have e0 : ("" : Str).cps.toList = [] := by decide +kernel
  have : [c] = ("" : Str).cps.toList := congrArg (fun s : Str => s.cps.toList) z0
  rw [e0] at this
  cases this
theorem sgn_is {z : Str} {i : Nat} {c d : Nat} {r : List Nat} {s : Str} (hs : s.cps.toList = [d]) (h : z.cps.toList.drop i = c :: r) : V.str (sgn z i) = V.str s ↔ c = d := by
  rw [sgn_cons h]
  constructor
  · intro z0
    injection z0 with z0
    have := congrArg (fun s : Str => s.cps.toList) z0
    rw [hs] at this
    simpa using this
  · rintro rfl
    refine congrArg V.str (str_ext ?_)
    rw [hs]
theorem sgn_not {z : Str} {i : Nat} {d : Nat} {s : Str} (hs : s.cps.toList = [d]) (h : z.cps.toList.drop i = []) : V.str (sgn z i) ≠ V.str s := by
  rw [sgn_nil h]
  intro z0
  injection z0 with z0
  have e0 : ("" : Str).cps.toList = [] := by decide +kernel
  have : ("" : Str).cps.toList = s.cps.toList := congrArg (fun s : Str => s.cps.toList) z0
  rw [e0, hs] at this
  cases this
theorem dropWhile_head {p : Nat → Bool} : ∀ {l : List Nat} {c : Nat} {r : List Nat}, l.dropWhile p = c :: r → p c = false
  | [], _, _, h => by simp at h
  | x :: l, c, r, h => by
    rw [List.dropWhile_cons] at h
    split at h
    · exact dropWhile_head h
    · rename_i hx
      injection h with h _
      subst h
      simpa using hx
def spRInit (C : Addr) : Sp := fun vs H Q _ => ∃ (x dx : Addr) (z : Str), vs = [.ref x, .str z] ∧ H x = some (.ins C dx []) ∧ ∀ H', But x H H' → RdAt C H' x dx z 0 → Q .non H'
def spSign (C : Addr) : Sp := fun vs H Q _ => ∃ (x dx : Addr) (z : Str) (i : Nat), vs = [.ref x] ∧ RdAt C H x dx z i ∧ z.length ≤ 1000 ∧ Q (.str (sgn z i)) H
def spRTerm (C Cb : Addr) (n : Nat) : Sp := fun vs H Q E => ∃ (x dx : Addr) (z : Str) (i : Nat), vs = [.ref x] ∧ RdAt C H x dx z i ∧ z.length ≤ 1000 ∧ (z.cps.toList.drop i).count 40 < n ∧ n ≤ 60 ∧
  (∀ t r, pT n (z.cps.toList.drop i) = some (t, r) → ∀ v H' j, But x H H' → RdAt C H' x dx z j → z.cps.toList.drop j = r → DaAt H' v t.da → Q v H') ∧
  (pT n (z.cps.toList.drop i) = none → ∀ H', But x H H' → E (.ref Cb) none H')
def spRParts (C Cb : Addr) (n : Nat) : Sp := fun vs H Q E => ∃ (x dx : Addr) (z : Str) (i : Nat) (r : List Nat), vs = [.ref x] ∧ RdAt C H x dx z i ∧ z.length ≤ 1000 ∧ z.cps.toList.drop i = 40 :: r ∧ r.count 40 < n ∧ n ≤ 60 ∧
  (∀ ps q, pLa (pT n) (r.length + 1) [] r = some (ps, 41 :: q) → ps.length ≤ 3 → ∀ p H' j, But x H H' → H p = none → RdAt C H' x dx z j → z.cps.toList.drop j = q → LD H' p (ps.map Tm.da) → Q (.ref p) H') ∧
  ((∀ ps q, pLa (pT n) (r.length + 1) [] r = some (ps, 41 :: q) → ¬ ps.length ≤ 3) → ∀ H', But x H H' → E (.ref Cb) none H')
theorem RdAt.tx {C : Addr} {H H' : Hp} {x dx : Addr} {z : Str} {i : Nat} (h : RdAt C H x dx z i) (b : But x H H') : TX H H' := fun a o i e => b a _ (ne_of e h (fun z => by subst z; exact i)) e
section
variable {e : Ev} {Cb : Addr} (B : Bl e)
include B
theorem ok_rinit (A_Reader___init__ : AtI e C_Reader "Reader.__init__" ["self", "text"] s_Reader___init__) (c_Reader : RdC e C_Reader) : HasI e 1 C_Reader ["self", "text"] (spRInit C_Reader) := by
  refine A_Reader___init__.ok sc_Reader___init__ (fun vs H Q E h => ?_) (fun f cdv A outer s H vs Q E hr h => ?_)
  · obtain ⟨x, dx, z, rfl, _⟩ := h
    rfl
  obtain ⟨x, dx, z, rfl, h0, q⟩ := h
  have nd := sc_Reader___init__.nd
  refine ⟨_, pss_cons (ps_fld (pv 0) (pv 1) rfl)
    (pss_one (ps_fld (pv 0) pe_int rfl)), ?_⟩
  refine ⟨_, rfl, _, rfl, x, C_Reader, dx, [], rfl, h0, c_Reader.cl, c_Reader.text, by decide, ?_⟩
  refine ⟨_, rfl, x, C_Reader, dx, _, rfl, upd_same, c_Reader.cl, c_Reader.at_, (by show (1 : Nat) < 1000; decide), ?_⟩
  refine q _ ((But.put _ _).trans (But.put _ _)) ?_
  unfold RdAt
  rw [upd_same]
  rfl
theorem ok_sign (A_Reader_sign : AtM e C_Reader "sign" "Reader.sign" ["self"] s_Reader_sign) (c_Reader : RdC e C_Reader) : HasM e 1 C_Reader "sign" ["self"] (spSign C_Reader) := by
  refine A_Reader_sign.ok sc_Reader_sign (fun vs H Q E h => ?_) (fun f cdv A outer s H vs Q E hr h => ?_)
  · obtain ⟨x, dx, z, i, rfl, _⟩ := h
    rfl
  obtain ⟨x, dx, z, i, rfl, h0, hz, q⟩ := h
  have hls := sizeLine_eq
  refine ⟨_, pss_one (ps_ret (pe_slice sl_str (pe_fld (pv 0) rfl) (po_some (pe_fld (pv 0) rfl)) (po_some (pe_op op_add (pe_fld (pv 0) rfl) pe_int)))), ?_⟩
  refine ⟨_, rfl, x, C_Reader, dx, _, _, rfl, h0, c_Reader.cl, c_Reader.text, rfl, ?_⟩
  refine ⟨_, rfl, x, C_Reader, dx, _, _, rfl, h0, c_Reader.cl, c_Reader.at_, by rfl, _, rfl, ?_⟩
  refine ⟨_, rfl, x, C_Reader, dx, _, _, rfl, h0, c_Reader.cl, c_Reader.at_, by rfl, _, _, rfl, rfl, _, rfl, z, rfl, by omega, ?_⟩
  have e1 : ((i : Nat) : Int) + 1 = ((i + 1 : Nat) : Int) := by omega
  rw [e1, cut_nat (by omega), Nat.add_sub_cancel_left]
  exact q
theorem ok_rterm_succ (A_Reader_term : AtM e C_Reader "term" "Reader.term" ["self"] s_Reader_term) (c_Reader : RdC e C_Reader) (h_is_name : Has e 1 "is_name" ["text"] spIsName) (k_LETTERS : Cst e "LETTERS" (.str "abcdefghijklmnopqrstuvwxyz")) (k_BadText : ExK e "BadText" Cb)
    (h_Reader_sign : HasM e 1 C_Reader "sign" ["self"] (spSign C_Reader)) (n : Nat) (h_Reader_parts : HasM e (2 * n + 3) C_Reader "parts" ["self"] (spRParts C_Reader Cb n)) : HasM e (2 * (n + 1) + 2) C_Reader "term" ["self"] (spRTerm C_Reader Cb (n + 1)) := by
  refine A_Reader_term.okX (k := 2 * (n + 1) + 1) sc_Reader_term (fun vs H Q E h => ?_) (fun f cdv A outer s H vs Q E hr h => ?_)
  · obtain ⟨x, dx, z, i, rfl, _⟩ := h
    rfl
  obtain ⟨x, dx, z, i, rfl, h0, hz, hc', hn, q, qx⟩ := h
  have nd := sc_Reader_term.nd
  have hls := sizeLine_eq
  refine ⟨_, pss_cons (ps_st 1 nd (pe_fld (pv 0) rfl))
    (pss_cons (ps_cut (ps_while (passes_of rfl) (PW.pt (pw_and (pt_cmpR op_ne (pe_methH0 h_Reader_sign hr c_Reader.cl (pv 0)) pe_str (nomark _)) (pw_and1 (pt_cmpR op_in_sign (pe_methH0 h_Reader_sign hr c_Reader.cl (pv 0)) (pe_cst k_LETTERS) (by rfl)))))
      (pss_one (ps_fld (pv 0) (pe_op op_add (pe_fld (pv 0) rfl) pe_int) rfl))))
    (pss_cons (ps_st 2 nd (pe_slice sl_str (pe_fld (pv 0) rfl) (po_some (pv 1)) (po_some (pe_fld (pv 0) rfl))))
    (pss_cons (ps_if (pt_not (pt_val (pe_callH h_is_name hr (pa_cons (pv 2) pa_nil))))
      (pss_one (ps_raiseE k_BadText (takes_of rfl rfl rfl rfl)))
      (pss_nil))
    (pss_cons (ps_if (pt_cmpR op_ne (pe_methH0 h_Reader_sign hr c_Reader.cl (pv 0)) pe_str (nomark _))
      (pss_one (ps_ret (pe_tupD (pa_cons (pv 2) pa_nil))))
      (pss_nil))
    (pss_one (ps_ret (pe_op op_catD (pe_tupD (pa_cons (pv 2) pa_nil)) (pe_ty call_tupL B.tuple (pa_cons (pe_methX0 h_Reader_parts hr (takes_of rfl rfl rfl rfl) c_Reader.cl (pv 0)) pa_nil))))))))), ?_⟩
  refine ⟨_, rfl, x, C_Reader, dx, _, _, rfl, h0, c_Reader.cl, c_Reader.at_, by rfl, ?_⟩
  have esp : z.cps.toList.drop i = (z.cps.toList.drop i).takeWhile letter ++ (z.cps.toList.drop i).dropWhile letter := List.takeWhile_append_dropWhile.symm
  obtain ⟨tw, etw⟩ : ∃ tw, tw = (z.cps.toList.drop i).takeWhile letter := ⟨_, rfl⟩
  obtain ⟨dw, edw⟩ : ∃ dw, dw = (z.cps.toList.drop i).dropWhile letter := ⟨_, rfl⟩
  rw [← etw, ← edw] at esp
  have edrop : ∀ k, k ≤ tw.length → z.cps.toList.drop (i + k) = tw.drop k ++ dw := fun k hk => by
    rw [drop_add, esp, List.drop_append_of_le_length hk]
  refine ⟨fun σ H' => σ = [some (.ref x), some (.int i), none] ∧ But x H H' ∧ RdAt C_Reader H' x dx z (i + tw.length), ?_, ?_⟩
  · refine ⟨fun m σ H' => ∃ k, m = tw.length - k ∧ k ≤ tw.length ∧ σ = [some (.ref x), some (.int i), none] ∧ But x H H' ∧ RdAt C_Reader H' x dx z (i + k), ⟨_, 0, rfl, Nat.zero_le _, rfl, But.refl _, h0⟩, ?_⟩
    rintro m σ H' ⟨k, rfl, hk, rfl, b1, h1⟩
    refine ⟨_, rfl, x, dx, _, rfl, h1, by rfl, x, dx, z, i + k, rfl, h1, hz, rfl, _, rfl, ?_⟩
    have hd := edrop k hk
    by_cases hkl : k < tw.length
    · have hd2 : z.cps.toList.drop (i + k) = tw[k] :: (tw.drop (k + 1) ++ dw) := by rw [hd, List.drop_eq_getElem_cons hkl]; rfl
      have hlt : letter tw[k] = true := takeWhile_all (z.cps.toList.drop i) _ (by rw [← etw]; exact List.getElem_mem hkl)
      refine ite2 (fun c => ?_) (fun c => absurd (decide_eq_true (sgn_ne hd2)) (by simpa using c))
      refine ⟨_, rfl, x, dx, _, rfl, h1, by rfl, x, dx, z, i + k, rfl, h1, hz, tw[k], _, by rw [sgn_cons hd2], rfl, _, rfl, ?_⟩
      rw [abc_dec, hlt]
      refine ⟨fun σ H' => σ = [some (.ref x), some (.int i), none] ∧ But x H H' ∧ RdAt C_Reader H' x dx z (i + (k + 1)), fun σ' H'' ⟨e1, b2, h2⟩ => ⟨_, ?_, k + 1, rfl, hkl, e1, b2, h2⟩, ?_⟩
      · omega
      refine ⟨_, rfl, x, C_Reader, dx, _, _, rfl, h1, c_Reader.cl, c_Reader.at_, by rfl, _, _, rfl, rfl, _, rfl, x, C_Reader, dx, _, rfl, h1, c_Reader.cl, c_Reader.at_, by simp, rfl, b1.trans (But.put _ _), ?_⟩
      unfold RdAt
      rw [upd_same]
      rfl
    · obtain rfl : k = tw.length := by omega
      rw [List.drop_length, List.nil_append] at hd
      cases hdw : dw with
      | nil =>
        rw [hdw] at hd
        refine ite2 (fun c => ?_) (fun c => ⟨rfl, b1, h1⟩)
        rw [sgn_nil hd] at c
        exact absurd c (by decide +kernel)
      | cons c r =>
        rw [hdw] at hd
        refine ite2 (fun _ => ?_) (fun c => absurd (decide_eq_true (sgn_ne hd)) (by simpa using c))
        refine ⟨_, rfl, x, dx, _, rfl, h1, by rfl, x, dx, z, _, rfl, h1, hz, c, _, by rw [sgn_cons hd], rfl, _, rfl, ?_⟩
        have hl : letter c = false := by
          have := edw.symm.trans hdw
          exact dropWhile_head this
        rw [abc_dec, hl]
        exact ⟨rfl, b1, h1⟩
  · rintro σ H1 ⟨rfl, b1, h1⟩
    have hw : tw.length ≤ z.length := by
      have := congrArg List.length esp
      rw [List.length_drop, List.length_append] at this
      rw [len_cps]
      omega
    have ecut : cutS z (some (i : Int)) (some ((i + tw.length : Nat) : Int)) = ⟨tw.toArray⟩ := by
      rw [cut_nat (by omega), esp, Nat.add_sub_cancel_left, List.take_left]
    refine ⟨_, rfl, x, C_Reader, dx, _, _, rfl, h1, c_Reader.cl, c_Reader.text, by rfl, _, rfl, _, rfl, ?_⟩
    refine ⟨_, rfl, x, C_Reader, dx, _, _, rfl, h1, c_Reader.cl, c_Reader.at_, by rfl, _, rfl, z, rfl, by omega, ?_⟩
    rw [ecut]
    have hd := edrop tw.length (Nat.le_refl _)
    rw [List.drop_length, List.nil_append] at hd
    have hnl : (⟨tw.toArray⟩ : Str).length = tw.length := by rw [len_cps]
    have hnm : nameB ⟨tw.toArray⟩ = (decide (1 ≤ tw.length) && decide (tw.length ≤ 6)) := by
      unfold nameB
      rw [hnl, List.all_eq_true.mpr fun c hc => takeWhile_all (z.cps.toList.drop i) c (by rw [← etw]; simpa using hc)]
      rfl
    refine ⟨_, rfl, ⟨tw.toArray⟩, rfl, by rw [hnl]; omega, _, rfl, ?_⟩
    have epT : pT (n + 1) (z.cps.toList.drop i) = pT (n + 1) (z.cps.toList.drop i) := rfl
    conv at epT =>
      rhs
      rw [pT, ← etw, ← edw]
    by_cases hb : 1 ≤ tw.length ∧ tw.length ≤ 6
    · rw [hnm, decide_eq_true hb.1, decide_eq_true hb.2]
      rw [if_pos hb] at epT
      refine ⟨_, rfl, x, dx, _, rfl, h1, by rfl, x, dx, z, _, rfl, h1, hz, rfl, _, rfl, ?_⟩
      cases hdw : dw with
      | nil =>
        rw [hdw] at hd epT
        refine ite2 (fun _ => ?_) (fun c => absurd (decide_eq_true (sgn_not (d := 40) (s := "(") (by decide +kernel) hd)) (by simpa using c))
        refine ⟨_, rfl, [.str ⟨tw.toArray⟩], .one .str, by simp, fun v H2 S2 hv => ?_⟩
        exact q _ _ epT _ _ _ (b1.trans (But.of S2)) (S2 _ _ h1) hd (by rw [Tm.da_eq]; exact hv)
      | cons c r =>
        rw [hdw] at hd epT
        simp only at epT
        by_cases hc : c = 40
        · subst hc
          rw [if_pos rfl] at epT
          refine ite2 (fun z0 => ?_) (fun _ => ?_)
          · rw [decide_eq_true ((sgn_is (by decide +kernel) hd).mpr rfl)] at z0
            cases z0
          refine ⟨_, rfl, [.str ⟨tw.toArray⟩], .one .str, by simp, fun v H2 S2 hv => ?_⟩
          have h2 : RdAt C_Reader H2 x dx z (i + tw.length) := S2 _ _ h1
          refine ⟨_, rfl, x, dx, _, rfl, h2, by rfl, x, dx, z, _, r, rfl, h2, hz, hd, ?_, by omega, ?_, ?_⟩
          · rw [esp, hdw, List.count_append, List.count_cons_self] at hc'
            omega
          · intro ps q' e1 e2 p H3 j b3 hp h3 hj hl
            rw [e1] at epT
            simp only [true_and, e2, if_true] at epT
            have t3 : TX H2 H3 := h2.tx b3
            refine ⟨p, _, rfl, hl, fun v4 H4 S4 hv4 => ⟨_, _, (hv.mono t3).mono (TX.of_same S4), hv4, by simp only [List.length_map, List.length_cons, List.length_nil]; omega, fun v5 H5 S5 hv5 => ?_⟩⟩
            exact q _ _ epT _ _ _ (((b1.trans (But.of S2)).trans b3).trans ((But.of S4).trans (But.of S5))) (S5 _ _ (S4 _ _ h3)) hj (by rw [Tm.da_eq]; exact hv5)
          · intro e1 H3 b3
            refine qx ?_ _ ((b1.trans (But.of S2)).trans b3)
            rw [epT]
            cases hL : pLa (pT n) (r.length + 1) [] r with
            | none => rfl
            | some pq =>
              obtain ⟨ps, q'⟩ := pq
              cases q' with
              | nil => rfl
              | cons d q2 =>
                show (if d = 41 ∧ ps.length ≤ 3 then _ else none) = none
                rw [if_neg]
                rintro ⟨rfl, h3⟩
                exact e1 _ _ hL h3
        · rw [if_neg hc] at epT
          refine ite2 (fun _ => ?_) (fun z0 => ?_)
          · refine ⟨_, rfl, [.str ⟨tw.toArray⟩], .one .str, by simp, fun v H2 S2 hv => ?_⟩
            exact q _ _ epT _ _ _ (b1.trans (But.of S2)) (S2 _ _ h1) hd (by rw [Tm.da_eq]; exact hv)
          · have : ¬ V.str (sgn z (i + tw.length)) = V.str "(" := fun z1 => hc ((sgn_is (by decide +kernel) hd).mp z1)
            rw [decide_eq_false this] at z0
            exact absurd rfl z0
    · have hb' : (decide (1 ≤ tw.length) && decide (tw.length ≤ 6)) = false := by
        rw [Bool.and_eq_false_iff]
        rcases Nat.lt_or_ge tw.length 1 with h | h
        · exact .inl (decide_eq_false (by omega))
        · exact .inr (decide_eq_false (by omega))
      rw [hnm, hb']
      rw [if_neg hb] at epT
      exact qx epT _ b1
theorem ok_rparts (A_Reader_parts : AtM e C_Reader "parts" "Reader.parts" ["self"] s_Reader_parts) (c_Reader : RdC e C_Reader) (k_MOST_PARTS : Cst e "MOST_PARTS" (.int 3)) (k_BadText : ExK e "BadText" Cb)
    (h_Reader_sign : HasM e 1 C_Reader "sign" ["self"] (spSign C_Reader)) (n : Nat) (h_Reader_term : HasM e (2 * n + 2) C_Reader "term" ["self"] (spRTerm C_Reader Cb n)) : HasM e (2 * n + 3) C_Reader "parts" ["self"] (spRParts C_Reader Cb n) := by
  refine A_Reader_parts.okX (k := 2 * n + 2) sc_Reader_parts (fun vs H Q E h => ?_) (fun f cdv A outer s H vs Q E hr h => ?_)
  · obtain ⟨x, dx, z, i, r, rfl, _⟩ := h
    rfl
  obtain ⟨x, dx, z, i, r, rfl, h0, hz, hd0, hc, hn, q, qx⟩ := h
  have nd := sc_Reader_parts.nd
  have hls := sizeLine_eq
  refine ⟨_, pss_cons (ps_st 1 nd (pe_lstA pa_nil))
    (pss_cons (ps_cut (ps_while (passes_of rfl) (PW.pt (pw_or (pt_cmpR (op_eqNil (hu64 hr)) (pv 1) (pe_lstA pa_nil) (nomark _)) (pw_or1 (pt_cmpR op_eq (pe_methH0 h_Reader_sign hr c_Reader.cl (pv 0)) pe_str (nomark _)))))
      (pss_cons (ps_fld (pv 0) (pe_op op_add (pe_fld (pv 0) rfl) pe_int) rfl)
      (pss_one (ps_expr (pe_app (pv 1) (pa_cons (pe_methX0 h_Reader_term hr (takes_of rfl rfl rfl rfl) c_Reader.cl (pv 0)) pa_nil)))))))
    (pss_cons (ps_if (PW.pt (pw_or (pt_cmpR op_ne (pe_methH0 h_Reader_sign hr c_Reader.cl (pv 0)) pe_str (nomark _)) (pw_or1 (pt_cmpR op_gt (pe_b call_lenL B.len (pa_cons (pv 1) pa_nil)) (pe_cst k_MOST_PARTS) (nomark _)))))
      (pss_one (ps_raiseE k_BadText (takes_of rfl rfl rfl rfl)))
      (pss_nil))
    (pss_cons (ps_fld (pv 0) (pe_op op_add (pe_fld (pv 0) rfl) pe_int) rfl)
    (pss_one (ps_ret (pv 1)))))), ?_⟩
  refine ⟨by simp, fun F H0 hF S0 hF0 => ?_⟩
  obtain ⟨R, eR⟩ : ∃ R, R = pLa (pT n) (r.length + 1) [] r := ⟨_, rfl⟩
  rw [← eR] at q qx
  have hlen : ∀ j, (z.cps.toList.drop j).length = z.cps.toList.length - j := fun j => List.length_drop
  have hxF : x ≠ F := ne_of_none h0 hF
  refine ⟨fun σ H' => ∃ acc vs j, σ = [some (.ref x), some (.ref F)] ∧ H' F = some (.lst vs) ∧ DasAt H' vs (acc.map Tm.da) ∧ But x H H' ∧ RdAt C_Reader H' x dx z j ∧ acc ≠ [] ∧ (∀ c q, z.cps.toList.drop j = c :: q → c ≠ 44) ∧ R = some (acc, z.cps.toList.drop j), ?_, ?_⟩
  · refine ⟨fun m σ H' => ∃ acc vs j, m = (z.cps.toList.drop j).length ∧ σ = [some (.ref x), some (.ref F)] ∧ H' F = some (.lst vs) ∧ DasAt H' vs (acc.map Tm.da) ∧ But x H H' ∧ RdAt C_Reader H' x dx z j ∧ acc.length + (z.cps.toList.drop j).length ≤ 2000 ∧
      (((acc = [] ∨ ∃ r2, z.cps.toList.drop j = 44 :: r2) ∧ ∃ cs k, z.cps.toList.drop (j + 1) = cs ∧ R = pLa (pT n) k acc cs ∧ cs.length < k ∧ cs.count 40 < n ∧ z.cps.toList.drop j ≠ []) ∨ (acc ≠ [] ∧ (∀ c q, z.cps.toList.drop j = c :: q → c ≠ 44) ∧ R = some (acc, z.cps.toList.drop j))), ?_, ?_⟩
    · refine ⟨_, [], [], i, rfl, rfl, hF0, .nil, But.of S0, S0 _ _ h0, ?_, .inl ⟨.inl rfl, r, _, ?_, eR, Nat.lt_succ_self _, hc, by rw [hd0]; simp⟩⟩
      · rw [hlen, ← len_cps]
        simp only [List.length_nil]
        omega
      · rw [drop_add, hd0]
        rfl
    · rintro m σ H' ⟨acc, vs, j, rfl, rfl, h1, hv, b1, h2, hz2, hcase⟩
      rcases hcase with ⟨hopen, cs, k, hcs, hR, hk, hcc, hjne⟩ | ⟨hne, h3, h4⟩
      · have key : ∀ P : Bool → Hp → Prop, (∀ H2, Same H' H2 → P true H2) → tOr (tTest (tOp (rEqNil e.K false) (tVar 1) (tLstA tNil))) (tTest (tOp rEq (tMeth C_Reader "sign" (spSign C_Reader) [] E0 (tVar 0) tNil) (tC (.str ",")))) [some (.ref x), some (.ref F)] H' P := by
          intro P k
          refine ⟨_, rfl, by simp, fun p H2 hp S2 hp2 => ⟨F, p, vs, rfl, rfl, SqL.of (S2 _ _ h1), hp2, _, rfl, ?_⟩⟩
          rcases hopen with rfl | ⟨r2, hr2⟩
          · obtain rfl := hv.nil_inv
            exact k _ S2
          · cases hve : vs.isEmpty with
            | true => exact k _ S2
            | false =>
              refine ⟨_, rfl, x, dx, _, rfl, S2 _ _ h2, by rfl, x, dx, z, j, rfl, S2 _ _ h2, hz, rfl, _, rfl, ?_⟩
              rw [decide_eq_true ((sgn_is (d := 44) (s := ",") (by decide +kernel) hr2).mpr rfl)]
              exact k _ S2
        refine key _ fun H2 S2 => ?_
        have h2' : RdAt C_Reader H2 x dx z j := S2 _ _ h2
        refine ⟨_, fun σ' H' q => q, ?_⟩
        refine ⟨_, rfl, x, C_Reader, dx, _, _, rfl, h2', c_Reader.cl, c_Reader.at_, by rfl, _, _, rfl, rfl, _, rfl, x, C_Reader, dx, _, rfl, h2', c_Reader.cl, c_Reader.at_, by simp, ?_⟩
        obtain ⟨H3, eH3⟩ : ∃ H3, H3 = upd H2 x (.ins C_Reader dx (putF "at" (.int (((j : Nat) : Int) + 1)) [("text", .str z), ("at", .int j)])) := ⟨_, rfl⟩
        rw [← eH3]
        have h3 : RdAt C_Reader H3 x dx z (j + 1) := by
          rw [eH3]
          unfold RdAt
          rw [upd_same]
          rfl
        have b3 : But x H2 H3 := by rw [eH3]; exact But.put _ _
        have hF3 : H3 F = some (.lst vs) := b3 _ _ (Ne.symm hxF) (S2 _ _ h1)
        have t3 : TX H2 H3 := h2'.tx b3
        refine ⟨_, rfl, .inl ⟨rfl, vs, SqL.of hF3⟩, _, rfl, x, dx, _, rfl, h3, by rfl, x, dx, z, j + 1, rfl, h3, hz, by rw [hcs]; exact hcc, hn, ?_, ?_⟩
        · intro t r3 e1 v H4 j2 b4 h4 hj2 hv2
          rw [hcs] at e1
          obtain ⟨-, pp, ep, hpp⟩ := pT_tail n cs t r3 e1
          have hF4 : H4 F = some (.lst vs) := b4 _ _ (Ne.symm hxF) hF3
          have hlj : cs.length + 1 = (z.cps.toList.drop j).length := by
            rw [← hcs, hlen, hlen]
            have : 0 < (z.cps.toList.drop j).length := List.length_pos_iff.mpr hjne
            rw [hlen] at this
            omega
          have hlr : r3.length < cs.length := by
            have := List.length_pos_iff.mpr hpp
            rw [ep, List.length_append]
            omega
          have t4 : TX H3 H4 := h3.tx b4
          have hvl := hv.length
          rw [List.length_map] at hvl
          have hva : DasAt (upd H4 F (.lst (vs ++ [v]))) (vs ++ [v]) ((acc ++ [t]).map Tm.da) := by
            rw [List.map_append]
            exact ((((hv.mono (TX.of_same S2)).mono t3).mono t4).append (.one hv2)).mono (TX.lst hF4)
          have ba : But x H (upd H4 F (.lst (vs ++ [v]))) := fun a o i e => by
            rw [upd_ne (ne_of_none e hF)]
            exact (((b1.trans (But.of S2)).trans b3).trans b4) a o i e
          have ha : RdAt C_Reader (upd H4 F (.lst (vs ++ [v]))) x dx z j2 := by
            unfold RdAt
            rw [upd_ne hxF]
            exact h4
          refine ⟨F, vs, v, rfl, rfl, hF4, by omega, (z.cps.toList.drop j2).length, by rw [hj2]; omega, acc ++ [t], vs ++ [v], j2, rfl, rfl, upd_same, hva, ba, ha, by rw [hj2, List.length_append, List.length_singleton]; omega, ?_⟩
          obtain ⟨k', rfl⟩ : ∃ k', k = k' + 1 := ⟨k - 1, by omega⟩
          rw [pLa, e1] at hR
          cases r3 with
          | nil => exact .inr ⟨by simp, fun c q z => by (rw [hj2] at z; cases z), by rw [hj2]; exact hR⟩
          | cons c r2 =>
            simp only at hR
            by_cases hc44 : c = 44
            · subst hc44
              rw [if_pos rfl] at hR
              refine .inl ⟨.inr ⟨r2, hj2⟩, r2, k', by rw [drop_add, hj2]; rfl, hR, by simp only [List.length_cons] at hlr; omega, ?_, by rw [hj2]; simp⟩
              rw [ep, List.count_append, List.count_cons] at hcc
              omega
            · rw [if_neg hc44] at hR
              exact .inr ⟨by simp, fun c' q z => by (rw [hj2] at z; cases z; exact hc44), by rw [hj2]; exact hR⟩
        · intro e1 H4 b4
          rw [hcs] at e1
          refine qx ?_ _ (((b1.trans (But.of S2)).trans b3).trans b4)
          obtain ⟨k', rfl⟩ : ∃ k', k = k' + 1 := ⟨k - 1, by omega⟩
          rw [pLa, e1] at hR
          intro ps q' z
          rw [hR] at z
          cases z
      · refine ⟨_, rfl, by simp, fun p H2 hp S2 hp2 => ⟨F, p, vs, rfl, rfl, SqL.of (S2 _ _ h1), hp2, _, rfl, ?_⟩⟩
        have hve : vs.isEmpty = false := by
          cases vs with
          | nil =>
            have := hv.length
            rw [List.length_map] at this
            exact absurd (List.length_eq_zero_iff.mp this.symm) hne
          | cons _ _ => rfl
        rw [hve]
        refine ⟨_, rfl, x, dx, _, rfl, S2 _ _ h2, by rfl, x, dx, z, j, rfl, S2 _ _ h2, hz, rfl, _, rfl, ?_⟩
        have hs : decide (V.str (sgn z j) = V.str ",") = false := by
          refine decide_eq_false fun z0 => ?_
          cases hdj : z.cps.toList.drop j with
          | nil => exact sgn_not (d := 44) (s := ",") (by decide +kernel) hdj z0
          | cons c q' => exact h3 _ _ hdj ((sgn_is (d := 44) (by decide +kernel) hdj).mp z0)
        rw [hs]
        exact ⟨acc, vs, j, rfl, S2 _ _ h1, hv.mono (TX.of_same S2), b1.trans (But.of S2), S2 _ _ h2, hne, h3, h4⟩
  · rintro σ H' ⟨acc, vs, j, rfl, h1, hv, b1, h2, hne, h3, h4⟩
    refine ⟨_, rfl, x, dx, _, rfl, h2, by rfl, x, dx, z, j, rfl, h2, hz, rfl, _, rfl, ?_⟩
    cases hdj : z.cps.toList.drop j with
    | nil =>
      refine ite2 (fun _ => ?_) (fun c => absurd (decide_eq_true (sgn_not (d := 41) (s := ")") (by decide +kernel) hdj)) (by simpa using c))
      refine qx (fun ps q' z0 => ?_) _ b1
      rw [h4, hdj] at z0
      cases z0
    | cons c q' =>
      by_cases hc41 : c = 41
      · subst hc41
        refine ite2 (fun z0 => ?_) (fun _ => ?_)
        · rw [decide_eq_true ((sgn_is (d := 41) (s := ")") (by decide +kernel) hdj).mpr rfl)] at z0
          cases z0
        refine ⟨_, rfl, F, _, rfl, SqL.of h1, _, _, rfl, rfl, _, rfl, ?_⟩
        have hvl := hv.length
        rw [List.length_map] at hvl
        by_cases hl3 : acc.length ≤ 3
        · rw [decide_eq_false (by omega)]
          refine ⟨_, rfl, x, C_Reader, dx, _, _, rfl, h2, c_Reader.cl, c_Reader.at_, by rfl, _, _, rfl, rfl, _, rfl, x, C_Reader, dx, _, rfl, h2, c_Reader.cl, c_Reader.at_, by simp, _, rfl, ?_⟩
          have b2 : But x H' (upd H' x (.ins C_Reader dx (putF "at" (.int (((j : Nat) : Int) + 1)) [("text", .str z), ("at", .int j)]))) := But.put _ _
          refine q acc q' (by rw [h4, hdj]) hl3 F _ (j + 1) (b1.trans b2) hF ?_ (by rw [drop_add, hdj]; rfl) ⟨vs, ?_, hv.mono (h2.tx b2)⟩
          · unfold RdAt
            rw [upd_same]
            rfl
          · exact b2 _ _ (Ne.symm hxF) h1
        · rw [decide_eq_true (by omega)]
          refine qx (fun ps q'' z0 => ?_) _ b1
          rw [h4] at z0
          injection z0 with z0
          injection z0 with z1 z2
          rw [← z1]
          exact hl3
      · refine ite2 (fun _ => ?_) (fun z0 => ?_)
        · refine qx (fun ps q'' z0 => ?_) _ b1
          rw [h4, hdj] at z0
          cases z0
          exact absurd rfl hc41
        · have : ¬ V.str (sgn z j) = V.str ")" := fun z1 => hc41 ((sgn_is (by decide +kernel) hdj).mp z1)
          rw [decide_eq_false this] at z0
          exact absurd rfl z0
theorem ok_rterm (A_Reader_term : AtM e C_Reader "term" "Reader.term" ["self"] s_Reader_term) (A_Reader_parts : AtM e C_Reader "parts" "Reader.parts" ["self"] s_Reader_parts) (c_Reader : RdC e C_Reader) (h_is_name : Has e 1 "is_name" ["text"] spIsName) (k_LETTERS : Cst e "LETTERS" (.str "abcdefghijklmnopqrstuvwxyz")) (k_MOST_PARTS : Cst e "MOST_PARTS" (.int 3)) (k_BadText : ExK e "BadText" Cb)
    (h_Reader_sign : HasM e 1 C_Reader "sign" ["self"] (spSign C_Reader)) : ∀ n : Nat, HasM e (2 * n + 2) C_Reader "term" ["self"] (spRTerm C_Reader Cb n)
  | 0 => (A_Reader_term.zero fun vs H Q E h => by
    obtain ⟨x, dx, z, i, _, _, _, h, _⟩ := h
    omega).mono (by omega)
  | n + 1 => ok_rterm_succ B A_Reader_term c_Reader h_is_name k_LETTERS k_BadText h_Reader_sign n (ok_rparts B A_Reader_parts c_Reader k_MOST_PARTS k_BadText h_Reader_sign n (ok_rterm A_Reader_term A_Reader_parts c_Reader h_is_name k_LETTERS k_MOST_PARTS k_BadText h_Reader_sign n))
def spRead (Cb : Addr) (n : Nat) : Sp := fun vs H Q E => ∃ z : Str, vs = [.str z] ∧ z.length ≤ 1000000 ∧ (z.length ≤ 320 → z.cps.toList.count 40 < n) ∧ n ≤ 60 ∧
  (∀ t, readR n z = some t → ∀ v H', Same H H' → DaAt H' v t.da → Q v H') ∧ (readR n z = none → ∀ H', Same H H' → E (.ref Cb) none H')
theorem ok_read (A_read : At e "read" ["text"] s_read) (c_Reader : RdC e C_Reader) (h_Reader___init__ : HasI e 1 C_Reader ["self", "text"] (spRInit C_Reader)) (k_MOST_NAMES : Cst e "MOST_NAMES" (.int 40)) (k_MOST_LETTERS : Cst e "MOST_LETTERS" (.int 6)) (k_BadText : ExK e "BadText" Cb)
    (h_Reader_sign : HasM e 1 C_Reader "sign" ["self"] (spSign C_Reader)) (n : Nat) (h_Reader_term : HasM e (2 * n + 2) C_Reader "term" ["self"] (spRTerm C_Reader Cb n)) (h_names_in : Has e n "names_in" ["term"] (spNames n)) :
    Has e (2 * n + 3) "read" ["text"] (spRead Cb n) := by
  refine A_read.okX (k := 2 * n + 2) sc_read (fun vs H Q E h => ?_) (fun f cdv A outer s H vs Q E hr h => ?_)
  · obtain ⟨z, rfl, _⟩ := h
    rfl
  obtain ⟨z, rfl, hz, hc, hn, q, qx⟩ := h
  have nd := sc_read.nd
  have hls := sizeLine_eq
  refine ⟨_, pss_cons (ps_if (pt_cmpR op_gt (pe_b call_len_str B.len (pa_cons (pv 0) pa_nil)) (pe_op op_mul (pe_cst k_MOST_NAMES) (pe_op op_add (pe_cst k_MOST_LETTERS) pe_int)) (nomark _))
      (pss_one (ps_raiseE k_BadText (takes_of rfl rfl rfl rfl)))
      (pss_nil))
    (pss_cons (ps_st 1 nd (pe_makeH h_Reader___init__ c_Reader.mg hr (pa_cons (pv 0) pa_nil)))
    (pss_cons (ps_st 2 nd (pe_methX0 h_Reader_term hr (takes_of rfl rfl rfl rfl) c_Reader.cl (pv 1)))
    (pss_cons (ps_if (PW.pt (pw_or (pt_cmpR op_ne (pe_methH0 h_Reader_sign hr c_Reader.cl (pv 1)) pe_str (nomark _)) (pw_or1 (pt_cmpR op_gt (pe_callH h_names_in hr (pa_cons (pv 2) pa_nil)) (pe_cst k_MOST_NAMES) (nomark _)))))
      (pss_one (ps_raiseE k_BadText (takes_of rfl rfl rfl rfl)))
      (pss_nil))
    (pss_one (ps_ret (pv 2)))))), ?_⟩
  refine ⟨_, rfl, z, rfl, by omega, _, _, rfl, rfl, _, _, rfl, rfl, .inl ⟨by decide, by decide⟩, _, _, rfl, rfl, _, rfl, ?_⟩
  by_cases hl : z.length ≤ 320
  · rw [show decide ((40 : Int) * (6 + 2) < (z.length : Int)) = false from decide_eq_false (by omega)]
    refine ⟨_, rfl, fun x dx hx hdx hne => ⟨x, dx, z, rfl, upd_same, fun H1 b1 h1 => ⟨rfl, ?_⟩⟩⟩
    have S1 : Same H H1 := But.same b1 (same_put (same_new hdx _) hx _) hx
    have hz2 : z.length ≤ 1000 := by omega
    have eR : readR n z = match pT n z.cps.toList with
      | some (t, []) => if t.count ≤ 40 then some t else none
      | _ => none := if_pos hl
    refine ⟨_, rfl, x, dx, _, rfl, h1, by rfl, x, dx, z, 0, rfl, h1, hz2, hc hl, hn, ?_, ?_⟩
    · intro t r e1 v H2 j b2 h2 hj hv
      have e1 : pT n z.cps.toList = some (t, r) := e1
      rw [e1] at eR
      have hg := (pT_tail n _ _ _ e1).1
      have S2 : Same H H2 := But.same b2 S1 hx
      refine ⟨_, rfl, x, dx, _, rfl, h2, by rfl, x, dx, z, j, rfl, h2, hz2, rfl, _, rfl, ?_⟩
      cases r with
      | nil =>
        simp only at eR
        refine ite2 (fun z0 => ?_) (fun _ => ?_)
        · rw [sgn_nil hj] at z0
          exact absurd z0 (by decide +kernel)
        refine ⟨_, rfl, v, t, rfl, hv, Tm.good_short hg.1, hg.2, fun H3 S3 => ⟨_, _, rfl, rfl, _, rfl, ?_⟩⟩
        by_cases hk : t.count ≤ 40
        · rw [show decide ((40 : Int) < (t.count : Int)) = false from decide_eq_false (by omega)]
          rw [if_pos hk] at eR
          exact ⟨_, rfl, q t eR _ _ (S2.trans S3) (hv.mono (TX.of_same S3))⟩
        · rw [show decide ((40 : Int) < (t.count : Int)) = true from decide_eq_true (by omega)]
          rw [if_neg hk] at eR
          exact qx eR _ (S2.trans S3)
      | cons c r =>
        refine ite2 (fun _ => ?_) (fun z0 => absurd (decide_eq_true (sgn_ne hj)) (by simpa using z0))
        exact qx eR _ S2
    · intro e1 H2 b2
      have e1 : pT n z.cps.toList = none := e1
      rw [e1] at eR
      exact qx eR _ (But.same b2 S1 hx)
  · rw [show decide ((40 : Int) * (6 + 2) < (z.length : Int)) = true from decide_eq_true (by omega)]
    exact qx (by unfold readR; rw [if_neg hl]) _ (Same.refl _)
end

theorem counts_app : ∀ l m : List Tm, Tm.counts (l ++ m) = Tm.counts l + Tm.counts m
  | [], m => by simp [Tm.counts]
  | t :: r, m => by simp only [List.cons_append, Tm.counts, counts_app r m]; omega
theorem cut_to {z : Str} {j : Nat} : cutS z none (some (j : Int)) = ⟨(z.cps.toList.take j).toArray⟩ := by
  have := cut_nat (z := z) (i := 0) (j := j) (Nat.zero_le _)
  have e : cutS z none (some (j : Int)) = cutS z (some ((0 : Nat) : Int)) (some (j : Int)) := by
    unfold cutS
    rw [HT.sIx_none, HT.sIx_nat, HT.sIx_nat, Nat.zero_min]
  rw [e, this]
  rfl
theorem cut_from {z : Str} {i : Nat} : cutS z (some (i : Int)) none = ⟨(z.cps.toList.drop i).toArray⟩ := by
  unfold cutS
  rw [HT.sIx_nat, HT.sIx_none, len_cps]
  by_cases h1 : i ≤ z.cps.toList.length
  · rw [Nat.min_eq_left h1, List.take_of_length_le (by rw [List.length_drop]; omega)]
  · rw [Nat.min_eq_right (by omega), List.drop_of_length_le (Nat.le_refl _), List.drop_of_length_le (by omega)]
    simp
theorem cut1 {z : Str} : cutS z none (some 1) = sgn z 0 := by
  have := cut_to (z := z) (j := 1)
  exact this
theorem cut1d {z : Str} : cutS z (some 1) none = ⟨(z.cps.toList.drop 1).toArray⟩ := cut_from (z := z) (i := 1)

/-- a fact that there must be: a word of the four and two terms -/
def spNeedF (n : Nat) (Cn Cf : Addr) : Sp := fun vs H Q E => ∃ (v : V) (z : Str) (ts : List Tm), vs = [v] ∧ DaAt H v (.tup (.str z :: ts.map Tm.da)) ∧ (∀ t ∈ ts, t.short ∧ t.depth ≤ n) ∧ ts.length ≤ 1000 ∧
  (∀ (w : Wd) (a b : Tm), z = w.name → ts = [a, b] → a.fine → b.fine → ∀ H', Same H H' → Q .non H') ∧
  ((¬ z ∈ signsK.map (·.1) ∨ ts.length ≠ 2) → ∀ H', Same H H' → E (.ref Cf) none H') ∧
  (∀ (w : Wd) (a b : Tm), z = w.name → ts = [a, b] → ¬ (a.fine ∧ b.fine) → ∀ H', Same H H' → E (.ref Cn) none H')
def spOpp : Sp := fun vs H Q _ => ∃ (v : V) (f : Fc), vs = [v] ∧ DaAt H v f.da ∧ ∀ v' H', Same H H' → DaAt H' v' f.opp.da → Q v' H'
def Fc.shown (n : Nat) (f : Fc) : Prop := f.l.short ∧ f.r.short ∧ f.l.depth ≤ n ∧ f.r.depth ≤ n ∧ f.l.codes.length ≤ 100000 ∧ f.r.codes.length ≤ 100000
def spShownF (n : Nat) : Sp := fun vs H Q _ => ∃ (v : V) (f : Fc), vs = [v] ∧ DaAt H v f.da ∧ f.shown n ∧ ∀ H', Same H H' → Q (.str f.text) H'
def spReadF (Cb : Addr) (n : Nat) : Sp := fun vs H Q E => ∃ z : Str, vs = [.str z] ∧ z.length ≤ 1000000 ∧ (∀ p ∈ Txt.split z " ", p.length ≤ 1000000 ∧ (p.length ≤ 320 → p.cps.toList.count 40 < n)) ∧ n ≤ 60 ∧
  (∀ f, readF n z = some f → ∀ v H', Same H H' → DaAt H' v f.da → Q v H') ∧ (readF n z = none → ∀ H', Same H H' → E (.ref Cb) none H')

abbrev s_read_fact : Stmt := top 19
theorem sc_read_fact : FnScope ["text", "words", "word"] ["text"] (defScope s_read_fact) := ⟨rfl, rfl, rfl, by decide +kernel, rfl, by decide +kernel, by decide +kernel⟩
section
variable {e : Ev} (B : Bl e) {d1 d2 : Addr}
include B
theorem ok_readf (A_read_fact : At e "read_fact" ["text"] s_read_fact) {Cb : Addr} (n : Nat) (h_read : Has e (2 * n + 3) "read" ["text"] (spRead Cb n)) (k_SIGNS : TabAt e "SIGNS" d1 signsK) (k_BadText : ExK e "BadText" Cb) : Has e (2 * n + 4) "read_fact" ["text"] (spReadF Cb n) := by
  refine A_read_fact.okX (k := 2 * n + 3) sc_read_fact (fun vs H Q E h => ?_) (fun f cdv A outer s H vs Q E hr h => ?_)
  · obtain ⟨z, rfl, _⟩ := h
    rfl
  obtain ⟨z, rfl, hz, hp, hn, q, qx⟩ := h
  have nd := sc_read_fact.nd
  have hls := sizeLine_eq
  refine ⟨_, pss_cons (ps_st 1 nd (pe_split (pv 0) pe_str))
    (pss_cons (ps_if (pt_cmpR op_ne (pe_b call_lenL B.len (pa_cons (pv 1) pa_nil)) pe_int (nomark _))
      (pss_one (ps_raiseE k_BadText (takes_of rfl rfl rfl rfl)))
      (pss_nil))
    (pss_cons (ps_for (passes_of rfl) rfl (pi_tab k_SIGNS (pe_tab k_SIGNS)) (pg_nm 2 nd)
      (pss_one (ps_if (pt_cmpR op_eq (pe_ix (ix_tab k_SIGNS) (pe_tab k_SIGNS) (pv 2) (fun _ _ => rfl)) (pe_ix ix_list (pv 1) pe_int (fun _ _ => rfl)) (nomark _))
        (pss_one (ps_ret (pe_tupD (pa_cons (pv 2) (pa_cons (pe_callX h_read hr (takes_of rfl rfl rfl rfl) (pa_cons (pe_ix ix_list (pv 1) pe_int (fun _ _ => rfl)) pa_nil)) (pa_cons (pe_callX h_read hr (takes_of rfl rfl rfl rfl) (pa_cons (pe_ix ix_list (pv 1) pe_int (fun _ _ => rfl)) pa_nil)) pa_nil))))))
        (pss_nil))))
    (pss_one (ps_raiseE k_BadText (takes_of rfl rfl rfl rfl))))), ?_⟩
  refine ⟨_, rfl, ⟨z, rfl⟩, z, " ", rfl, rfl, by decide +kernel, by omega, fun p hp0 => ?_⟩
  obtain ⟨H1, eH1⟩ : ∃ H1, H1 = upd H p (.lst ((Txt.split z " ").map V.str)) := ⟨_, rfl⟩
  rw [← eH1]
  have S1 : Same H H1 := by rw [eH1]; exact same_new hp0 _
  have hw : H1 p = some (.lst ((Txt.split z " ").map V.str)) := by rw [eH1]; exact upd_same
  clear eH1
  refine ⟨_, rfl, p, _, rfl, SqL.of hw, rfl, _, rfl, ?_⟩
  have eF : readF n z = readW n (Txt.split z " ") := rfl
  refine ite2 (fun c => ?_) (fun c => ?_)
  · have c' : ¬ V.int (((Txt.split z " ").map V.str).length : Nat) = V.int 3 := by simpa using c
    refine qx ?_ _ S1
    rw [eF]
    match h : Txt.split z " " with
    | [] => rfl
    | [_] => rfl
    | [_, _] => rfl
    | [_, _, _] => rw [h] at c'; exact absurd rfl c'
    | _ :: _ :: _ :: _ :: _ => rfl
  · have c' : V.int (((Txt.split z " ").map V.str).length : Nat) = V.int 3 := by simpa using c
    obtain ⟨a, s0, b, eS⟩ : ∃ a s0 b, Txt.split z " " = [a, s0, b] := by
      match h : Txt.split z " " with
      | [] => rw [h] at c'; cases c'
      | [_] => rw [h] at c'; cases c'
      | [_, _] => rw [h] at c'; cases c'
      | [a, s0, b] => exact ⟨a, s0, b, rfl⟩
      | _ :: _ :: _ :: _ :: r =>
        rw [h] at c'
        injection c' with c'
        simp only [List.length_map, List.length_cons] at c'
        omega
    rw [eS] at hw hp eF
    refine ⟨rfl, for_it walk_keysR (fun i σ H' => (∃ u, σ = [some (.str z), some (.ref p), u]) ∧ H1 = H' ∧ ∀ w : Wd, ∀ j, j < i → signsK[j]? = some (w.name, .str w.sign) → w.sign ≠ s0) ⟨⟨_, rfl⟩, rfl, fun _ _ h => absurd h (by omega)⟩ (fun _ _ _ _ _ => trivial) ?_ ?_⟩
    · rintro i x σ _ H2 hi ⟨⟨u, rfl⟩, rfl, hno⟩ ⟨rfl, hx⟩
      obtain ⟨w, hi2, rfl⟩ : ∃ w : Wd, signsK[i]? = some (w.name, .str w.sign) ∧ x = .str w.name := by
        have : i = 0 ∨ i = 1 ∨ i = 2 ∨ i = 3 := by simp only [signsK, List.length_map, List.length_cons, List.length_nil] at hi; omega
        rcases this with rfl | rfl | rfl | rfl
        · exact ⟨.alike, rfl, (Option.some.inj hx).symm⟩
        · exact ⟨.unlike, rfl, (Option.some.inj hx).symm⟩
        · exact ⟨.most, rfl, (Option.some.inj hx).symm⟩
        · exact ⟨.over, rfl, (Option.some.inj hx).symm⟩
      refine ⟨_, rfl, _, _, rfl, rfl, w.in_signs, _, rfl, p, _, 1, .str s0, rfl, rfl, SqL.of hw, at1, rfl, _, rfl, ?_⟩
      refine ite2 (fun c2 => ?_) (fun c2 => ?_)
      · have e1 : w.sign = s0 := by
          have := of_decide_eq_true c2
          injection this
        subst e1
        have ha := hp a (by simp)
        have hb := hp b (by simp)
        refine ⟨_, rfl, _, rfl, p, _, 0, .str a, rfl, rfl, SqL.of hw, at0, a, rfl, ha.1, ha.2, hn, fun t et v1 H2 S2 h1 => ?_, fun ea H2 S2 => qx ?_ _ (S1.trans S2)⟩
        · refine ⟨_, rfl, p, _, 2, .str b, rfl, rfl, SqL.of (S2 _ _ hw), at2, b, rfl, hb.1, hb.2, hn, fun t2 et2 v2 H3 S3 h2 => ?_, fun eb H3 S3 => qx ?_ _ ((S1.trans S2).trans S3)⟩
          · refine ⟨_, .cons .str (.cons (h1.mono (TX.of_same S3)) (.one h2)), by simp, fun v3 H4 S4 h3 => q ⟨w, t, t2⟩ ?_ _ _ (((S1.trans S2).trans S3).trans S4) h3⟩
            rw [eF]
            simp only [readW, Wd.of_sign, et, et2]
          · rw [eF]
            simp only [readW, Wd.of_sign, et, eb]
        · rw [eF]
          simp only [readW, Wd.of_sign, ea]
      · have e1 : w.sign ≠ s0 := fun z0 => c2 (decide_eq_true (by rw [z0]))
        refine ⟨⟨_, rfl⟩, rfl, fun w2 j hj h2 => ?_⟩
        rcases Nat.lt_or_ge j i with h | h
        · exact hno w2 j h h2
        · obtain rfl : j = i := by omega
          rw [hi2] at h2
          injection h2 with h2
          have := congrArg Prod.fst h2
          rw [← Wd.name_inj this]
          exact e1
    · rintro σ _ ⟨⟨u, rfl⟩, rfl, hno⟩
      refine qx ?_ _ S1
      rw [eF]
      simp only [readW]
      cases hof : Wd.of s0 with
      | none => rfl
      | some w =>
        have e1 := Wd.of_some hof
        exfalso
        cases w with
        | alike => exact hno .alike 0 (by decide) rfl e1.symm
        | unlike => exact hno .unlike 1 (by decide) rfl e1.symm
        | most => exact hno .most 2 (by decide) rfl e1.symm
        | over => exact hno .over 3 (by decide) rfl e1.symm
end

abbrev s__law_fact : Stmt := top 26
theorem sc__law_fact : FnScope ["_law_d", "_law_works_here", "_law_deep", "_law_word", "_law_one"] ["_law_d", "_law_works_here", "_law_deep"] (defScope s__law_fact) := ⟨rfl, rfl, rfl, by decide +kernel, rfl, by decide +kernel, by decide +kernel⟩
/-- a drawn fact -/
def spFact (K : PySem.W.Frag) (n : Nat) : Sp := fun vs H Q _ => ∃ (d l : Addr) (ds : List Da) (deep : Int), vs = [.ref d, .ref l, .int deep] ∧ DiceAt K H d ∧ LD H l ds ∧ WorksD ds ∧ 0 ≤ deep ∧ deep < n ∧
  ∀ (v : V) (f : Fc) H', But d H H' → DiceAt K H' d → DaAt H' v f.da → f.good → (f.l.depth : Int) ≤ deep + 1 → (f.r.depth : Int) ≤ deep + 1 → (f.l.count + 1 ≤ 5 * 2 ^ deep.toNat) → (f.r.count + 1 ≤ 5 * 2 ^ deep.toNat) → Q v H'
section
variable {e : Ev} (B : Bl e)
include B
theorem ok_fact (A__law_fact : At e "_law_fact" ["_law_d", "_law_works_here", "_law_deep"] s__law_fact) (n : Nat) (h__law_off : Has e 2 "_law_off" ["_law_d", "_law_most"] (spOff e.K)) (h__law_term : Has e (n + 2) "_law_term" ["_law_d", "_law_works_here", "_law_deep"] (spTerm e.K n)) : Has e (n + 3) "_law_fact" ["_law_d", "_law_works_here", "_law_deep"] (spFact e.K n) := by
  refine A__law_fact.ok (k := n + 2) sc__law_fact (fun vs H Q E h => ?_) (fun f cdv A outer s H vs Q E hr h => ?_)
  · obtain ⟨d, l, ds, deep, rfl, _⟩ := h
    rfl
  obtain ⟨d, l, ds, deep, rfl, hD, hL, hW, h0, h1, q⟩ := h
  have nd := sc__law_fact.nd
  have hls := sizeLine_eq
  refine ⟨_, pss_cons (ps_st 3 nd (pe_ix ix_list (pe_lstA (pa_cons pe_str (pa_cons pe_str (pa_cons pe_str (pa_cons pe_str (pa_cons pe_str (pa_cons pe_str pa_nil))))))) (pe_callH h__law_off hr (pa_cons (pv 0) (pa_cons pe_int pa_nil))) (fun _ _ => rfl)))
    (pss_cons (ps_st 4 nd (pe_callH h__law_term hr (pa_cons (pv 0) (pa_cons (pv 1) (pa_cons (pv 2) pa_nil)))))
    (pss_one (ps_ret (pe_tupD (pa_cons (pv 3) (pa_cons (pv 4) (pa_cons (pe_callH h__law_term hr (pa_cons (pv 0) (pa_cons (pv 1) (pa_cons (pv 2) pa_nil)))) pa_nil))))))), ?_⟩
  refine ⟨by simp only [List.length_cons, List.length_nil]; omega, fun p H1 hp S1 hp1 => ⟨_, rfl, d, 6, rfl, hD.same S1, by decide, by decide, fun m H2 m0 m1 B2 D2 => ?_⟩⟩
  have hpd : p ≠ d := by
    obtain ⟨_, h⟩ := hD.lst
    exact (ne_of_none h hp).symm
  have hw : ∃ w : Wd, atI ([V.str "alike", V.str "alike", V.str "unlike", V.str "most", V.str "most", V.str "over"]) m = some (.str w.name) := by
    have : m = 0 ∨ m = 1 ∨ m = 2 ∨ m = 3 ∨ m = 4 ∨ m = 5 := by omega
    rcases this with rfl | rfl | rfl | rfl | rfl | rfl
    · exact ⟨.alike, rfl⟩
    · exact ⟨.alike, rfl⟩
    · exact ⟨.unlike, rfl⟩
    · exact ⟨.most, rfl⟩
    · exact ⟨.most, rfl⟩
    · exact ⟨.over, rfl⟩
  obtain ⟨w, hw⟩ := hw
  refine ⟨p, _, m, _, rfl, rfl, SqL.of (B2 _ _ hpd hp1), hw, ?_⟩
  have B2' : But d H H2 := (But.of S1).trans B2
  have hL2 := hL.but B2' hD (works_ne hD hL hW)
  refine ⟨_, rfl, _, rfl, _, rfl, d, l, ds, deep, rfl, D2, hL2, hW, h0, h1, fun v1 t1 H3 B3 D3 hv1 g1 c1 _ n1 => ?_⟩
  have hL3 := hL2.but B3 D2 (works_ne D2 hL2 hW)
  refine ⟨_, rfl, _, rfl, _, rfl, _, rfl, _, rfl, d, l, ds, deep, rfl, D3, hL3, hW, h0, h1, fun v2 t2 H4 B4 D4 hv2 g2 c2 _ n2 => ?_⟩
  refine ⟨_, .cons .str (.cons (hv1.mono (B4.tx D3)) (.one hv2)), by simp, fun v3 H5 S5 hv3 => ?_⟩
  exact q v3 ⟨w, t1, t2⟩ H5 (((B2'.trans B3).trans B4).trans (But.of S5)) (D4.same S5) hv3 ⟨g1, g2⟩ c1 c2 n1 n2
end

abbrev s__law_taken : Stmt := top 29
theorem sc__law_taken : FnScope ["_law_text_here", "_law_at", "_law_found", "_law_rest", "_law_part"] ["_law_text_here"] (defScope s__law_taken) := ⟨rfl, rfl, rfl, by decide +kernel, rfl, by decide +kernel, by decide +kernel⟩
/-- a term at the front of a text, by the law's own walk -/
def spTaken (n : Nat) : Sp := fun vs H Q _ => ∃ z : Str, vs = [.str z] ∧ z.length ≤ 1000000 ∧ z.cps.toList.count 40 < n ∧
  (∀ t r, pT n z.cps.toList = some (t, r) → ∀ v H', Same H H' → DaAt H' v (.tup [t.da, .str ⟨r.toArray⟩]) → Q v H') ∧ (pT n z.cps.toList = none → ∀ H', Same H H' → Q .non H')
section
variable {e : Ev} (B : Bl e)
include B
theorem ok_taken (A__law_taken : At e "_law_taken" ["_law_text_here"] s__law_taken) : ∀ n : Nat, Has e n "_law_taken" ["_law_text_here"] (spTaken n)
  | 0 => A__law_taken.zero fun vs H Q E h => by
    obtain ⟨_, _, _, h, _⟩ := h
    omega
  | n + 1 => by
    have h__law_taken := ok_taken A__law_taken n
    refine A__law_taken.ok sc__law_taken (fun vs H Q E h => ?_) (fun f cdv A outer s H vs Q E hr h => ?_)
    · obtain ⟨z, rfl, _⟩ := h
      rfl
    obtain ⟨z, rfl, hz, hc', q, qx⟩ := h
    have nd := sc__law_taken.nd
    have hls := sizeLine_eq
    refine ⟨_, pss_cons (ps_st 1 nd pe_int)
    (pss_cons (ps_cut (ps_while PassesOwn.never (PW.pt (pw_and (pt_cmpR op_lt (pv 1) (pe_b call_len_str B.len (pa_cons (pv 0) pa_nil)) (nomark _)) (pw_and1 (pt_cmpR op_in_sign (pe_ix ix_str (pv 0) (pv 1) (fun _ _ => rfl)) pe_str (by rfl)))))
      (pss_one (ps_st 1 nd (pe_op op_add (pv 1) pe_int)))))
    (pss_cons (ps_if (pt_not (pt_chain op_le op_le pe_int (pv 1) pe_int))
      (pss_one (ps_ret pe_non))
      (pss_nil))
    (pss_cons (ps_st 2 nd (pe_tupD (pa_cons (pe_slice sl_str (pv 0) po_none (po_some (pv 1))) pa_nil)))
    (pss_cons (ps_st 3 nd (pe_slice sl_str (pv 0) (po_some (pv 1)) po_none))
    (pss_cons (ps_if (pt_cmpR op_ne (pe_slice sl_str (pv 3) po_none (po_some pe_int)) pe_str (nomark _))
      (pss_one (ps_ret (pe_tupD (pa_cons (pv 2) (pa_cons (pv 3) pa_nil)))))
      (pss_nil))
    (pss_cons (ps_cut (ps_while PassesOwn.never (PW.pt (pw_or (pt_cmpR op_eq (pe_slice sl_str (pv 3) po_none (po_some pe_int)) pe_str (nomark _)) (pw_or1 (pt_cmpR op_eq (pe_b call_lenT B.len (pa_cons (pv 2) pa_nil)) pe_int (nomark _)))))
      (pss_cons (ps_st 4 nd (pe_callH h__law_taken hr (pa_cons (pe_slice sl_str (pv 3) (po_some pe_int) po_none) pa_nil)))
      (pss_cons (ps_if (PW.pt (pw_or (pt_cmpR op_isN (pv 4) pe_non (nomark _)) (pw_or1 (pt_cmpR op_eq (pe_b call_lenT B.len (pa_cons (pv 2) pa_nil)) pe_int (nomark _)))))
        (pss_one (ps_ret pe_non))
        (pss_nil))
      (pss_cons (ps_st 2 nd (pe_op op_catD (pv 2) (pe_tupD (pa_cons (pe_ix ix_tupD (pv 4) pe_int (fun _ _ => rfl)) pa_nil))))
      (pss_one (ps_st 3 nd (pe_ix ix_tupD (pv 4) pe_int (fun _ _ => rfl)))))))))
    (pss_cons (ps_if (pt_cmpR op_ne (pe_slice sl_str (pv 3) po_none (po_some pe_int)) pe_str (nomark _))
      (pss_one (ps_ret pe_non))
      (pss_nil))
    (pss_one (ps_ret (pe_tupD (pa_cons (pv 2) (pa_cons (pe_slice sl_str (pv 3) (po_some pe_int) po_none) pa_nil)))))))))))), ?_⟩
    have esp : z.cps.toList = z.cps.toList.takeWhile letter ++ z.cps.toList.dropWhile letter := List.takeWhile_append_dropWhile.symm
    obtain ⟨tw, etw⟩ : ∃ tw, tw = z.cps.toList.takeWhile letter := ⟨_, rfl⟩
    obtain ⟨dw, edw⟩ : ∃ dw, dw = z.cps.toList.dropWhile letter := ⟨_, rfl⟩
    rw [← etw, ← edw] at esp
    have hzl : z.length = tw.length + dw.length := by rw [len_cps, esp, List.length_append]
    have edrop : z.cps.toList.drop tw.length = dw := by rw [esp, List.drop_left]
    have etake : z.cps.toList.take tw.length = tw := by rw [esp, List.take_left]
    -- the letters
    refine ⟨fun σ H' => σ = [some (.str z), some (.int tw.length), none, none, none] ∧ H = H', ?_, ?_⟩
    · refine ⟨fun m σ H' => ∃ k, m = tw.length - k ∧ k ≤ tw.length ∧ σ = [some (.str z), some (.int (k : Nat)), none, none, none] ∧ H = H', ⟨_, 0, rfl, Nat.zero_le _, rfl, rfl⟩, ?_⟩
      rintro m σ _ ⟨k, rfl, hk, rfl, rfl⟩
      refine ⟨_, rfl, _, rfl, z, rfl, by omega, _, _, rfl, rfl, _, rfl, ?_⟩
      by_cases hkl : k < tw.length
      · rw [show decide (((k : Nat) : Int) < (z.length : Int)) = true from decide_eq_true (by omega)]
        have hlt : letter tw[k] = true := takeWhile_all z.cps.toList _ (by rw [← etw]; exact List.getElem_mem hkl)
        have hat : atI z.cps.toList ((k : Nat) : Int) = some tw[k] := atI_nat (by rw [esp, List.getElem?_append_left hkl, List.getElem?_eq_getElem hkl])
        refine ⟨_, rfl, _, rfl, z, _, _, rfl, rfl, by omega, hat, tw[k], _, rfl, rfl, _, rfl, ?_⟩
        rw [abc_dec, hlt]
        refine ⟨_, fun σ' H' q => q, ?_⟩
        refine ⟨_, rfl, _, _, rfl, rfl, _, ?_, k + 1, rfl, hkl, rfl, rfl⟩
        omega
      · obtain rfl : k = tw.length := by omega
        cases hdw : dw with
        | nil =>
          rw [hdw] at hzl
          rw [show decide (((tw.length : Nat) : Int) < (z.length : Int)) = false from decide_eq_false (by simp only [List.length_nil] at hzl; omega)]
          exact ⟨rfl, rfl⟩
        | cons c r =>
          rw [hdw] at hzl
          rw [show decide (((tw.length : Nat) : Int) < (z.length : Int)) = true from decide_eq_true (by simp only [List.length_cons] at hzl; omega)]
          have hl : letter c = false := dropWhile_head (edw.symm.trans hdw)
          have hat : atI z.cps.toList ((tw.length : Nat) : Int) = some c := atI_nat (by rw [esp, hdw, List.getElem?_append_right (Nat.le_refl _), Nat.sub_self]; rfl)
          refine ⟨_, rfl, _, rfl, z, _, _, rfl, rfl, by omega, hat, c, _, rfl, rfl, _, rfl, ?_⟩
          rw [abc_dec, hl]
          exact ⟨rfl, rfl⟩
    rintro σ _ ⟨rfl, rfl⟩
    have epT : pT (n + 1) z.cps.toList = pT (n + 1) z.cps.toList := rfl
    conv at epT =>
      rhs
      rw [pT, ← etw, ← edw]
    refine ⟨_, rfl, _, _, rfl, rfl, _, rfl, ?_⟩
    by_cases hb : 1 ≤ tw.length ∧ tw.length ≤ 6
    · rw [show decide ((1 : Int) ≤ ((tw.length : Nat) : Int)) = true from decide_eq_true (by omega)]
      refine ⟨_, _, rfl, rfl, _, rfl, ?_⟩
      rw [show decide (((tw.length : Nat) : Int) ≤ 6) = true from decide_eq_true (by omega)]
      rw [if_pos hb] at epT
      refine ⟨_, rfl, _, rfl, _, rfl, z, rfl, by omega, ?_⟩
      rw [cut_to, etake]
      refine ⟨_, .one .str, by simp, fun v1 H1 S1 h1 => ⟨_, rfl, _, rfl, _, rfl, z, rfl, by omega, ?_⟩⟩
      rw [cut_from, edrop]
      have hdl : (⟨dw.toArray⟩ : Str).length = dw.length := by rw [len_cps]
      refine ⟨_, rfl, _, rfl, _, rfl, by omega, rfl, _, rfl, ?_⟩
      rw [cut1]
      have one : ∀ {H' : Hp} (_ : Same H H') (v : V) (_ : DaAt H' v (.tup [.str ⟨tw.toArray⟩])), DaAt H' v (Tm.mk ⟨tw.toArray⟩ []).da := fun _ v hv => by simpa only [Tm.da, Tm.das] using hv
      have hno40 : (dw = [] ∨ ∃ c r, dw = c :: r ∧ c ≠ 40) → pT (n + 1) z.cps.toList = some (.mk ⟨tw.toArray⟩ [], dw) := by
        rintro (h | ⟨c, r, h, hc⟩)
        · rw [h] at epT ⊢
          exact epT
        · rw [h] at epT ⊢
          simp only [if_neg hc] at epT
          exact epT
      have simple : pT (n + 1) z.cps.toList = some (.mk ⟨tw.toArray⟩ [], dw) → tTupD (tCons (tVar 2) (tCons (tVar 3) tNil)) [some (.str z), some (.int tw.length), some v1, some (.str ⟨dw.toArray⟩), none] H1 (fun v H' => Q v H') := by
        intro hp
        refine ⟨_, rfl, _, rfl, _, .cons h1 (.one .str), by simp, fun v2 H2 S2 h2 => q _ _ hp v2 H2 (S1.trans S2) ?_⟩
        simpa only [Tm.da, Tm.das] using h2
      cases hdw : dw with
      | nil =>
        have hs := hno40 (.inl hdw)
        rw [hdw] at simple hs
        refine ite2 (fun _ => simple hs) (fun c => absurd (decide_eq_true (sgn_not (z := ⟨([] : List Nat).toArray⟩) (i := 0) (d := 40) (s := "(") (by decide +kernel) rfl)) (by simpa using c))
      | cons c r =>
        by_cases hc : c = 40
        · subst hc
          refine ite2 (fun z0 => ?_) (fun _ => ?_)
          · rw [decide_eq_true ((sgn_is (z := ⟨(40 :: r).toArray⟩) (i := 0) (d := 40) (s := "(") (c := 40) (r := r) (by decide +kernel) rfl).mpr rfl)] at z0
            cases z0
          rw [hdw] at epT
          simp only [if_true] at epT
          obtain ⟨R, eR⟩ : ∃ R, R = pLa (pT n) (r.length + 1) [] r := ⟨_, rfl⟩
          rw [← eR] at epT
          -- from the parts to the term
          have fin1 : ∀ ps q2, R = some (ps, 41 :: q2) → ps.length ≤ 3 → pT (n + 1) z.cps.toList = some (.mk ⟨tw.toArray⟩ ps, q2) := fun ps q2 h hl => by
            rw [h] at epT
            simp only [true_and, hl, if_true] at epT
            exact epT
          have fin2 : (∀ ps q2, R = some (ps, 41 :: q2) → ¬ ps.length ≤ 3) → pT (n + 1) z.cps.toList = none := fun h => by
            rw [epT]
            cases hL : R with
            | none => rfl
            | some pq =>
              obtain ⟨ps, q'⟩ := pq
              cases q' with
              | nil => rfl
              | cons d q2 =>
                show (if d = 41 ∧ ps.length ≤ 3 then _ else none) = none
                rw [if_neg]
                rintro ⟨rfl, h3⟩
                exact h _ _ hL h3
          have hcz : r.count 40 < n := by
            rw [esp, hdw, List.count_append, List.count_cons_self] at hc'
            omega
          have hrl : r.length < z.length := by rw [hzl, hdw, List.length_cons]; omega
          refine ⟨fun σ H' => ∃ acc v2 rest u, σ = [some (.str z), some (.int tw.length), some v2, some (.str ⟨rest.toArray⟩), u] ∧ Same H H' ∧ DaAt H' v2 (.tup (.str ⟨tw.toArray⟩ :: acc.map Tm.da)) ∧ acc.length ≤ 3 ∧ rest.length ≤ z.length ∧
            acc ≠ [] ∧ (∀ c q, rest = c :: q → c ≠ 44) ∧ R = some (acc, rest), ?_, ?_⟩
          · refine ⟨fun m σ H' => ∃ acc v2 rest u, m = rest.length ∧ σ = [some (.str z), some (.int tw.length), some v2, some (.str ⟨rest.toArray⟩), u] ∧ Same H H' ∧ DaAt H' v2 (.tup (.str ⟨tw.toArray⟩ :: acc.map Tm.da)) ∧ acc.length ≤ 3 ∧ rest.length ≤ z.length ∧
              (((acc = [] ∧ rest = 40 :: r) ∨ ∃ r2, rest = 44 :: r2) ∧ (∃ cs k, rest.drop 1 = cs ∧ R = pLa (pT n) k acc cs ∧ cs.length < k ∧ cs.count 40 < n ∧ rest ≠ []) ∨ (acc ≠ [] ∧ (∀ c q, rest = c :: q → c ≠ 44) ∧ R = some (acc, rest))),
              ⟨_, [], v1, 40 :: r, none, rfl, rfl, S1, h1, by simp, by simp only [List.length_cons]; omega, .inl ⟨.inl ⟨rfl, rfl⟩, r, _, rfl, eR, Nat.lt_succ_self _, hcz, by simp⟩⟩, ?_⟩
            rintro m σ H' ⟨acc, v2, rest, u, rfl, rfl, S2, h2, ha3, hrz, hcase⟩
            have hrz2 : (⟨rest.toArray⟩ : Str).length = rest.length := by rw [len_cps]
            rcases hcase with ⟨hopen, cs, k, hcs, hR, hk, hcc, hne⟩ | ⟨hne, h3, h4⟩
            · have key : ∀ P : Bool → Hp → Prop, P true H' → tOr (tTest (tOp rEq (tSl rSlS (tVar 3) tNoPart (tPart (tC (.int 1)))) (tC (.str ",")))) (tTest (tOp rEq (tCB rLenT (tCons (tVar 2) tNil)) (tC (.int 1))))
                  [some (.str z), some (.int tw.length), some v2, some (.str ⟨rest.toArray⟩), u] H' P := by
                intro P k
                refine ⟨_, rfl, _, rfl, _, rfl, by omega, rfl, _, rfl, ?_⟩
                rw [cut1]
                rcases hopen with ⟨rfl, rfl⟩ | ⟨r2, rfl⟩
                · rw [show decide (V.str (sgn ⟨(40 :: r).toArray⟩ 0) = V.str ",") = false from decide_eq_false fun z0 => absurd ((sgn_is (d := 44) (s := ",") (c := 40) (r := r) (by decide +kernel) rfl).mp z0) (by decide)]
                  refine ⟨_, rfl, v2, _, rfl, h2, rfl, _, rfl, ?_⟩
                  exact k
                · rw [show decide (V.str (sgn ⟨(44 :: r2).toArray⟩ 0) = V.str ",") = true from decide_eq_true ((sgn_is (d := 44) (s := ",") (c := 44) (r := r2) (by decide +kernel) rfl).mpr rfl)]
                  exact k
              refine key _ ?_
              refine ⟨_, fun σ' H' q => q, ?_⟩
              have hcl : cs.length + 1 = rest.length := by
                have := List.length_pos_iff.mpr hne
                rw [← hcs, List.length_drop]
                omega
              refine ⟨_, rfl, _, rfl, _, rfl, by omega, ?_⟩
              rw [cut1d]
              have ecs : (⟨(List.drop 1 (⟨rest.toArray⟩ : Str).cps.toList).toArray⟩ : Str) = ⟨cs.toArray⟩ := by
                show (⟨(List.drop 1 rest).toArray⟩ : Str) = _
                rw [hcs]
              rw [ecs]
              obtain ⟨k', rfl⟩ : ∃ k', k = k' + 1 := ⟨k - 1, by omega⟩
              refine ⟨⟨cs.toArray⟩, rfl, by rw [len_cps]; show cs.length ≤ _; omega, hcc, fun t r3 e1 v H4 S4 hv => ?_, fun e1 H4 S4 => ?_⟩
              · have e1 : pT n cs = some (t, r3) := e1
                obtain ⟨-, pp, ep, hpp⟩ := pT_tail n cs t r3 e1
                have hlr : r3.length < cs.length := by
                  have := List.length_pos_iff.mpr hpp
                  rw [ep, List.length_append]
                  omega
                obtain ⟨av, _, rfl, _, _⟩ := id hv.tup_inv
                have h2' := h2.mono (TX.of_same S4)
                refine ⟨_, rfl, rfl, _, rfl, ?_⟩
                refine ⟨_, rfl, v2, _, rfl, h2', rfl, _, rfl, ?_⟩
                by_cases h3 : acc.length = 3
                · rw [show decide (V.int (((Da.str ⟨tw.toArray⟩ :: acc.map Tm.da).length : Nat) : Int) = V.int 4) = true from decide_eq_true (by rw [List.length_cons, List.length_map, h3]; rfl)]
                  refine qx (fin2 fun ps q2 h h4 => ?_) _ (S2.trans S4)
                  rw [hR] at h
                  have := pT_len h
                  omega
                · rw [show decide (V.int (((Da.str ⟨tw.toArray⟩ :: acc.map Tm.da).length : Nat) : Int) = V.int 4) = false from decide_eq_false fun z0 => h3 (by
                    injection z0 with z0
                    rw [List.length_cons, List.length_map] at z0
                    omega)]
                  refine ⟨_, rfl, _, rfl, _, 0, _, hv, rfl, at0, fun w1 hw1 => ⟨_, .one hw1, by simp, fun v6 H6 S6 h6 => ⟨_, _, h2'.mono (TX.of_same S6), h6, by simp only [List.length_cons, List.length_map, List.length_nil]; omega, fun v7 H7 S7 h7 => ?_⟩⟩⟩
                  have hv7 := (hv.mono (TX.of_same S6)).mono (TX.of_same S7)
                  refine ⟨_, rfl, _, 1, _, hv7, rfl, at1, fun w3 hw3 => ?_⟩
                  obtain rfl := hw3.str_inv
                  refine ⟨r3.length, by omega, acc ++ [t], v7, r3, _, rfl, rfl, ((S2.trans S4).trans S6).trans S7, ?_, by rw [List.length_append, List.length_singleton]; omega, by omega, ?_⟩
                  · rw [List.map_append]
                    exact h7
                  rw [pLa, e1] at hR
                  cases r3 with
                  | nil => exact .inr ⟨by simp, fun c q z => (by cases z), hR⟩
                  | cons c r2 =>
                    simp only at hR
                    by_cases hc44 : c = 44
                    · subst hc44
                      rw [if_pos rfl] at hR
                      refine .inl ⟨.inr ⟨r2, rfl⟩, r2, k', rfl, hR, by simp only [List.length_cons] at hlr; omega, ?_, by simp⟩
                      rw [ep, List.count_append, List.count_cons] at hcc
                      omega
                    · rw [if_neg hc44] at hR
                      exact .inr ⟨by simp, fun c' q z => (by cases z; exact hc44), hR⟩
              · have e1 : pT n cs = none := e1
                refine ⟨_, rfl, rfl, _, rfl, ?_⟩
                refine qx (fin2 fun ps q2 h => ?_) _ (S2.trans S4)
                rw [hR, pLa, e1] at h
                cases h
            · refine ⟨_, rfl, _, rfl, _, rfl, by omega, rfl, _, rfl, ?_⟩
              rw [cut1]
              have hs : decide (V.str (sgn ⟨rest.toArray⟩ 0) = V.str ",") = false := by
                refine decide_eq_false fun z0 => ?_
                cases hdj : rest with
                | nil =>
                  rw [hdj] at z0
                  exact sgn_not (d := 44) (s := ",") (z := ⟨([] : List Nat).toArray⟩) (i := 0) (by decide +kernel) rfl z0
                | cons c q' =>
                  rw [hdj] at z0
                  exact h3 _ _ hdj ((sgn_is (z := ⟨(c :: q').toArray⟩) (i := 0) (d := 44) (c := c) (r := q') (by decide +kernel) rfl).mp z0)
              rw [hs]
              refine ⟨_, rfl, v2, _, rfl, h2, rfl, _, rfl, ?_⟩
              rw [show decide (V.int (((Da.str ⟨tw.toArray⟩ :: acc.map Tm.da).length : Nat) : Int) = V.int 1) = false from decide_eq_false fun z0 => hne (List.length_eq_zero_iff.mp (by
                injection z0 with z0
                rw [List.length_cons, List.length_map] at z0
                omega))]
              exact ⟨acc, v2, rest, u, rfl, S2, h2, ha3, hrz, hne, h3, h4⟩
          · rintro σ H' ⟨acc, v2, rest, u, rfl, S2, h2, ha3, hrz, hne, h3, h4⟩
            have hrz2 : (⟨rest.toArray⟩ : Str).length = rest.length := by rw [len_cps]
            refine ⟨_, rfl, _, rfl, _, rfl, by omega, rfl, _, rfl, ?_⟩
            rw [cut1]
            cases hdj : rest with
            | nil =>
              refine ite2 (fun _ => ?_) (fun c => absurd (decide_eq_true (sgn_not (z := ⟨([] : List Nat).toArray⟩) (i := 0) (d := 41) (s := ")") (by decide +kernel) rfl)) (by simpa using c))
              refine qx (fin2 fun ps q2 h => ?_) _ S2
              rw [h4, hdj] at h
              cases h
            | cons c q' =>
              by_cases hc41 : c = 41
              · subst hc41
                refine ite2 (fun z0 => ?_) (fun _ => ?_)
                · rw [decide_eq_true ((sgn_is (z := ⟨(41 :: q').toArray⟩) (i := 0) (d := 41) (s := ")") (c := 41) (r := q') (by decide +kernel) rfl).mpr rfl)] at z0
                  cases z0
                refine ⟨_, rfl, _, rfl, _, rfl, _, rfl, by rw [← hdj]; omega, ?_⟩
                rw [cut1d]
                refine ⟨_, .cons h2 (.one .str), by simp, fun v8 H8 S8 h8 => q _ _ (fin1 acc q' (by rw [h4, hdj]) ha3) v8 H8 (S2.trans S8) ?_⟩
                rw [Tm.da_eq]
                exact h8
              · refine ite2 (fun _ => ?_) (fun z0 => ?_)
                · refine qx (fin2 fun ps q2 h => ?_) _ S2
                  rw [h4, hdj] at h
                  injection h with h
                  injection h with h5 h6
                  injection h6 with h6
                  exact absurd h6 hc41
                · have : ¬ V.str (sgn ⟨(c :: q').toArray⟩ 0) = V.str ")" := fun z1 => hc41 ((sgn_is (z := ⟨(c :: q').toArray⟩) (i := 0) (c := c) (r := q') (by decide +kernel) rfl).mp z1)
                  rw [decide_eq_false this] at z0
                  exact absurd rfl z0
        · have hs := hno40 (.inr ⟨c, r, hdw, hc⟩)
          rw [hdw] at simple hs
          refine ite2 (fun _ => simple hs) (fun z0 => ?_)
          have : ¬ V.str (sgn ⟨(c :: r).toArray⟩ 0) = V.str "(" := fun z1 => hc ((sgn_is (z := ⟨(c :: r).toArray⟩) (i := 0) (c := c) (r := r) (by decide +kernel) rfl).mp z1)
          rw [decide_eq_false this] at z0
          exact absurd rfl z0
    · rw [if_neg hb] at epT
      have q0 := qx epT _ (Same.refl _)
      by_cases h1 : 1 ≤ tw.length
      · rw [show decide ((1 : Int) ≤ ((tw.length : Nat) : Int)) = true from decide_eq_true (by omega)]
        refine ⟨_, _, rfl, rfl, _, rfl, ?_⟩
        rw [show decide (((tw.length : Nat) : Int) ≤ 6) = false from decide_eq_false (by omega)]
        exact q0
      · rw [show decide ((1 : Int) ≤ ((tw.length : Nat) : Int)) = false from decide_eq_false (by omega)]
        exact ⟨_, rfl, q0⟩
end

abbrev s__law_due : Stmt := top 30
theorem sc__law_due : FnScope ["_law_text_here", "_law_words", "_law_parts", "_law_one", "_law_other"] ["_law_text_here"] (defScope s__law_due) := ⟨rfl, rfl, rfl, by decide +kernel, rfl, by decide +kernel, by decide +kernel⟩
theorem sgn_ne0 {c : Nat} {r : List Nat} : ¬ V.str ⟨(c :: r).toArray⟩ = V.str "" := fun z0 => by
  injection z0 with z0
  have e0 : ("" : Str).cps.toList = [] := by decide +kernel
  have : c :: r = ("" : Str).cps.toList := congrArg (fun s : Str => s.cps.toList) z0
  rw [e0] at this
  cases this
def signW : List (Key × V) := [(.inr "=", .str "alike"), (.inr "!=", .str "unlike"), (.inr "<=", .str "most"), (.inr ">", .str "over")]
theorem signW_at (s : Str) : valV (mergeK [] signW) (.inr s) = (Wd.of s).map fun w => V.str w.name := by
  have e : mergeK [] signW = signW := by decide +kernel
  rw [e]
  unfold Wd.of
  by_cases h1 : s = "="
  · subst h1; decide +kernel
  rw [if_neg h1]
  by_cases h2 : s = "!="
  · subst h2; decide +kernel
  rw [if_neg h2]
  by_cases h3 : s = "<="
  · subst h3; decide +kernel
  rw [if_neg h3]
  by_cases h4 : s = ">"
  · subst h4; decide +kernel
  rw [if_neg h4]
  have n1 : ¬ (Sum.inr "=" : Key) = Sum.inr s := fun z => h1 (by injection z with z; exact z.symm)
  have n2 : ¬ (Sum.inr "!=" : Key) = Sum.inr s := fun z => h2 (by injection z with z; exact z.symm)
  have n3 : ¬ (Sum.inr "<=" : Key) = Sum.inr s := fun z => h3 (by injection z with z; exact z.symm)
  have n4 : ¬ (Sum.inr ">" : Key) = Sum.inr s := fun z => h4 (by injection z with z; exact z.symm)
  simp [valV, signW, n1, n2, n3, n4]
/-- the fact that a text is, or None -/
def spDue (n : Nat) : Sp := fun vs H Q _ => ∃ z : Str, vs = [.str z] ∧ z.length ≤ 1000000 ∧ z.cps.toList.count 40 < n ∧
  (∀ f, dueW n (Txt.split z " ") = some f → ∀ v H', Same H H' → DaAt H' v f.da → Q v H') ∧ (dueW n (Txt.split z " ") = none → ∀ H', Same H H' → Q .non H')
section
variable {e : Ev} (B : Bl e)
include B
theorem ok_due (A__law_due : At e "_law_due" ["_law_text_here"] s__law_due) (n : Nat) (h__law_taken : Has e n "_law_taken" ["_law_text_here"] (spTaken n)) : Has e (n + 1) "_law_due" ["_law_text_here"] (spDue n) := by
  refine A__law_due.ok (k := n) sc__law_due (fun vs H Q E h => ?_) (fun f cdv A outer s H vs Q E hr h => ?_)
  · obtain ⟨z, rfl, _⟩ := h
    rfl
  obtain ⟨z, rfl, hz, hc, q, qx⟩ := h
  have nd := sc__law_due.nd
  have hls := sizeLine_eq
  refine ⟨_, pss_cons (ps_st 1 nd (pe_disp (pps_cons pe_str pe_str (pps_cons pe_str pe_str (pps_cons pe_str pe_str (pps_cons pe_str pe_str pps_nil)))) rfl rfl (by simp) (by decide)))
    (pss_cons (ps_st 2 nd (pe_split (pv 0) pe_str))
    (pss_cons (ps_if (PW.pt (pw_or (pt_cmpR op_ne (pe_b call_lenL B.len (pa_cons (pv 2) pa_nil)) pe_int (nomark _)) (pw_or1 (pt_cmpR (op_notInK (hu65 hr)) (pe_ix ix_list (pv 2) pe_int (fun _ _ => rfl)) (pv 1) (by rfl)))))
      (pss_one (ps_ret pe_non))
      (pss_nil))
    (pss_cons (ps_cut (ps_st 3 nd (pe_callH h__law_taken hr (pa_cons (pe_ix ix_list (pv 2) pe_int (fun _ _ => rfl)) pa_nil))))
    (pss_cons (ps_cut (ps_st 4 nd (pe_callH h__law_taken hr (pa_cons (pe_ix ix_list (pv 2) pe_int (fun _ _ => rfl)) pa_nil))))
    (pss_cons (ps_if (PW.pt (pw_or (pt_cmpR op_isN (pv 3) pe_non (nomark _)) (pw_or (pt_cmpR op_isN (pv 4) pe_non (nomark _)) (pw_or (pt_cmpR op_ne (pe_ix ix_tupD (pv 3) pe_int (fun _ _ => rfl)) pe_str (nomark _)) (pw_or1 (pt_cmpR op_ne (pe_ix ix_tupD (pv 4) pe_int (fun _ _ => rfl)) pe_str (nomark _)))))))
      (pss_one (ps_ret pe_non))
      (pss_nil))
    (pss_one (ps_ret (pe_tupD (pa_cons (pe_dget (hu1 hr) (pv 1) (pe_ix ix_list (pv 2) pe_int (fun _ _ => rfl)) (fun _ _ => rfl)) (pa_cons (pe_ix ix_tupD (pv 3) pe_int (fun _ _ => rfl)) (pa_cons (pe_ix ix_tupD (pv 4) pe_int (fun _ _ => rfl)) pa_nil))))))))))), ?_⟩
  refine fun p hp => ⟨upd_same, signW, rfl, by decide, ?_⟩
  obtain ⟨H1, eH1⟩ : ∃ H1, H1 = upd (upd H p (.dK [])) p (.dK (mergeK [] signW)) := ⟨_, rfl⟩
  rw [← eH1]
  have S1 : Same H H1 := by rw [eH1]; exact same_put (same_new hp _) hp _
  have hd : H1 p = some (.dK (mergeK [] signW)) := by rw [eH1]; exact upd_same
  clear eH1
  refine ⟨_, rfl, ⟨z, rfl⟩, z, " ", rfl, rfl, by decide +kernel, by omega, fun p2 hp2 => ?_⟩
  obtain ⟨H2, eH2⟩ : ∃ H2, H2 = upd H1 p2 (.lst ((Txt.split z " ").map V.str)) := ⟨_, rfl⟩
  rw [← eH2]
  have S2 : Same H1 H2 := by rw [eH2]; exact same_new hp2 _
  have hw : H2 p2 = some (.lst ((Txt.split z " ").map V.str)) := by rw [eH2]; exact upd_same
  clear eH2
  have hd2 := S2 _ _ hd
  have S12 := S1.trans S2
  refine ⟨_, rfl, p2, _, rfl, SqL.of hw, rfl, _, rfl, ?_⟩
  refine ite2 (fun c => ?_) (fun c => ?_)
  · have c' : ¬ V.int (((Txt.split z " ").map V.str).length : Nat) = V.int 3 := by simpa using c
    refine qx ?_ _ S12
    match h : Txt.split z " " with
    | [] => rfl
    | [_] => rfl
    | [_, _] => rfl
    | [_, _, _] => rw [h] at c'; exact absurd rfl c'
    | _ :: _ :: _ :: _ :: _ => rfl
  have c' : V.int (((Txt.split z " ").map V.str).length : Nat) = V.int 3 := by simpa using c
  obtain ⟨a, s0, b, eS⟩ : ∃ a s0 b, Txt.split z " " = [a, s0, b] := by
    match h : Txt.split z " " with
    | [] => rw [h] at c'; cases c'
    | [_] => rw [h] at c'; cases c'
    | [_, _] => rw [h] at c'; cases c'
    | [a, s0, b] => exact ⟨a, s0, b, rfl⟩
    | _ :: _ :: _ :: _ :: r =>
      rw [h] at c'
      injection c' with c'
      simp only [List.length_map, List.length_cons] at c'
      omega
  have hpa := split_len (z := z) (p := a) (by rw [eS]; simp)
  have hpb := split_len (z := z) (p := b) (by rw [eS]; simp)
  have hca := split_count (a := 40) (z := z) (p := a) (by rw [eS]; simp)
  have hcb := split_count (a := 40) (z := z) (p := b) (by rw [eS]; simp)
  rw [eS] at hw q qx
  have hg : ∀ {H' : Hp}, Same H2 H' → DGet H' p (.str s0) ((Wd.of s0).map fun w => V.str w.name) := fun S => by
    have h := DGet.k (k := .inr s0) (S _ _ hd2)
    rw [signW_at] at h
    exact h
  refine ⟨_, rfl, p2, _, 1, .str s0, rfl, rfl, SqL.of hw, at1, _, rfl, p, _, rfl, hg (Same.refl _), _, rfl, ?_⟩
  cases hof : Wd.of s0 with
  | none =>
    refine qx ?_ _ S12
    simp only [dueW, hof]
  | some w =>
    refine ⟨fun σ H' => ∃ v1, σ = [some (.str z), some (.ref p), some (.ref p2), some v1, none] ∧ Same H2 H' ∧ ((v1 = .non ∧ pT n a.cps.toList = none) ∨ ∃ t r, pT n a.cps.toList = some (t, r) ∧ DaAt H' v1 (.tup [t.da, .str ⟨r.toArray⟩])), ?_, ?_⟩
    · exact ⟨_, rfl, p2, _, 0, .str a, rfl, rfl, SqL.of hw, at0, a, rfl, by omega, by omega, fun t r e1 v H3 S3 hv => ⟨v, rfl, S3, .inr ⟨t, r, e1, hv⟩⟩, fun e1 H3 S3 => ⟨.non, rfl, S3, .inl ⟨rfl, e1⟩⟩⟩
    rintro σ H3 ⟨v1, rfl, S3, hv1⟩
    refine ⟨fun σ H' => ∃ v2, σ = [some (.str z), some (.ref p), some (.ref p2), some v1, some v2] ∧ Same H3 H' ∧ ((v2 = .non ∧ pT n b.cps.toList = none) ∨ ∃ t r, pT n b.cps.toList = some (t, r) ∧ DaAt H' v2 (.tup [t.da, .str ⟨r.toArray⟩])), ?_, ?_⟩
    · exact ⟨_, rfl, p2, _, 2, .str b, rfl, rfl, SqL.of (S3 _ _ hw), at2, b, rfl, by omega, by omega, fun t r e1 v H4 S4 hv => ⟨v, rfl, S4, .inr ⟨t, r, e1, hv⟩⟩, fun e1 H4 S4 => ⟨.non, rfl, S4, .inl ⟨rfl, e1⟩⟩⟩
    rintro σ H4 ⟨v2, rfl, S4, hv2⟩
    have S34 := S12.trans (S3.trans S4)
    have dnone : (dueR n a = none ∨ dueR n b = none) → dueW n [a, s0, b] = none := fun h => by
      simp only [dueW, hof]
      rcases h with h | h
      · rw [h]
      · cases dueR n a with
        | none => rfl
        | some _ => simp only [h]
    rcases hv1 with ⟨rfl, e1⟩ | ⟨t1, r1, e1, hv1⟩
    · exact ⟨_, rfl, rfl, _, rfl, qx (dnone (.inl (by unfold dueR; rw [e1]))) _ S34⟩
    obtain ⟨a1, _, rfl, _, _⟩ := id hv1.tup_inv
    have hv1' := hv1.mono (TX.of_same S4)
    refine ⟨_, rfl, rfl, _, rfl, ?_⟩
    rcases hv2 with ⟨rfl, e2⟩ | ⟨t2, r2, e2, hv2⟩
    · exact ⟨_, rfl, rfl, _, rfl, qx (dnone (.inr (by unfold dueR; rw [e2]))) _ S34⟩
    obtain ⟨a2, _, rfl, _, _⟩ := id hv2.tup_inv
    refine ⟨_, rfl, rfl, _, rfl, ?_⟩
    refine ⟨_, rfl, _, 1, _, hv1', rfl, at1, fun w1 hw1 => ?_⟩
    obtain rfl := hw1.str_inv
    refine ⟨rfl, _, rfl, ?_⟩
    cases r1 with
    | cons c r =>
      rw [show decide (V.str ⟨(c :: r).toArray⟩ = V.str "") = false from decide_eq_false sgn_ne0]
      exact qx (dnone (.inl (by unfold dueR; rw [e1]))) _ S34
    | nil =>
      rw [show decide (V.str ⟨([] : List Nat).toArray⟩ = V.str "") = true by decide +kernel]
      refine ⟨_, rfl, _, 1, _, hv2, rfl, at1, fun w2 hw2 => ?_⟩
      obtain rfl := hw2.str_inv
      refine ⟨rfl, _, rfl, ?_⟩
      cases r2 with
      | cons c r =>
        rw [show decide (V.str ⟨(c :: r).toArray⟩ = V.str "") = false from decide_eq_false sgn_ne0]
        exact qx (dnone (.inr (by unfold dueR; rw [e2]))) _ S34
      | nil =>
        rw [show decide (V.str ⟨([] : List Nat).toArray⟩ = V.str "") = true by decide +kernel]
        have hg4 := hg (S3.trans S4)
        rw [hof] at hg4
        refine ⟨_, rfl, _, rfl, p2, _, 1, .str s0, rfl, rfl, SqL.of (S4 _ _ (S3 _ _ hw)), at1, p, _, rfl, hg4, ?_⟩
        refine ⟨_, rfl, _, 0, _, hv1', rfl, at0, fun w3 h3 => ⟨_, rfl, _, 0, _, hv2, rfl, at0, fun w4 h4 => ?_⟩⟩
        refine ⟨_, .cons .str (.cons h3 (.one h4)), by simp, fun v5 H5 S5 h5 => q ⟨w, t1, t2⟩ ?_ _ _ (S34.trans S5) h5⟩
        simp only [dueW, hof, dueR, e1, e2]
end

abbrev s__law_is_read : Stmt := top 31
theorem sc__law_is_read : FnScope ["_law_text_here", "_law_due_here", "_law_found", "e"] ["_law_text_here"] (defScope s__law_is_read) := ⟨rfl, rfl, rfl, by decide +kernel, rfl, by decide +kernel, by decide +kernel⟩
def spIsRead (n : Nat) : Sp := fun vs H Q _ => ∃ z : Str, vs = [.str z] ∧ z.length ≤ 1000000 ∧ z.cps.toList.count 40 < n ∧ z.cps.toList.count 40 + z.cps.toList.count 44 ≤ 39 ∧ ∀ H', Same H H' → Q (.bl true) H'
section
variable {e : Ev} (B : Bl e)
include B
theorem ok_isread (A__law_is_read : At e "_law_is_read" ["_law_text_here"] s__law_is_read) {C_BoardError C_NoTerm C_NoFact C_Full C_NoMark C_Clash C_BadText : Addr} (g_BoardError : Glo e "BoardError" C_BoardError) (g_NoTerm : Glo e "NoTerm" C_NoTerm) (g_NoFact : Glo e "NoFact" C_NoFact)
    (g_Full : Glo e "Full" C_Full) (g_NoMark : Glo e "NoMark" C_NoMark) (g_Clash : Glo e "Clash" C_Clash) (g_BadText : Glo e "BadText" C_BadText) (t_BadText : Takes1 e C_BadText C_BoardError)
    (x_BadText : ExcK e C_BadText (kts [(C_NoTerm, false), (C_NoFact, false), (C_Full, false), (C_NoMark, false), (C_Clash, false), (C_BadText, true)]))
    (n : Nat) (hn : n ≤ 50) (h__law_due : Has e (n + 1) "_law_due" ["_law_text_here"] (spDue n)) (h_read_fact : Has e (2 * n + 4) "read_fact" ["text"] (spReadF C_BadText n)) : Has e (2 * n + 5) "_law_is_read" ["_law_text_here"] (spIsRead n) := by
  refine A__law_is_read.ok (k := 2 * n + 4) sc__law_is_read (fun vs H Q E h => ?_) (fun f cdv A outer s H vs Q E hr h => ?_)
  · obtain ⟨z, rfl, _⟩ := h
    rfl
  obtain ⟨z, rfl, hz, hc, hm, q⟩ := h
  have nd := sc__law_is_read.nd
  have hls := sizeLine_eq
  refine ⟨_, pss_cons (ps_cut (ps_st 1 nd (pe_callH h__law_due hr (pa_cons (pv 0) pa_nil))))
    (pss_cons (ps_try_as (i := 3) rfl rfl nd rfl rfl (names_own g_BoardError) takes0 (fun W pn xe tk hp => pss_one (ps_st 2 nd (pe_callX h_read_fact hr tk (pa_cons (pv 0) pa_nil))))
      (fun a oe cls d pn hz hf => pss_cons (ps_if (pt_val (pe_b (call_isET hz hf) B.isinstance (pa_cons (pv 3) (pa_cons (pe_tup (pa_cons (pe_glo g_NoTerm) (pa_cons (pe_glo g_NoFact) (pa_cons (pe_glo g_Full) (pa_cons (pe_glo g_NoMark) (pa_cons (pe_glo g_Clash) pa_nil)))))) pa_nil))))
          (pss_one (ps_ret pe_bl))
          (pss_nil))
        (pss_one (ps_ret (pe_and (pe_cmpR op_isN (pv 1) pe_non (nomark _)) (pe_and (pe_b (call_isEG hz hf) B.isinstance (pa_cons (pv 3) (pa_cons (pe_glo g_BadText) pa_nil))) (pe_one (pe_b (call_isEG hz hf) B.isinstance (pa_cons (pv 3) (pa_cons (pe_tyv (T := "ValueError") B.ValueError) pa_nil))))))))))
    (pss_one (ps_ret (pe_and (pe_cmpR op_notN (pv 1) pe_non (nomark _)) (pe_and (pe_b call_isi B.isinstance (pa_cons (pv 2) (pa_cons (pe_tyv (T := "tuple") B.tuple) pa_nil))) (pe_one (pe_cmpR (op_eqDa (hu64 hr)) (pv 2) (pv 1) (nomark _)))))))), ?_⟩
  have eR := dueW_read (n := n) hm
  -- what is due
  refine ⟨fun σ H' => ∃ v, σ = [some (.str z), some v, none, none] ∧ Same H H' ∧ ((v = .non ∧ readF n z = none) ∨ ∃ f, readF n z = some f ∧ DaAt H' v f.da), ?_, ?_⟩
  · exact ⟨_, rfl, z, rfl, hz, hc, fun f e1 v H1 S1 hv => ⟨v, rfl, S1, .inr ⟨f, by rw [← eR]; exact e1, hv⟩⟩, fun e1 H1 S1 => ⟨.non, rfl, S1, .inl ⟨rfl, by rw [← eR]; exact e1⟩⟩⟩
  rintro σ H1 ⟨v, rfl, S1, hv⟩
  -- what is read
  refine ⟨_, rfl, z, rfl, hz, fun p hp => ⟨Nat.le_trans (split_len hp) hz, fun _ => Nat.lt_of_le_of_lt (split_count hp) hc⟩, by omega, fun f et v2 H2 S2 h2 => ?_, fun en H2 S2 => ?_⟩
  · rcases hv with ⟨_, e1⟩ | ⟨f', e1, hv⟩
    · rw [e1] at et; cases et
    rw [et] at e1
    injection e1 with e1
    subst e1
    obtain ⟨g1, g2⟩ := readF_good et
    have okf : okD f.da := Fc.okD g1.good ⟨by have := g2.1; omega, by have := g2.2; omega⟩
    obtain ⟨a, _, rfl, _, _⟩ := (show DaAt H1 v (.tup [.str f.w.name, f.l.da, f.r.da]) from hv).tup_inv
    obtain ⟨a2, vs2, rfl, ha2, _⟩ := (show DaAt H2 v2 (.tup [.str f.w.name, f.l.da, f.r.da]) from h2).tup_inv
    refine ⟨_, rfl, rfl, _, rfl, ?_⟩
    refine ⟨_, rfl, _, .ty "tuple", .type "tuple", .type "tuple", true, rfl, .ty _, .base (.tup ha2), kit_ty (by decide +kernel), _, rfl, ?_⟩
    refine ⟨_, rfl, _, rfl, _, _, h2, hv.mono (TX.of_same S2), okf, okf, ?_⟩
    show Q (.bl (decide (f.da = f.da))) _
    rw [decide_eq_true rfl]
    exact q _ (S1.trans S2)
  · rcases hv with ⟨rfl, _⟩ | ⟨t', e1, _⟩
    · refine ⟨true, t_BadText, fun _ a ha => ?_, fun z => nomatch z⟩
      have S3 := S1.trans S2
      refine ⟨_, rfl, by simp only [List.length_cons, List.length_nil]; omega, fun p hp => ⟨C_BadText, _, ktt [(C_NoTerm, false), (C_NoFact, false), (C_Full, false), (C_NoMark, false), (C_Clash, false)], p, rfl, rfl, x_BadText, rfl, upd_same, ktt_sub (by simp), _, rfl, ?_⟩⟩
      have S4 := S3.trans (same_new hp (.tup ((ktt [(C_NoTerm, false), (C_NoFact, false), (C_Full, false), (C_NoMark, false), (C_Clash, false)]).map (·.1))))
      refine ⟨_, rfl, rfl, _, rfl, ?_⟩
      refine ⟨_, rfl, C_BadText, _, _, _, true, rfl, rfl, x_BadText, rfl, kts_of (q := (C_BadText, true)) (by simp), _, rfl, ?_⟩
      refine ⟨_, rfl, C_BadText, _, _, _, true, rfl, rfl, x_BadText, rfl, kts_ve, ?_⟩
      exact q _ S4
    · rw [en] at e1; cases e1
end

def Wd.spaced : Wd → Str
  | .alike => " = " | .unlike => " != " | .most => " <= " | .over => " > "
theorem Wd.spaced_cps (w : Wd) : w.spaced.cps.toList = 32 :: (w.sign.cps.toList ++ [32]) := by cases w <;> decide +kernel
theorem Wd.spaced_len (w : Wd) : w.spaced.length ≤ 4 := by cases w <;> decide +kernel
theorem Fc.spaced (f : Fc) : f.l.text ++ f.w.spaced ++ f.r.text = f.text := by
  have e1 : (" " : Str).cps.toList = [32] := by decide +kernel
  refine str_ext ?_
  simp only [Fc.text, app_cps, f.w.spaced_cps, e1]
  simp
def spacedK : List (Key × V) := [(.inr "alike", .str " = "), (.inr "unlike", .str " != "), (.inr "most", .str " <= "), (.inr "over", .str " > ")]
theorem Wd.in_spaced (w : Wd) : valV (mergeK [] spacedK) (.inr w.name) = some (V.str w.spaced) := by cases w <;> decide +kernel

theorem count_rep {a : Nat} {l : List Nat} : ∀ n : Nat, (List.replicate n l).flatten.count a = n * l.count a
  | 0 => by simp
  | n + 1 => by rw [List.replicate_succ, List.flatten_cons, List.count_append, count_rep n, Nat.succ_mul, Nat.add_comm]
theorem len_rep {l : List Nat} : ∀ n : Nat, (List.replicate n l).flatten.length = n * l.length
  | 0 => by simp
  | n + 1 => by rw [List.replicate_succ, List.flatten_cons, List.length_append, len_rep n, Nat.succ_mul, Nat.add_comm]
theorem count_drop_le {a : Nat} {l : List Nat} {i j : Nat} (h : i ≤ j) : (l.take i).count a + (l.drop j).count a ≤ l.count a := by
  have h1 : l.count a = (l.take i).count a + (l.drop i).count a := by rw [← List.count_append, List.take_append_drop]
  have h2 : (l.drop j).count a ≤ (l.drop i).count a := by
    have : l.drop j = (l.drop i).drop (j - i) := by rw [List.drop_drop]; congr 1; omega
    rw [this]
    exact (List.drop_sublist _ _).count_le _
  omega
theorem at_ex {α : Type} {l : List α} {i : Int} (h0 : 0 ≤ i) (h1 : i < (l.length : Int)) : ∃ c, atI l i = some c := by
  obtain ⟨n, rfl⟩ : ∃ n : Nat, i = n := ⟨i.toNat, by omega⟩
  have h2 : n < l.length := by omega
  exact ⟨l[n], atI_nat (List.getElem?_eq_getElem h2)⟩
theorem nat_of_at {α : Type} {l : List α} {n : Nat} {c : α} (h : atI l ((n : Nat) : Int) = some c) : l[n]? = some c := by
  cases e : l[n]? with
  | some d =>
    have := atI_nat e
    rw [this] at h
    exact h
  | none =>
    unfold atI ixN at h
    have := List.getElem?_eq_none_iff.mp e
    rw [if_pos (by omega), if_neg (by omega)] at h
    cases h

abbrev s_law : Stmt := top 32
theorem sc_law : FnScope ["_law_script", "_law_d", "_law_word", "_law_one", "_law_other", "_law_sign", "_law_text_here", "_law_at", "_law_more", "_law_some"] ["_law_script"] (defScope s_law) := ⟨rfl, rfl, rfl, by decide +kernel, rfl, by decide +kernel, by decide +kernel⟩
def someK : List Str := ["", " ", "a", "a =", "= a", "a = ", " = a", "a  = b", "a = b ", " a = b", "a == b", "a < b", "a >= b", "a ! b", "a = b = c", "a=b", "a =b", "a != b", "a <= b", "a > b"]
theorem some_ok : ∀ z ∈ someK, z.length ≤ 1000 ∧ z.cps.toList.count 40 < 45 ∧ z.cps.toList.count 40 + z.cps.toList.count 44 ≤ 39 := by decide +kernel
theorem marks1 {c : Nat} {k : Nat} : ([c].take k).count 40 + ([c].take k).count 44 ≤ 1 := by
  cases k with
  | zero => simp
  | succ k =>
    rw [List.take_succ_cons, List.take_nil]
    by_cases h : c = 40
    · subst h; decide
    · by_cases h2 : c = 44
      · subst h2; decide
      · simp [List.count_cons, h, h2]
section
variable {e : Ev} (B : Bl e)
include B
theorem ok_law (A_law : At e "law" ["_law_script"] s_law) (h__law_dice : Has e 2 "_law_dice" ["_law_script", "_law_k"] (spDice e.K)) (h__law_off : Has e 2 "_law_off" ["_law_d", "_law_most"] (spOff e.K)) (h__law_works : Has e 3 "_law_works" ["_law_d"] (spWorks e.K))
    (h__law_fact : Has e 6 "_law_fact" ["_law_d", "_law_works_here", "_law_deep"] (spFact e.K 3)) (h__law_text : Has e 41 "_law_text" ["_law_term_here"] (spShown 41)) (h__law_is_read : Has e 95 "_law_is_read" ["_law_text_here"] (spIsRead 45)) : Has e 96 "law" ["_law_script"] (spLaw e.K) := by
  refine A_law.ok sc_law (fun vs H Q E h => ?_) (fun f cdv A outer s H vs Q E hr h => ?_)
  · obtain ⟨a, ns, rfl, _⟩ := h
    rfl
  obtain ⟨a, ns, rfl, hS, h63, q⟩ := h
  have nd := sc_law.nd
  have hls := sizeLine_eq
  refine ⟨_, pss_cons (ps_st 1 nd (pe_callH h__law_dice hr (pa_cons (pv 0) (pa_cons pe_int pa_nil))))
    (pss_cons (ps_asg (pe_callH h__law_fact hr (pa_cons (pv 1) (pa_cons (pe_callH h__law_works hr (pa_cons (pv 1) pa_nil)) (pa_cons pe_int pa_nil)))) (pg_tup (by rfl) (pgs_cons (pg_nm 2 nd) (pgs_cons (pg_nm 3 nd) (pgs_cons (pg_nm 4 nd) pgs_nil)))))
    (pss_cons (ps_st 5 nd (pe_dget (hu1 hr) (pe_disp (pps_cons pe_str pe_str (pps_cons pe_str pe_str (pps_cons pe_str pe_str (pps_cons pe_str pe_str pps_nil)))) rfl rfl (by simp) (by decide)) (pv 2) (fun _ _ => rfl)))
    (pss_cons (ps_st 6 nd (pe_op op_add_str (pe_op op_add_str (pe_callH h__law_text hr (pa_cons (pv 3) pa_nil)) (pv 5)) (pe_callH h__law_text hr (pa_cons (pv 4) pa_nil))))
    (pss_cons (ps_st 7 nd (pe_callH h__law_off hr (pa_cons (pv 1) (pa_cons (pe_op op_add (pe_b call_len_str B.len (pa_cons (pv 6) pa_nil)) pe_int) pa_nil))))
    (pss_cons (ps_st 8 nd (pe_ix ix_str pe_str (pe_callH h__law_off hr (pa_cons (pv 1) (pa_cons pe_int pa_nil))) (fun _ _ => rfl)))
    (pss_cons (ps_st 6 nd (pe_op op_add_str (pe_op op_add_str (pe_slice sl_str (pv 6) po_none (po_some (pv 7))) (pe_slice sl_str (pv 8) po_none (po_some (pe_callH h__law_off hr (pa_cons (pv 1) (pa_cons pe_int pa_nil)))))) (pe_slice sl_str (pv 6) (po_some (pe_op op_add (pv 7) (pe_callH h__law_off hr (pa_cons (pv 1) (pa_cons pe_int pa_nil))))) po_none)))
    (pss_cons (ps_st 9 nd (pe_lstA (pa_cons pe_str (pa_cons pe_str (pa_cons pe_str (pa_cons pe_str (pa_cons pe_str (pa_cons pe_str (pa_cons pe_str (pa_cons pe_str (pa_cons pe_str (pa_cons pe_str (pa_cons pe_str (pa_cons pe_str pa_nil))))))))))))))
    (pss_cons (ps_st 9 nd (pe_op op_cat (pv 9) (pe_lstA (pa_cons pe_str (pa_cons pe_str (pa_cons pe_str (pa_cons pe_str (pa_cons pe_str (pa_cons pe_str (pa_cons pe_str (pa_cons pe_str pa_nil)))))))))))
    (pss_one (ps_ret (pe_and (pe_callH h__law_is_read hr (pa_cons (pv 6) pa_nil)) (pe_one (pe_callH h__law_is_read hr (pa_cons (pe_ix ix_list (pv 9) (pe_callH h__law_off hr (pa_cons (pv 1) (pa_cons pe_int pa_nil))) (fun _ _ => rfl)) pa_nil)))))))))))))), ?_⟩
  refine ⟨_, rfl, a, ns, 0, rfl, hS, h63, by decide, fun d H1 hd S1 D1 => ?_⟩
  refine ⟨_, rfl, _, rfl, d, rfl, D1, fun l ds H2 hl2 B2 D2 L2 hW => ?_⟩
  refine ⟨d, l, ds, 2, rfl, D2, L2, hW, by decide, by decide, fun v fc H3 B3 D3 hv gf c1 c2 n1 n2 => ?_⟩
  have n1' : fc.l.count ≤ 19 := by have : (2 : Nat) ^ (2 : Int).toNat = 4 := rfl; omega
  have n2' : fc.r.count ≤ 19 := by have : (2 : Nat) ^ (2 : Int).toNat = 4 := rfl; omega
  have k1 := Tm.codes_le gf.1
  have k2 := Tm.codes_le gf.2
  have s1 := Tm.good_short gf.1
  have s2 := Tm.good_short gf.2
  have hv' : DaAt H3 v (.tup [.str fc.w.name, fc.l.da, fc.r.da]) := hv
  obtain ⟨av, vs3, rfl, hav, hvs⟩ := hv'.tup_inv
  obtain ⟨w0, r0, rfl, hw0, hvs⟩ := hvs.cons_inv
  obtain ⟨w1, r1, rfl, hw1, hvs⟩ := hvs.cons_inv
  obtain ⟨w2, r2, rfl, hw2, hvs⟩ := hvs.cons_inv
  obtain rfl := hvs.nil_inv
  obtain rfl := hw0.str_inv
  refine ⟨av, _, rfl, SqT.of hav, rfl, _, _, rfl, _, _, rfl, _, _, rfl, rfl, ?_⟩
  -- the sign
  refine fun p hp => ⟨upd_same, spacedK, rfl, by decide, ?_⟩
  obtain ⟨H4, eH4⟩ : ∃ H4, H4 = upd (upd H3 p (.dK [])) p (.dK (mergeK [] spacedK)) := ⟨_, rfl⟩
  rw [← eH4]
  have S4 : Same H3 H4 := by rw [eH4]; exact same_put (same_new hp _) hp _
  have hd4 : H4 p = some (.dK (mergeK [] spacedK)) := by rw [eH4]; exact upd_same
  clear eH4
  have hg : DGet H4 p (.str fc.w.name) (some (.str fc.w.spaced)) := by
    have h := DGet.k (k := .inr fc.w.name) hd4
    rw [Wd.in_spaced] at h
    exact h
  refine ⟨_, rfl, p, _, rfl, hg, ?_⟩
  have l1 := text_len fc.l
  have l2 := text_len fc.r
  have l3 := fc.w.spaced_len
  refine ⟨_, rfl, w1, fc.l, rfl, hw1.mono (TX.of_same S4), s1, by omega, by omega, fun H5 S5 => ?_⟩
  refine ⟨_, rfl, _, _, rfl, rfl, by omega, _, rfl, w2, fc.r, rfl, (hw2.mono (TX.of_same S4)).mono (TX.of_same S5), s2, by omega, by omega, fun H6 S6 => ⟨_, _, rfl, rfl, ?_, ?_⟩⟩
  · have : (fc.l.text ++ fc.w.spaced).length = fc.l.text.length + fc.w.spaced.length := by rw [len_cps, app_cps, List.length_append, ← len_cps, ← len_cps]
    omega
  obtain ⟨x, ex⟩ : ∃ x : Str, x = fc.l.text ++ fc.w.spaced ++ fc.r.text := ⟨_, rfl⟩
  rw [← ex]
  have xc : x.cps.toList = fc.l.codes ++ fc.w.spaced.cps.toList ++ fc.r.codes := by rw [ex, app_cps, app_cps, text_cps, text_cps]
  have xl : x.length ≤ 1000 := by
    rw [len_cps, xc, List.length_append, List.length_append, ← len_cps]
    omega
  have x40 : x.cps.toList.count 40 + x.cps.toList.count 44 ≤ 36 := by
    have h1 := Tm.codes_marks gf.1
    have h2 := Tm.codes_marks gf.2
    have h3 : fc.w.spaced.cps.toList.count 40 = 0 ∧ fc.w.spaced.cps.toList.count 44 = 0 := by cases fc.w <;> decide +kernel
    rw [xc]
    simp only [List.count_append, h3.1, h3.2]
    omega
  clear ex
  have D6 := ((D3.same S4).same S5).same S6
  refine ⟨_, rfl, _, rfl, x, rfl, by omega, _, _, rfl, rfl, d, _, rfl, D6, by omega, by omega, fun m1 H7 m1a m1b B7 D7 => ?_⟩
  obtain ⟨i, rfl⟩ : ∃ i : Nat, m1 = i := ⟨m1.toNat, by omega⟩
  refine ⟨_, rfl, d, 20, rfl, D7, by decide, by decide, fun m2 H8 m2a m2b B8 D8 => ?_⟩
  obtain ⟨c, hc⟩ : ∃ c, atI ("(),=!<> abz09AZ_.-+&" : Str).cps.toList m2 = some c := at_ex m2a (by
    have : ("(),=!<> abz09AZ_.-+&" : Str).cps.toList.length = 20 := by decide +kernel
    omega)
  refine ⟨_, _, c, rfl, rfl, by decide +kernel, hc, ?_⟩
  -- the text, changed
  refine ⟨_, rfl, _, rfl, _, rfl, x, rfl, by omega, ?_⟩
  rw [cut_to]
  refine ⟨_, rfl, _, rfl, d, 2, rfl, D8, by decide, by decide, fun m3 H9 m3a m3b B9 D9 => ?_⟩
  obtain ⟨k3, rfl⟩ : ∃ k3 : Nat, m3 = k3 := ⟨m3.toNat, by omega⟩
  refine ⟨_, rfl, ⟨#[c]⟩, rfl, by show 1 ≤ sizeLine; omega, ?_⟩
  rw [cut_to]
  obtain ⟨x1, ex1⟩ : ∃ x1 : Str, x1 = ⟨(List.take i x.cps.toList).toArray⟩ := ⟨_, rfl⟩
  obtain ⟨x2, ex2⟩ : ∃ x2 : Str, x2 = ⟨(List.take k3 (⟨#[c]⟩ : Str).cps.toList).toArray⟩ := ⟨_, rfl⟩
  rw [← ex1, ← ex2]
  have e1 : x1.cps.toList = x.cps.toList.take i := by rw [ex1]
  have e2 : x2.cps.toList = [c].take k3 := by rw [ex2]
  have l1 : x1.length ≤ 1000 := by rw [len_cps, e1, List.length_take, ← len_cps]; omega
  have l2 : x2.length ≤ 1 := by rw [len_cps, e2, List.length_take]; simp; omega
  clear ex1 ex2
  refine ⟨_, _, rfl, rfl, by omega, ?_⟩
  refine ⟨_, rfl, _, rfl, _, rfl, d, 2, rfl, D9, by decide, by decide, fun m4 H10 m4a m4b B10 D10 => ?_⟩
  obtain ⟨k4, rfl⟩ : ∃ k4 : Nat, m4 = k4 := ⟨m4.toNat, by omega⟩
  refine ⟨_, _, rfl, rfl, _, rfl, x, rfl, by omega, ?_⟩
  have ei : ((i : Nat) : Int) + ((k4 : Nat) : Int) = ((i + k4 : Nat) : Int) := by omega
  rw [ei, cut_from]
  obtain ⟨x3, ex3⟩ : ∃ x3 : Str, x3 = ⟨(List.drop (i + k4) x.cps.toList).toArray⟩ := ⟨_, rfl⟩
  rw [← ex3]
  have e3 : x3.cps.toList = x.cps.toList.drop (i + k4) := by rw [ex3]
  have l3 : x3.length ≤ 1000 := by rw [len_cps, e3, List.length_drop, ← len_cps]; omega
  clear ex3
  have l12 : (x1 ++ x2).length = x1.length + x2.length := by rw [len_cps, app_cps, List.length_append, ← len_cps, ← len_cps]
  have l123 : (x1 ++ x2 ++ x3).length = x1.length + x2.length + x3.length := by rw [len_cps, app_cps, List.length_append, ← len_cps, ← len_cps, l12]
  refine ⟨_, _, rfl, rfl, by omega, ?_⟩
  have hmarks : (x1 ++ x2 ++ x3).cps.toList.count 40 + (x1 ++ x2 ++ x3).cps.toList.count 44 ≤ 39 := by
    simp only [app_cps, List.count_append, e1, e2, e3]
    have h1 := count_drop_le (a := 40) (l := x.cps.toList) (i := i) (j := i + k4) (by omega)
    have h2 := count_drop_le (a := 44) (l := x.cps.toList) (i := i) (j := i + k4) (by omega)
    have h3 := marks1 (c := c) (k := k3)
    omega
  have hcount : (x1 ++ x2 ++ x3).cps.toList.count 40 < 45 := by omega
  -- the odd texts
  refine ⟨by simp only [List.length_cons, List.length_nil]; omega, fun p1 H11 hp1 S11 w1 => ?_⟩
  refine ⟨_, rfl, by simp only [List.length_cons, List.length_nil]; omega, fun p2 H12 hp2 S12 w2 => ?_⟩
  refine ⟨p1, p2, _, _, rfl, rfl, S12 _ _ w1, w2, by simp only [List.length_cons, List.length_nil]; omega, fun p3 hp3 => ?_⟩
  obtain ⟨H13, eH13⟩ : ∃ H13, H13 = upd H12 p3 (.lst (someK.map V.str)) := ⟨_, rfl⟩
  have w3 : H13 p3 = some (.lst (someK.map V.str)) := by rw [eH13]; exact upd_same
  have S13 : Same H12 H13 := by rw [eH13]; exact same_new hp3 _
  show gName _ _ _ (upd H12 p3 (.lst (someK.map V.str))) _
  rw [← eH13]
  clear eH13
  have D13 := ((D10.same S11).same S12).same S13
  have np3 : p3 ≠ d := by
    obtain ⟨_, h⟩ := ((D10.same S11).same S12).lst
    exact (ne_of_none h hp3).symm
  -- each is read, or refused
  refine ⟨_, rfl, _, rfl, by omega, hcount, hmarks, fun H15 S15 => ⟨_, rfl, ?_⟩⟩
  have D15 := D13.same S15
  refine ⟨_, rfl, _, rfl, d, 20, rfl, D15, by decide, by decide, fun m6 H16 m6a m6b B16 D16 => ?_⟩
  obtain ⟨z, hz⟩ : ∃ z, atI someK m6 = some z := at_ex m6a (by show m6 < 20; exact m6b)
  have hz2 : atI (someK.map V.str) m6 = some (.str z) := by
    obtain ⟨n, rfl⟩ : ∃ n : Nat, m6 = n := ⟨m6.toNat, by omega⟩
    have hzn := nat_of_at hz
    exact atI_nat (by rw [List.getElem?_map, hzn]; rfl)
  have hzm : z ∈ someK := by
    obtain ⟨n, rfl⟩ : ∃ n : Nat, m6 = n := ⟨m6.toNat, by omega⟩
    exact List.mem_of_getElem? (nat_of_at hz)
  obtain ⟨z1, z2, z3⟩ := some_ok z hzm
  exact ⟨p3, _, m6, .str z, rfl, rfl, SqL.of (B16 _ _ np3 (S15 _ _ w3)), hz2, z, rfl, by omega, z2, z3, fun H17 S17 => q _⟩
end

abbrev s_Clash___init__ : Stmt := inClass (top 7) 0
def d_Clash___init__ : He.DefD := ⟨("Clash", some "__init__"), "__init__", "Clash.__init__", defArgs s_Clash___init__, defBody s_Clash___init__, defScope s_Clash___init__, [], []⟩
def d_is_name : He.DefD := ⟨("is_name", none), "is_name", "is_name", defArgs s_is_name, defBody s_is_name, defScope s_is_name, [], []⟩
def d_names_in : He.DefD := ⟨("names_in", none), "names_in", "names_in", defArgs s_names_in, defBody s_names_in, defScope s_names_in, [], []⟩
def d_Reader___init__ : He.DefD := ⟨("Reader", some "__init__"), "__init__", "Reader.__init__", defArgs s_Reader___init__, defBody s_Reader___init__, defScope s_Reader___init__, [], []⟩
def d_Reader_sign : He.DefD := ⟨("Reader", some "sign"), "sign", "Reader.sign", defArgs s_Reader_sign, defBody s_Reader_sign, defScope s_Reader_sign, [], []⟩
def d_Reader_term : He.DefD := ⟨("Reader", some "term"), "term", "Reader.term", defArgs s_Reader_term, defBody s_Reader_term, defScope s_Reader_term, [], []⟩
def d_Reader_parts : He.DefD := ⟨("Reader", some "parts"), "parts", "Reader.parts", defArgs s_Reader_parts, defBody s_Reader_parts, defScope s_Reader_parts, [], []⟩
def d_read : He.DefD := ⟨("read", none), "read", "read", defArgs s_read, defBody s_read, defScope s_read, [], []⟩
def d_read_fact : He.DefD := ⟨("read_fact", none), "read_fact", "read_fact", defArgs s_read_fact, defBody s_read_fact, defScope s_read_fact, [], []⟩
def d__law_cell : He.DefD := ⟨("_law_cell", none), "_law_cell", "_law_cell", defArgs s__law_cell, defBody s__law_cell, defScope s__law_cell, [], []⟩
def d__law_dice : He.DefD := ⟨("_law_dice", none), "_law_dice", "_law_dice", defArgs s__law_dice, defBody s__law_dice, defScope s__law_dice, [], []⟩
def d__law_off : He.DefD := ⟨("_law_off", none), "_law_off", "_law_off", defArgs s__law_off, defBody s__law_off, defScope s__law_off, [], []⟩
def d__law_works : He.DefD := ⟨("_law_works", none), "_law_works", "_law_works", defArgs s__law_works, defBody s__law_works, defScope s__law_works, [], []⟩
def d__law_term : He.DefD := ⟨("_law_term", none), "_law_term", "_law_term", defArgs s__law_term, defBody s__law_term, defScope s__law_term, [], []⟩
def d__law_fact : He.DefD := ⟨("_law_fact", none), "_law_fact", "_law_fact", defArgs s__law_fact, defBody s__law_fact, defScope s__law_fact, [], []⟩
abbrev s__law_facts : Stmt := top 27
def d__law_facts : He.DefD := ⟨("_law_facts", none), "_law_facts", "_law_facts", defArgs s__law_facts, defBody s__law_facts, defScope s__law_facts, [], []⟩
def d__law_text : He.DefD := ⟨("_law_text", none), "_law_text", "_law_text", defArgs s__law_text, defBody s__law_text, defScope s__law_text, [], []⟩
def d__law_taken : He.DefD := ⟨("_law_taken", none), "_law_taken", "_law_taken", defArgs s__law_taken, defBody s__law_taken, defScope s__law_taken, [], []⟩
def d__law_due : He.DefD := ⟨("_law_due", none), "_law_due", "_law_due", defArgs s__law_due, defBody s__law_due, defScope s__law_due, [], []⟩
def d__law_is_read : He.DefD := ⟨("_law_is_read", none), "_law_is_read", "_law_is_read", defArgs s__law_is_read, defBody s__law_is_read, defScope s__law_is_read, [], []⟩
def d_law : He.DefD := ⟨("law", none), "law", "law", defArgs s_law, defBody s_law, defScope s_law, [], []⟩
def fn : List He.DefD := [d_Clash___init__, d_is_name, d_names_in, d_Reader___init__, d_Reader_sign, d_Reader_term, d_Reader_parts, d_read, d_read_fact, d__law_cell, d__law_dice, d__law_off, d__law_works, d__law_term, d__law_fact, d__law_facts, d__law_text, d__law_taken, d__law_due, d__law_is_read, d_law]
def fa : List He.Fa := [.glo "is_name", .glo "names_in", .glo "read", .glo "read_fact", .glo "_law_cell", .glo "_law_dice", .glo "_law_off", .glo "_law_works", .glo "_law_term", .glo "_law_fact", .glo "_law_facts", .glo "_law_text", .glo "_law_taken", .glo "_law_due", .glo "_law_is_read", .glo "law", .free "len", .free "abs", .free "max", .free "min", .free "int", .free "tuple", .free "list", .free "range", .free "sum", .free "isinstance", .free "sorted", .free "set", .free "zip", .free "enumerate", .free "reversed", .free "str", .free "bool", .free "ValueError", .free "KeyError", .glo "BoardError", .exc "BoardError", .glo "NoTerm", .exc "NoTerm", .glo "NoFact", .exc "NoFact", .glo "BadText", .exc "BadText", .glo "Full", .exc "Full", .glo "NoMark", .exc "NoMark", .glo "Clash", .glo "Reader", .cls "Reader", .mkr "Reader", .noat "Reader" "text", .noat "Reader" "at", .meth "Reader" "sign", .meth "Reader" "term", .meth "Reader" "parts", .str "LETTERS" "abcdefghijklmnopqrstuvwxyz", .int "MOST_LETTERS" 6, .int "MOST_PARTS" 3, .int "MOST_NAMES" 40, .glo "SIGNS"]
def tabs : List He.Tab := [(fun K => He.ga K "SIGNS", ["alike", "unlike", "most", "over"])]
def exs (K : PySem.W.Frag) : List Bool := [excCB K (He.ga K "BadText"), kitB K (He.ga K "BadText") (.type "ValueError") true, ([(He.ga K "NoTerm", false), (He.ga K "NoFact", false), (He.ga K "Full", false), (He.ga K "NoMark", false), (He.ga K "Clash", false), (He.ga K "BadText", true)]).all fun q => kitB K (He.ga K "BadText") (.ref q.1) q.2, decide (PySem.W.exmOne K (.ref (He.ga K "BadText")) (.ref (He.ga K "BoardError")) = some true), He.valsB K (He.ga K "SIGNS") [("alike", .str "="), ("unlike", .str "!="), ("most", .str "<="), ("over", .str ">")]]
def exB (K : PySem.W.Frag) : Bool := (exs K).all id
theorem ex_at {K : PySem.W.Frag} {b : Bool} (h : exB K = true) (i : Nat) (hb : (exs K)[i]? = some b := by rfl) : b = true := List.all_eq_true.mp h b (List.mem_of_getElem? hb)
/-- the built-in names are free -/
theorem bl_of {P : Program} {w : World} {K : PySem.W.Frag} {h base : Heap} {mg : Str → Option Value} (X : K.In h) (G : h.Ns mainGlobals mg) (c : He.SaysD fa fn K) : Bl ⟨P, w, K, mg, base⟩ :=
  ⟨He.free_ok X G (c.fact 16 (f := .free "len") rfl), He.free_ok X G (c.fact 17 (f := .free "abs") rfl), He.free_ok X G (c.fact 18 (f := .free "max") rfl), He.free_ok X G (c.fact 19 (f := .free "min") rfl), He.free_ok X G (c.fact 20 (f := .free "int") rfl), He.free_ok X G (c.fact 21 (f := .free "tuple") rfl), He.free_ok X G (c.fact 22 (f := .free "list") rfl), He.free_ok X G (c.fact 23 (f := .free "range") rfl), He.free_ok X G (c.fact 24 (f := .free "sum") rfl), He.free_ok X G (c.fact 25 (f := .free "isinstance") rfl), He.free_ok X G (c.fact 26 (f := .free "sorted") rfl), He.free_ok X G (c.fact 27 (f := .free "set") rfl), He.free_ok X G (c.fact 28 (f := .free "zip") rfl), He.free_ok X G (c.fact 29 (f := .free "enumerate") rfl), He.free_ok X G (c.fact 30 (f := .free "reversed") rfl), He.free_ok X G (c.fact 31 (f := .free "str") rfl), He.free_ok X G (c.fact 32 (f := .free "bool") rfl), He.free_ok X G (c.fact 33 (f := .free "ValueError") rfl), He.free_ok X G (c.fact 34 (f := .free "KeyError") rfl)⟩
theorem at_is_name {P : Program} {w : World} {K : PySem.W.Frag} {h base : Heap} {mg : Str → Option Value} (X : K.In h) (G : h.Ns mainGlobals mg) (c : He.SaysD fa fn K) : At ⟨P, w, K, mg, base⟩ "is_name" ["text"] s_is_name := by
  obtain ⟨fd, F⟩ := c.def_ 1 (d := d_is_name) rfl
  exact At.of_fun (f := He.ga K "is_name") F (He.glo_ok X G (c.fact 0 (f := .glo "is_name") rfl)) fun _ _ _ _ _ _ us hl => match us, hl with | [_], _ => rfl
theorem at_names_in {P : Program} {w : World} {K : PySem.W.Frag} {h base : Heap} {mg : Str → Option Value} (X : K.In h) (G : h.Ns mainGlobals mg) (c : He.SaysD fa fn K) : At ⟨P, w, K, mg, base⟩ "names_in" ["term"] s_names_in := by
  obtain ⟨fd, F⟩ := c.def_ 2 (d := d_names_in) rfl
  exact At.of_fun (f := He.ga K "names_in") F (He.glo_ok X G (c.fact 1 (f := .glo "names_in") rfl)) fun _ _ _ _ _ _ us hl => match us, hl with | [_], _ => rfl
theorem at_Reader___init__ {P : Program} {w : World} {K : PySem.W.Frag} {h base : Heap} {mg : Str → Option Value} (X : K.In h) (G : h.Ns mainGlobals mg) (c : He.SaysD fa fn K) : AtI ⟨P, w, K, mg, base⟩ (He.ga K "Reader") "Reader.__init__" ["self", "text"] s_Reader___init__ := by
  obtain ⟨fd, F⟩ := c.def_ 3 (d := d_Reader___init__) rfl
  exact ⟨_, fd, F, He.mkr_ok (c.fact 50 (f := .mkr "Reader") rfl), F.bindsN fun _ _ _ _ _ _ us hl => match us, hl with | [_, _], _ => rfl⟩
theorem at_Reader_sign {P : Program} {w : World} {K : PySem.W.Frag} {h base : Heap} {mg : Str → Option Value} (X : K.In h) (G : h.Ns mainGlobals mg) (c : He.SaysD fa fn K) : AtM ⟨P, w, K, mg, base⟩ (He.ga K "Reader") "sign" "Reader.sign" ["self"] s_Reader_sign := by
  obtain ⟨fd, F⟩ := c.def_ 4 (d := d_Reader_sign) rfl
  exact ⟨_, fd, F, He.meth_ok (c.fact 53 (f := .meth "Reader" "sign") rfl), F.bindsN fun _ _ _ _ _ _ us hl => match us, hl with | [_], _ => rfl⟩
theorem at_Reader_term {P : Program} {w : World} {K : PySem.W.Frag} {h base : Heap} {mg : Str → Option Value} (X : K.In h) (G : h.Ns mainGlobals mg) (c : He.SaysD fa fn K) : AtM ⟨P, w, K, mg, base⟩ (He.ga K "Reader") "term" "Reader.term" ["self"] s_Reader_term := by
  obtain ⟨fd, F⟩ := c.def_ 5 (d := d_Reader_term) rfl
  exact ⟨_, fd, F, He.meth_ok (c.fact 54 (f := .meth "Reader" "term") rfl), F.bindsN fun _ _ _ _ _ _ us hl => match us, hl with | [_], _ => rfl⟩
theorem at_Reader_parts {P : Program} {w : World} {K : PySem.W.Frag} {h base : Heap} {mg : Str → Option Value} (X : K.In h) (G : h.Ns mainGlobals mg) (c : He.SaysD fa fn K) : AtM ⟨P, w, K, mg, base⟩ (He.ga K "Reader") "parts" "Reader.parts" ["self"] s_Reader_parts := by
  obtain ⟨fd, F⟩ := c.def_ 6 (d := d_Reader_parts) rfl
  exact ⟨_, fd, F, He.meth_ok (c.fact 55 (f := .meth "Reader" "parts") rfl), F.bindsN fun _ _ _ _ _ _ us hl => match us, hl with | [_], _ => rfl⟩
theorem at_read {P : Program} {w : World} {K : PySem.W.Frag} {h base : Heap} {mg : Str → Option Value} (X : K.In h) (G : h.Ns mainGlobals mg) (c : He.SaysD fa fn K) : At ⟨P, w, K, mg, base⟩ "read" ["text"] s_read := by
  obtain ⟨fd, F⟩ := c.def_ 7 (d := d_read) rfl
  exact At.of_fun (f := He.ga K "read") F (He.glo_ok X G (c.fact 2 (f := .glo "read") rfl)) fun _ _ _ _ _ _ us hl => match us, hl with | [_], _ => rfl
theorem at_read_fact {P : Program} {w : World} {K : PySem.W.Frag} {h base : Heap} {mg : Str → Option Value} (X : K.In h) (G : h.Ns mainGlobals mg) (c : He.SaysD fa fn K) : At ⟨P, w, K, mg, base⟩ "read_fact" ["text"] s_read_fact := by
  obtain ⟨fd, F⟩ := c.def_ 8 (d := d_read_fact) rfl
  exact At.of_fun (f := He.ga K "read_fact") F (He.glo_ok X G (c.fact 3 (f := .glo "read_fact") rfl)) fun _ _ _ _ _ _ us hl => match us, hl with | [_], _ => rfl
theorem at__law_cell {P : Program} {w : World} {K : PySem.W.Frag} {h base : Heap} {mg : Str → Option Value} (X : K.In h) (G : h.Ns mainGlobals mg) (c : He.SaysD fa fn K) : At ⟨P, w, K, mg, base⟩ "_law_cell" ["_law_script", "_law_k"] s__law_cell := by
  obtain ⟨fd, F⟩ := c.def_ 9 (d := d__law_cell) rfl
  exact At.of_fun (f := He.ga K "_law_cell") F (He.glo_ok X G (c.fact 4 (f := .glo "_law_cell") rfl)) fun _ _ _ _ _ _ us hl => match us, hl with | [_, _], _ => rfl
theorem at__law_dice {P : Program} {w : World} {K : PySem.W.Frag} {h base : Heap} {mg : Str → Option Value} (X : K.In h) (G : h.Ns mainGlobals mg) (c : He.SaysD fa fn K) : At ⟨P, w, K, mg, base⟩ "_law_dice" ["_law_script", "_law_k"] s__law_dice := by
  obtain ⟨fd, F⟩ := c.def_ 10 (d := d__law_dice) rfl
  exact At.of_fun (f := He.ga K "_law_dice") F (He.glo_ok X G (c.fact 5 (f := .glo "_law_dice") rfl)) fun _ _ _ _ _ _ us hl => match us, hl with | [_, _], _ => rfl
theorem at__law_off {P : Program} {w : World} {K : PySem.W.Frag} {h base : Heap} {mg : Str → Option Value} (X : K.In h) (G : h.Ns mainGlobals mg) (c : He.SaysD fa fn K) : At ⟨P, w, K, mg, base⟩ "_law_off" ["_law_d", "_law_most"] s__law_off := by
  obtain ⟨fd, F⟩ := c.def_ 11 (d := d__law_off) rfl
  exact At.of_fun (f := He.ga K "_law_off") F (He.glo_ok X G (c.fact 6 (f := .glo "_law_off") rfl)) fun _ _ _ _ _ _ us hl => match us, hl with | [_, _], _ => rfl
theorem at__law_works {P : Program} {w : World} {K : PySem.W.Frag} {h base : Heap} {mg : Str → Option Value} (X : K.In h) (G : h.Ns mainGlobals mg) (c : He.SaysD fa fn K) : At ⟨P, w, K, mg, base⟩ "_law_works" ["_law_d"] s__law_works := by
  obtain ⟨fd, F⟩ := c.def_ 12 (d := d__law_works) rfl
  exact At.of_fun (f := He.ga K "_law_works") F (He.glo_ok X G (c.fact 7 (f := .glo "_law_works") rfl)) fun _ _ _ _ _ _ us hl => match us, hl with | [_], _ => rfl
theorem at__law_term {P : Program} {w : World} {K : PySem.W.Frag} {h base : Heap} {mg : Str → Option Value} (X : K.In h) (G : h.Ns mainGlobals mg) (c : He.SaysD fa fn K) : At ⟨P, w, K, mg, base⟩ "_law_term" ["_law_d", "_law_works_here", "_law_deep"] s__law_term := by
  obtain ⟨fd, F⟩ := c.def_ 13 (d := d__law_term) rfl
  exact At.of_fun (f := He.ga K "_law_term") F (He.glo_ok X G (c.fact 8 (f := .glo "_law_term") rfl)) fun _ _ _ _ _ _ us hl => match us, hl with | [_, _, _], _ => rfl
theorem at__law_fact {P : Program} {w : World} {K : PySem.W.Frag} {h base : Heap} {mg : Str → Option Value} (X : K.In h) (G : h.Ns mainGlobals mg) (c : He.SaysD fa fn K) : At ⟨P, w, K, mg, base⟩ "_law_fact" ["_law_d", "_law_works_here", "_law_deep"] s__law_fact := by
  obtain ⟨fd, F⟩ := c.def_ 14 (d := d__law_fact) rfl
  exact At.of_fun (f := He.ga K "_law_fact") F (He.glo_ok X G (c.fact 9 (f := .glo "_law_fact") rfl)) fun _ _ _ _ _ _ us hl => match us, hl with | [_, _, _], _ => rfl
theorem at__law_facts {P : Program} {w : World} {K : PySem.W.Frag} {h base : Heap} {mg : Str → Option Value} (X : K.In h) (G : h.Ns mainGlobals mg) (c : He.SaysD fa fn K) : At ⟨P, w, K, mg, base⟩ "_law_facts" ["_law_d", "_law_works_here", "_law_most"] s__law_facts := by
  obtain ⟨fd, F⟩ := c.def_ 15 (d := d__law_facts) rfl
  exact At.of_fun (f := He.ga K "_law_facts") F (He.glo_ok X G (c.fact 10 (f := .glo "_law_facts") rfl)) fun _ _ _ _ _ _ us hl => match us, hl with | [_, _, _], _ => rfl
theorem at__law_text {P : Program} {w : World} {K : PySem.W.Frag} {h base : Heap} {mg : Str → Option Value} (X : K.In h) (G : h.Ns mainGlobals mg) (c : He.SaysD fa fn K) : At ⟨P, w, K, mg, base⟩ "_law_text" ["_law_term_here"] s__law_text := by
  obtain ⟨fd, F⟩ := c.def_ 16 (d := d__law_text) rfl
  exact At.of_fun (f := He.ga K "_law_text") F (He.glo_ok X G (c.fact 11 (f := .glo "_law_text") rfl)) fun _ _ _ _ _ _ us hl => match us, hl with | [_], _ => rfl
theorem at__law_taken {P : Program} {w : World} {K : PySem.W.Frag} {h base : Heap} {mg : Str → Option Value} (X : K.In h) (G : h.Ns mainGlobals mg) (c : He.SaysD fa fn K) : At ⟨P, w, K, mg, base⟩ "_law_taken" ["_law_text_here"] s__law_taken := by
  obtain ⟨fd, F⟩ := c.def_ 17 (d := d__law_taken) rfl
  exact At.of_fun (f := He.ga K "_law_taken") F (He.glo_ok X G (c.fact 12 (f := .glo "_law_taken") rfl)) fun _ _ _ _ _ _ us hl => match us, hl with | [_], _ => rfl
theorem at__law_due {P : Program} {w : World} {K : PySem.W.Frag} {h base : Heap} {mg : Str → Option Value} (X : K.In h) (G : h.Ns mainGlobals mg) (c : He.SaysD fa fn K) : At ⟨P, w, K, mg, base⟩ "_law_due" ["_law_text_here"] s__law_due := by
  obtain ⟨fd, F⟩ := c.def_ 18 (d := d__law_due) rfl
  exact At.of_fun (f := He.ga K "_law_due") F (He.glo_ok X G (c.fact 13 (f := .glo "_law_due") rfl)) fun _ _ _ _ _ _ us hl => match us, hl with | [_], _ => rfl
theorem at__law_is_read {P : Program} {w : World} {K : PySem.W.Frag} {h base : Heap} {mg : Str → Option Value} (X : K.In h) (G : h.Ns mainGlobals mg) (c : He.SaysD fa fn K) : At ⟨P, w, K, mg, base⟩ "_law_is_read" ["_law_text_here"] s__law_is_read := by
  obtain ⟨fd, F⟩ := c.def_ 19 (d := d__law_is_read) rfl
  exact At.of_fun (f := He.ga K "_law_is_read") F (He.glo_ok X G (c.fact 14 (f := .glo "_law_is_read") rfl)) fun _ _ _ _ _ _ us hl => match us, hl with | [_], _ => rfl
theorem at_law {P : Program} {w : World} {K : PySem.W.Frag} {h base : Heap} {mg : Str → Option Value} (X : K.In h) (G : h.Ns mainGlobals mg) (c : He.SaysD fa fn K) : At ⟨P, w, K, mg, base⟩ "law" ["_law_script"] s_law := by
  obtain ⟨fd, F⟩ := c.def_ 20 (d := d_law) rfl
  exact At.of_fun (f := He.ga K "law") F (He.glo_ok X G (c.fact 15 (f := .glo "law") rfl)) fun _ _ _ _ _ _ us hl => match us, hl with | [_], _ => rfl
theorem g_BoardError_of {P : Program} {w : World} {K : PySem.W.Frag} {h base : Heap} {mg : Str → Option Value} (X : K.In h) (G : h.Ns mainGlobals mg) (c : He.SaysD fa fn K) : Glo ⟨P, w, K, mg, base⟩ "BoardError" (He.ga K "BoardError") := ⟨He.glo_ok X G (c.fact 35 (f := .glo "BoardError") rfl)⟩
theorem k_BoardError_of {P : Program} {w : World} {K : PySem.W.Frag} {h base : Heap} {mg : Str → Option Value} (X : K.In h) (G : h.Ns mainGlobals mg) (c : He.SaysD fa fn K) : ExK ⟨P, w, K, mg, base⟩ "BoardError" (He.ga K "BoardError") := by
  obtain ⟨h1, h2, h3, h4⟩ := He.exc_ok (c.fact 36 (f := .exc "BoardError") rfl)
  exact ⟨He.glo_ok X G (c.fact 35 (f := .glo "BoardError") rfl), h1, h2, h3, h4⟩
theorem g_NoTerm_of {P : Program} {w : World} {K : PySem.W.Frag} {h base : Heap} {mg : Str → Option Value} (X : K.In h) (G : h.Ns mainGlobals mg) (c : He.SaysD fa fn K) : Glo ⟨P, w, K, mg, base⟩ "NoTerm" (He.ga K "NoTerm") := ⟨He.glo_ok X G (c.fact 37 (f := .glo "NoTerm") rfl)⟩
theorem k_NoTerm_of {P : Program} {w : World} {K : PySem.W.Frag} {h base : Heap} {mg : Str → Option Value} (X : K.In h) (G : h.Ns mainGlobals mg) (c : He.SaysD fa fn K) : ExK ⟨P, w, K, mg, base⟩ "NoTerm" (He.ga K "NoTerm") := by
  obtain ⟨h1, h2, h3, h4⟩ := He.exc_ok (c.fact 38 (f := .exc "NoTerm") rfl)
  exact ⟨He.glo_ok X G (c.fact 37 (f := .glo "NoTerm") rfl), h1, h2, h3, h4⟩
theorem g_NoFact_of {P : Program} {w : World} {K : PySem.W.Frag} {h base : Heap} {mg : Str → Option Value} (X : K.In h) (G : h.Ns mainGlobals mg) (c : He.SaysD fa fn K) : Glo ⟨P, w, K, mg, base⟩ "NoFact" (He.ga K "NoFact") := ⟨He.glo_ok X G (c.fact 39 (f := .glo "NoFact") rfl)⟩
theorem k_NoFact_of {P : Program} {w : World} {K : PySem.W.Frag} {h base : Heap} {mg : Str → Option Value} (X : K.In h) (G : h.Ns mainGlobals mg) (c : He.SaysD fa fn K) : ExK ⟨P, w, K, mg, base⟩ "NoFact" (He.ga K "NoFact") := by
  obtain ⟨h1, h2, h3, h4⟩ := He.exc_ok (c.fact 40 (f := .exc "NoFact") rfl)
  exact ⟨He.glo_ok X G (c.fact 39 (f := .glo "NoFact") rfl), h1, h2, h3, h4⟩
theorem g_BadText_of {P : Program} {w : World} {K : PySem.W.Frag} {h base : Heap} {mg : Str → Option Value} (X : K.In h) (G : h.Ns mainGlobals mg) (c : He.SaysD fa fn K) : Glo ⟨P, w, K, mg, base⟩ "BadText" (He.ga K "BadText") := ⟨He.glo_ok X G (c.fact 41 (f := .glo "BadText") rfl)⟩
theorem k_BadText_of {P : Program} {w : World} {K : PySem.W.Frag} {h base : Heap} {mg : Str → Option Value} (X : K.In h) (G : h.Ns mainGlobals mg) (c : He.SaysD fa fn K) : ExK ⟨P, w, K, mg, base⟩ "BadText" (He.ga K "BadText") := by
  obtain ⟨h1, h2, h3, h4⟩ := He.exc_ok (c.fact 42 (f := .exc "BadText") rfl)
  exact ⟨He.glo_ok X G (c.fact 41 (f := .glo "BadText") rfl), h1, h2, h3, h4⟩
theorem g_Full_of {P : Program} {w : World} {K : PySem.W.Frag} {h base : Heap} {mg : Str → Option Value} (X : K.In h) (G : h.Ns mainGlobals mg) (c : He.SaysD fa fn K) : Glo ⟨P, w, K, mg, base⟩ "Full" (He.ga K "Full") := ⟨He.glo_ok X G (c.fact 43 (f := .glo "Full") rfl)⟩
theorem k_Full_of {P : Program} {w : World} {K : PySem.W.Frag} {h base : Heap} {mg : Str → Option Value} (X : K.In h) (G : h.Ns mainGlobals mg) (c : He.SaysD fa fn K) : ExK ⟨P, w, K, mg, base⟩ "Full" (He.ga K "Full") := by
  obtain ⟨h1, h2, h3, h4⟩ := He.exc_ok (c.fact 44 (f := .exc "Full") rfl)
  exact ⟨He.glo_ok X G (c.fact 43 (f := .glo "Full") rfl), h1, h2, h3, h4⟩
theorem g_NoMark_of {P : Program} {w : World} {K : PySem.W.Frag} {h base : Heap} {mg : Str → Option Value} (X : K.In h) (G : h.Ns mainGlobals mg) (c : He.SaysD fa fn K) : Glo ⟨P, w, K, mg, base⟩ "NoMark" (He.ga K "NoMark") := ⟨He.glo_ok X G (c.fact 45 (f := .glo "NoMark") rfl)⟩
theorem k_NoMark_of {P : Program} {w : World} {K : PySem.W.Frag} {h base : Heap} {mg : Str → Option Value} (X : K.In h) (G : h.Ns mainGlobals mg) (c : He.SaysD fa fn K) : ExK ⟨P, w, K, mg, base⟩ "NoMark" (He.ga K "NoMark") := by
  obtain ⟨h1, h2, h3, h4⟩ := He.exc_ok (c.fact 46 (f := .exc "NoMark") rfl)
  exact ⟨He.glo_ok X G (c.fact 45 (f := .glo "NoMark") rfl), h1, h2, h3, h4⟩
theorem g_Clash_of {P : Program} {w : World} {K : PySem.W.Frag} {h base : Heap} {mg : Str → Option Value} (X : K.In h) (G : h.Ns mainGlobals mg) (c : He.SaysD fa fn K) : Glo ⟨P, w, K, mg, base⟩ "Clash" (He.ga K "Clash") := ⟨He.glo_ok X G (c.fact 47 (f := .glo "Clash") rfl)⟩
theorem c_Reader_of {P : Program} {w : World} {K : PySem.W.Frag} {h base : Heap} {mg : Str → Option Value} (X : K.In h) (G : h.Ns mainGlobals mg) (c : He.SaysD fa fn K) : RdC ⟨P, w, K, mg, base⟩ (He.ga K "Reader") := ⟨He.glo_ok X G (c.fact 48 (f := .glo "Reader") rfl), He.cls_ok (c.fact 49 (f := .cls "Reader") rfl), He.noat_ok (c.fact 51 (f := .noat "Reader" "text") rfl), He.noat_ok (c.fact 52 (f := .noat "Reader" "at") rfl)⟩
theorem k_LETTERS_of {P : Program} {w : World} {K : PySem.W.Frag} {h base : Heap} {mg : Str → Option Value} (X : K.In h) (G : h.Ns mainGlobals mg) (c : He.SaysD fa fn K) : Cst ⟨P, w, K, mg, base⟩ "LETTERS" (.str "abcdefghijklmnopqrstuvwxyz") := by
  obtain ⟨t, h⟩ := He.str_ok X G (c.fact 56 (f := .str "LETTERS" "abcdefghijklmnopqrstuvwxyz") rfl)
  exact ⟨_, h, ⟨t, rfl⟩⟩
theorem k_MOST_LETTERS_of {P : Program} {w : World} {K : PySem.W.Frag} {h base : Heap} {mg : Str → Option Value} (X : K.In h) (G : h.Ns mainGlobals mg) (c : He.SaysD fa fn K) : Cst ⟨P, w, K, mg, base⟩ "MOST_LETTERS" (.int 6) := by
  obtain ⟨t, h⟩ := He.int_ok X G (c.fact 57 (f := .int "MOST_LETTERS" 6) rfl)
  exact ⟨_, h, ⟨t, rfl⟩⟩
theorem k_MOST_PARTS_of {P : Program} {w : World} {K : PySem.W.Frag} {h base : Heap} {mg : Str → Option Value} (X : K.In h) (G : h.Ns mainGlobals mg) (c : He.SaysD fa fn K) : Cst ⟨P, w, K, mg, base⟩ "MOST_PARTS" (.int 3) := by
  obtain ⟨t, h⟩ := He.int_ok X G (c.fact 58 (f := .int "MOST_PARTS" 3) rfl)
  exact ⟨_, h, ⟨t, rfl⟩⟩
theorem k_MOST_NAMES_of {P : Program} {w : World} {K : PySem.W.Frag} {h base : Heap} {mg : Str → Option Value} (X : K.In h) (G : h.Ns mainGlobals mg) (c : He.SaysD fa fn K) : Cst ⟨P, w, K, mg, base⟩ "MOST_NAMES" (.int 40) := by
  obtain ⟨t, h⟩ := He.int_ok X G (c.fact 59 (f := .int "MOST_NAMES" 40) rfl)
  exact ⟨_, h, ⟨t, rfl⟩⟩
theorem x_BadText_of {P : Program} {w : World} {K : PySem.W.Frag} {h base : Heap} {mg : Str → Option Value} (X : K.In h) (G : h.Ns mainGlobals mg) (c : SaysY fa fn tabs exB w K) : ExcK ⟨P, w, K, mg, base⟩ (He.ga K "BadText") (kts [(He.ga K "NoTerm", false), (He.ga K "NoFact", false), (He.ga K "Full", false), (He.ga K "NoMark", false), (He.ga K "Clash", false), (He.ga K "BadText", true)]) :=
  excK_of (ex_at c.more 0 rfl) (ex_at c.more 1 rfl) (List.all_eq_true.mp (ex_at c.more 2 rfl))
theorem t_BadText_of {P : Program} {w : World} {K : PySem.W.Frag} {h base : Heap} {mg : Str → Option Value} (X : K.In h) (G : h.Ns mainGlobals mg) (c : SaysY fa fn tabs exB w K) : Takes1 ⟨P, w, K, mg, base⟩ (He.ga K "BadText") (He.ga K "BoardError") := of_decide_eq_true (p := PySem.W.exmOne K (.ref (He.ga K "BadText")) (.ref (He.ga K "BoardError")) = some true) (ex_at c.more 3 rfl)
theorem k_SIGNS_of {P : Program} {w : World} {K : PySem.W.Frag} {h base : Heap} {mg : Str → Option Value} (X : K.In h) (G : h.Ns mainGlobals mg) (c : SaysY fa fn tabs exB w K) : TabAt ⟨P, w, K, mg, base⟩ "SIGNS" (He.ga K "SIGNS") [("alike", .str "="), ("unlike", .str "!="), ("most", .str "<="), ("over", .str ">")] :=
  tab_of (kvs := [("alike", .str "="), ("unlike", .str "!="), ("most", .str "<="), ("over", .str ">")]) X G c.t 0 rfl (c.t.d.fact 60 (f := .glo "SIGNS") rfl) (ex_at c.more 4 rfl)
abbrev lawLevel : Nat := 96
theorem law_has {P : Program} {w : World} {K : PySem.W.Frag} {h base : Heap} {mg : Str → Option Value} (X : K.In h) (G : h.Ns mainGlobals mg) (cx : SaysY fa fn tabs exB w K) : Has ⟨P, w, K, mg, base⟩ 96 "law" ["_law_script"] (spLaw K) := by
  have c := cx.t.d
  have B : Bl ⟨P, w, K, mg, base⟩ := bl_of (P := P) (w := w) (base := base) X G c
  have h1 := ok_cell B (at__law_cell X G c)
  have h2 := ok_dice B (at__law_dice X G c) h1
  have h3 := ok_off B (at__law_off X G c) h1
  have h4 := ok_works B (at__law_works X G c) h3
  have h5 := ok_term B (at__law_term X G c) h3 4
  have c_Reader := c_Reader_of (P := P) (w := w) (base := base) X G c
  have k1 := k_LETTERS_of (P := P) (w := w) (base := base) X G c
  have k2 := k_MOST_LETTERS_of (P := P) (w := w) (base := base) X G c
  have k3 := k_MOST_PARTS_of (P := P) (w := w) (base := base) X G c
  have k4 := k_MOST_NAMES_of (P := P) (w := w) (base := base) X G c
  have kb := k_BadText_of (P := P) (w := w) (base := base) X G c
  have hn := ok_is_name B (at_is_name X G c) k1 k2
  have hm := ok_names_in B (at_names_in X G c) 45
  have h_sign := ok_sign B (at_Reader_sign X G c) c_Reader
  have hrt := ok_rterm B (at_Reader_term X G c) (at_Reader_parts X G c) c_Reader hn k1 k3 kb h_sign 45
  have hrd := ok_read B (at_read X G c) c_Reader (ok_rinit B (at_Reader___init__ X G c) c_Reader) k4 k2 kb h_sign 45 hrt hm
  have ks := k_SIGNS_of (P := P) (w := w) (base := base) X G cx
  have hrf := ok_readf B (at_read_fact X G c) 45 hrd ks kb
  have hfact := ok_fact B (at__law_fact X G c) 3 h3 (ok_term B (at__law_term X G c) h3 3)
  have hir := ok_isread B (at__law_is_read X G c) (g_BoardError_of (P := P) (w := w) (base := base) X G c) (g_NoTerm_of (P := P) (w := w) (base := base) X G c) (g_NoFact_of (P := P) (w := w) (base := base) X G c) (g_Full_of (P := P) (w := w) (base := base) X G c) (g_NoMark_of (P := P) (w := w) (base := base) X G c) (g_Clash_of (P := P) (w := w) (base := base) X G c) (g_BadText_of (P := P) (w := w) (base := base) X G c) (t_BadText_of (P := P) (w := w) (base := base) X G cx) (x_BadText_of (P := P) (w := w) (base := base) X G cx) 45 (by decide) (ok_due B (at__law_due X G c) 45 (ok_taken B (at__law_taken X G c) 45)) hrf
  exact ok_law B (at_law X G c) h2 h3 h4 hfact (ok__law_text B (at__law_text X G c) 41) hir

theorem law_end {P : Program} {w : World} {K : PySem.W.Frag} {h : Heap} {mg : Str → Option Value} {f : Addr} (X : K.In h) (G : h.Ns mainGlobals mg) (hfa : mg ("law" : Str) = some (.ref f)) (c : SaysY fa fn tabs exB w K) :
    ∃ (K : PySem.W.Frag) (fd : FuncData) (sp : Sp), K.In h ∧ (∀ (s : Shared) (u : Value), BindsTo s fd ⟨[u], []⟩ [("_law_script", u)]) ∧
      (∀ (H : Hp) (a : Addr) (ns : List Int), ns.length ≤ 63 → Only H → SqL K H a (ns.map V.int) → sp [.ref a] H (fun v _ => v = .bl true) fun _ _ _ => False) ∧
      ∀ base : Heap, K.In base → base.Ns mainGlobals mg → FnOk P w K mg base CX0 lawLevel f fd ["_law_script"] sp := by
  obtain ⟨fd, F⟩ := c.t.d.defs (d := d_law) (by simp [fn])
  have b := FunD.bindsA (ps := ["_law_script"]) F fun _ _ _ _ _ _ us hl => match us, hl with | [_], _ => rfl
  obtain ⟨oc, od, osl, lk⟩ := FunD.lk F
  refine ⟨K, fd, spLaw K, X, fun s v => b s [v] rfl, fun H a ns hl hO hS => ⟨a, ns, rfl, ?_, hl, fun _ => rfl⟩, fun base _ _ => ?_⟩
  · rcases hS with (hS | ⟨o, hS⟩) | hS
    · rcases hO a with z | ⟨o, xs, z⟩
      · rw [z] at hS; cases hS
      · rw [z] at hS; cases hS
    · exact .inl ⟨o, hS⟩
    · exact .inr fun H' => .inr hS
  · obtain ⟨f', fd', hF, m, _, _, oc', od', osl', lk'⟩ := law_has (P := P) (w := w) (base := base) X G c
    have e1 : f' = f := by
      have := m.symm.trans hfa
      injection this with this
      injection this
    subst e1
    have e2 : He.fAd K d_law.at_ = f' := by
      obtain ⟨i, hi, ei⟩ := List.mem_iff_getElem.mp (show He.Fa.glo "law" ∈ fa by simp [fa])
      have := He.glo_ok X G (c.t.d.facts (show He.Fa.glo "law" ∈ fa by simp [fa]))
      have := this.symm.trans hfa
      injection this with this
      injection this
    rw [e2] at lk
    rw [lk] at lk'
    have e3 : fd = fd' := by
      injection lk' with lk'
      injection lk' with _ _ lk' _
      injection lk'
    rw [e3]
    exact FnOk.cx0 hF fun vs H Q E h => h
/-! ### the head -/
abbrev RR : PySem.W.OpenRow := PySem.W.OpenLaw.row PySem.Challenge.rw_alikeboard_k06_facts_read_or_refused
abbrev hk : PySem.W.Hook := AB.hookY 6 fa fn tabs exB
def ob (s : PySem.W.SharedT) : AB.AlY := AB.obsY 6 fa fn tabs exB (HandSHeadRun.getT s)
theorem ob_eq (s : PySem.W.SharedT) : ob s = hk.obs s.abs := AB.obsY_eq (HandSHeadRun.getT_eq s)
abbrev loose : List PySem.Str := ["BoardError", "NoTerm", "NoFact", "BadText", "Full", "NoMark", "Clash", "LETTERS", "MOST_LETTERS", "MOST_PARTS", "MOST_NAMES", "is_name", "names_in", "Reader", "read", "SIGNS", "read_fact", "_law_cell", "_law_dice", "_law_off", "_law_works", "_law_term", "_law_fact", "_law_facts", "_law_text", "_law_taken", "_law_due", "_law_is_read"]
set_option maxHeartbeats 0 in
theorem run0 (w : World) : HandSHeadRun.RunEq RR (PySem.W.view RR.prog [32]) hk ob 4000 loose (w.withFollow "special-get-raises" false) := by
  intro os
  kernel_rfl
set_option maxHeartbeats 0 in
theorem run1 (w : World) : HandSHeadRun.RunEq RR (PySem.W.view RR.prog [32]) hk ob 4000 loose (w.withFollow "special-get-raises" true) := by
  intro os
  kernel_rfl
theorem run (w : World) : HandSHeadRun.RunEq RR (PySem.W.view RR.prog [32]) hk ob 4000 loose w := PySem.W.byRow2 "special-get-raises" (P := fun w => HandSHeadRun.RunEq RR (PySem.W.view RR.prog [32]) hk ob 4000 loose w) run0 run1 w
end AB
open PySem PySem.W PySem.Calls PyProof.Rows
set_option maxHeartbeats 0 in
theorem PySem.Challenge.cw_alikeboard_k06_facts_read_or_refused_holds : PySem.Challenge.rw_alikeboard_k06_facts_read_or_refused.Holds := by
  w_on; o_law
  refine HandSHeadRun.head_any (r := OpenLaw.row PySem.Challenge.rw_alikeboard_k06_facts_read_or_refused) (q := view (OpenLaw.row PySem.Challenge.rw_alikeboard_k06_facts_read_or_refused).prog [32]) (H := AB.hk) (ob := AB.ob) (M := 4000) (loose := AB.loose) (d := HandSHeadRun.topDef (OpenLaw.row PySem.Challenge.rw_alikeboard_k06_facts_read_or_refused).prog 32) (kwd := []) AB.ob_eq
    (by kernel_rfl) (fun s => by kernel_rfl) AB.run (by kernel_rfl) (by kernel_rfl) (by kernel_rfl) (by rfl) (by first | assumption | decide +kernel) (by decide +kernel) ⟨rfl, rfl, rfl, rfl, rfl, by decide +kernel⟩ ?hw ?hc
  case hw => w_witness2
  case hc =>
    refine L2.walk_ofE (l := PySem.Challenge.rw_alikeboard_k06_facts_read_or_refused) (n := 63) (k := AB.lawLevel) (x := "_law_script") (CX := L2.CX0) rfl (by decide) (by kernel_rfl) ⟨rfl, by decide, by decide⟩ ?F (fun _ _ _ _ z => z)
    intro w mg fa h Y G hmg0
    obtain ⟨K, KX, c⟩ := Y
    have hmg : mg ("law" : PySem.Str) = some (.ref fa) := by
      have e : (HandSHeadRun.topDef (OpenLaw.row PySem.Challenge.rw_alikeboard_k06_facts_read_or_refused).prog 32).name = ("law" : PySem.Str) := by kernel_rfl
      rw [← e]
      exact hmg0
    exact AB.law_end KX G hmg c

#print axioms PySem.Challenge.cw_alikeboard_k06_facts_read_or_refused_holds

