import PyProof.Rows.All
import Wide.All
import OpenK.AllK
import Wide.FinOn
import HandS.Base
import HandS.Call
import HandS.List
import HandS.Comp
import HandS.Words
import HandS.WordsList
import HandS.Deep
import HandS.IsInst
import HandS.TupAny
import HandS.Text
import HandS.Defaults
import HandS.Iter
import HandS.Flow
import PyProof.StrBlock2
import HandS.More
import HandS.Exc
import HandS.Head0
import HandS.Head1
import HandS.Head2
import HandS.HeadEnd
import HandS.HeadHook1
import HandS.HeadHook2
import HandS.HeadHook3
import HandS.HeadHook4
import PySem.Challenge.RW_alikeboard_k01_parts_of_a_term
set_option Elab.async false
set_option linter.all false
set_option maxRecDepth 100000
namespace AB
open PySem PySem.Spec PyProof.Rows L2

/-! ### immutable data: ints, texts, tuples of such -/
inductive Da where
  | int (i : Int)
  | str (s : Str)
  | tup (l : List Da)

mutual
def Da.py : Da → PyData
  | .int i => .int i
  | .str s => .str s
  | .tup l => .tuple (Da.pys l)
def Da.pys : List Da → List PyData
  | [] => []
  | d :: r => Da.py d :: Da.pys r
end
mutual
def Da.depth : Da → Nat
  | .int _ => 0
  | .str _ => 0
  | .tup l => Da.depths l + 1
def Da.depths : List Da → Nat
  | [] => 0
  | d :: r => max (Da.depth d) (Da.depths r)
end
/-- the texts in it are texts of the model -/
def okS (s : Str) : Bool := s.cps.all (· < 0x110000)
mutual
def Da.ok : Da → Bool
  | .int _ => true
  | .str s => okS s
  | .tup l => Da.oks l
def Da.oks : List Da → Bool
  | [] => true
  | d :: r => Da.ok d && Da.oks r
end
mutual
theorem Da.eqv_iff : ∀ a b : Da, PyData.eqv a.py b.py = true ↔ a = b
  | .int a, .int b => by simp [Da.py, PyData.eqv]
  | .str a, .str b => by simp [Da.py, PyData.eqv]
  | .tup a, .tup b => by
    have h := Da.eqvs_iff a b
    simp only [Da.py, PyData.eqv, h, Da.tup.injEq]
  | .int _, .str _ => by simp [Da.py, PyData.eqv]
  | .int _, .tup _ => by simp [Da.py, PyData.eqv]
  | .str _, .int _ => by simp [Da.py, PyData.eqv]
  | .str _, .tup _ => by simp [Da.py, PyData.eqv]
  | .tup _, .int _ => by simp [Da.py, PyData.eqv]
  | .tup _, .str _ => by simp [Da.py, PyData.eqv]
theorem Da.eqvs_iff : ∀ a b : List Da, PyData.eqvAll (Da.pys a) (Da.pys b) = true ↔ a = b
  | [], [] => by simp [Da.pys, PyData.eqvAll]
  | [], _ :: _ => by simp [Da.pys, PyData.eqvAll]
  | _ :: _, [] => by simp [Da.pys, PyData.eqvAll]
  | a :: as, b :: bs => by
    have h1 := Da.eqv_iff a b
    have h2 := Da.eqvs_iff as bs
    simp only [Da.pys, PyData.eqvAll, Bool.and_eq_true, h1, h2, List.cons.injEq]
end
instance : DecidableEq Da := fun a b => if h : PyData.eqv a.py b.py = true then .isTrue ((Da.eqv_iff a b).mp h) else .isFalse fun e => h ((Da.eqv_iff a b).mpr e)
theorem Da.eqv_dec (a b : Da) : PyData.eqv a.py b.py = decide (a = b) := by
  by_cases h : a = b
  · rw [decide_eq_true h]; exact (Da.eqv_iff a b).mpr h
  · rw [decide_eq_false h]
    cases e : PyData.eqv a.py b.py with
    | false => rfl
    | true => exact absurd ((Da.eqv_iff a b).mp e) h
mutual
theorem Da.py_depth : ∀ a : Da, a.py.depth = a.depth
  | .int _ => by simp [Da.py, PyData.depth, Da.depth]
  | .str _ => by simp [Da.py, PyData.depth, Da.depth]
  | .tup l => by
    have h := Da.pys_depth l
    simp [Da.py, PyData.depth, Da.depth, h]
theorem Da.pys_depth : ∀ l : List Da, PyData.depthAll (Da.pys l) = Da.depths l
  | [] => by simp [Da.pys, PyData.depthAll, Da.depths]
  | d :: r => by simp [Da.pys, PyData.depthAll, Da.depths, Da.py_depth d, Da.pys_depth r]
end
mutual
theorem Da.py_lay : ∀ a : Da, a.py.canLay0 = a.ok
  | .int _ => by simp [Da.py, PyData.canLay0, Da.ok]
  | .str _ => by simp [Da.py, PyData.canLay0, Da.ok, okS, PyData.strOk]
  | .tup l => by
    have h := Da.pys_lay l
    simp [Da.py, PyData.canLay0, Da.ok, h]
theorem Da.pys_lay : ∀ l : List Da, PyData.canLayAll0 (Da.pys l) = Da.oks l
  | [] => by simp [Da.pys, PyData.canLayAll0, Da.oks]
  | d :: r => by simp [Da.pys, PyData.canLayAll0, Da.oks, Da.py_lay d, Da.pys_lay r]
end
theorem Da.shaped {a : Da} (h : a.ok = true) (h2 : a.depth ≤ 64) : SeqAt.shaped a.py = true := by
  unfold SeqAt.shaped
  rw [Da.py_lay, Da.py_depth, h, decide_eq_true h2]; rfl
theorem Da.oks_mem : ∀ {l : List Da} {d : Da}, Da.oks l = true → d ∈ l → d.ok = true
  | [], _, _, h => by cases h
  | x :: r, d, h, hm => by
    simp only [Da.oks, Bool.and_eq_true] at h
    rcases List.mem_cons.mp hm with rfl | hm
    · exact h.1
    · exact Da.oks_mem h.2 hm
theorem Da.oks_of : ∀ {l : List Da}, (∀ d ∈ l, d.ok = true) → Da.oks l = true
  | [], _ => rfl
  | x :: r, h => by
    simp only [Da.oks, Bool.and_eq_true]
    exact ⟨h x (by simp), Da.oks_of fun d hd => h d (by simp [hd])⟩
theorem Da.depths_le : ∀ {l : List Da} {n : Nat}, Da.depths l ≤ n ↔ ∀ d ∈ l, d.depth ≤ n
  | [], n => by simp [Da.depths]
  | x :: r, n => by
    have h := Da.depths_le (l := r) (n := n)
    simp only [Da.depths, List.mem_cons, forall_eq_or_imp, ← h]
    omega

/-! ### where such data stands -/
mutual
def DaAt (H : Hp) : V → Da → Prop
  | v, .int i => v = .int i
  | v, .str s => v = .str s
  | v, .tup l => ∃ a vs, v = .ref a ∧ H a = some (.tup vs) ∧ DasAt H vs l
def DasAt (H : Hp) : List V → List Da → Prop
  | vs, [] => vs = []
  | vs, d :: ds => ∃ v r, vs = v :: r ∧ DaAt H v d ∧ DasAt H r ds
end
/-- what never changes: tuples, what is locked -/
def Im : HO → Prop
  | .tup _ => True
  | .frz _ _ => True
  | _ => False
/-- the unchanging stands -/
def TX (H H' : Hp) : Prop := ∀ a o, Im o → H a = some o → H' a = some o
theorem TX.tup {H H' : Hp} (t : TX H H') {a : Addr} {xs : List V} (h : H a = some (.tup xs)) : H' a = some (.tup xs) := t a _ trivial h
theorem TX.frz {H H' : Hp} (t : TX H H') {a : Addr} {o : Obj} {u : HO} (h : H a = some (.frz o u)) : H' a = some (.frz o u) := t a _ trivial h
theorem TX.refl (H : Hp) : TX H H := fun _ _ _ h => h
theorem TX.trans {H H1 H2 : Hp} (a : TX H H1) (b : TX H1 H2) : TX H H2 := fun p o i h => b p o i (a p o i h)
theorem TX.of_same {H H' : Hp} (s : Same H H') : TX H H' := fun a _ _ h => s a _ h
theorem TX.new {H : Hp} {p : Addr} {o : HO} (h : H p = none) : TX H (upd H p o) := fun a u _ e => by
  rw [upd_ne (ne_of_none e h)]; exact e
theorem TX.put {H : Hp} {p : Addr} {o u : HO} (h : H p = some u) (hu : ¬ Im u) : TX H (upd H p o) := fun a w i e => by
  rw [upd_ne (ne_of e h (fun z => hu (z ▸ i)))]; exact e
theorem TX.lst {H : Hp} {p : Addr} {o : HO} {xs : List V} (h : H p = some (.lst xs)) : TX H (upd H p o) := TX.put h (fun z => z)
theorem same_new {H : Hp} {p : Addr} (h : H p = none) (o : HO) : Same H (upd H p o) := fun b u q => by rw [upd_ne (ne_of_none q h)]; exact q
/-- what was not tracked ahead may be written -/
theorem same_put {H H' : Hp} {p : Addr} (s : Same H H') (h : H p = none) (o : HO) : Same H (upd H' p o) := fun b u q => by rw [upd_ne (ne_of_none q h)]; exact s b u q
theorem same_nw {H H' : Hp} {p : Addr} (s : Same H H') (h : H' p = none) (o : HO) : Same H (upd H' p o) := s.trans (same_new h o)
mutual
theorem DaAt.mono {H H' : Hp} (t : TX H H') : ∀ {d : Da} {v : V}, DaAt H v d → DaAt H' v d
  | .int _, _, h => by simp only [DaAt] at h ⊢; exact h
  | .str _, _, h => by simp only [DaAt] at h ⊢; exact h
  | .tup l, v, h => by
    simp only [DaAt] at h ⊢
    obtain ⟨a, vs, e, h1, h2⟩ := h
    exact ⟨a, vs, e, t.tup h1, DasAt.mono t h2⟩
theorem DasAt.mono {H H' : Hp} (t : TX H H') : ∀ {ds : List Da} {vs : List V}, DasAt H vs ds → DasAt H' vs ds
  | [], _, h => by simp only [DasAt] at h ⊢; exact h
  | d :: ds, vs, h => by
    simp only [DasAt] at h ⊢
    obtain ⟨v, r, e, h1, h2⟩ := h
    exact ⟨v, r, e, DaAt.mono t h1, DasAt.mono t h2⟩
end
theorem DaAt.int {H : Hp} {i : Int} : DaAt H (.int i) (.int i) := by simp only [DaAt]
theorem DaAt.str {H : Hp} {s : Str} : DaAt H (.str s) (.str s) := by simp only [DaAt]
theorem DaAt.tup {H : Hp} {a : Addr} {vs : List V} {l : List Da} (h : H a = some (.tup vs)) (r : DasAt H vs l) : DaAt H (.ref a) (.tup l) := by
  simp only [DaAt]; exact ⟨a, vs, rfl, h, r⟩
theorem DaAt.tup_inv {H : Hp} {v : V} {l : List Da} (h : DaAt H v (.tup l)) : ∃ a vs, v = .ref a ∧ H a = some (.tup vs) ∧ DasAt H vs l := by simpa only [DaAt] using h
theorem DaAt.int_inv {H : Hp} {v : V} {i : Int} (h : DaAt H v (.int i)) : v = .int i := by simpa only [DaAt] using h
theorem DaAt.str_inv {H : Hp} {v : V} {s : Str} (h : DaAt H v (.str s)) : v = .str s := by simpa only [DaAt] using h
theorem DasAt.nil {H : Hp} : DasAt H [] [] := by simp only [DasAt]
theorem DasAt.cons {H : Hp} {v : V} {vs : List V} {d : Da} {ds : List Da} (h : DaAt H v d) (r : DasAt H vs ds) : DasAt H (v :: vs) (d :: ds) := by
  simp only [DasAt]; exact ⟨v, vs, rfl, h, r⟩
theorem DasAt.one {H : Hp} {v : V} {d : Da} (h : DaAt H v d) : DasAt H [v] [d] := .cons h .nil
theorem DasAt.nil_inv {H : Hp} {vs : List V} (h : DasAt H vs []) : vs = [] := by simpa only [DasAt] using h
theorem DasAt.cons_inv {H : Hp} {vs : List V} {d : Da} {ds : List Da} (h : DasAt H vs (d :: ds)) : ∃ v r, vs = v :: r ∧ DaAt H v d ∧ DasAt H r ds := by simpa only [DasAt] using h
theorem DasAt.length {H : Hp} : ∀ {ds : List Da} {vs : List V}, DasAt H vs ds → vs.length = ds.length
  | [], _, h => by rw [h.nil_inv]; rfl
  | d :: ds, _, h => by
    obtain ⟨v, r, rfl, _, h2⟩ := h.cons_inv
    simp [DasAt.length h2]
theorem DasAt.append {H : Hp} : ∀ {ds es : List Da} {vs ws : List V}, DasAt H vs ds → DasAt H ws es → DasAt H (vs ++ ws) (ds ++ es)
  | [], _, _, _, h, h2 => by rw [h.nil_inv]; exact h2
  | d :: ds, es, _, ws, h, h2 => by
    obtain ⟨v, r, rfl, h1, h3⟩ := h.cons_inv
    exact .cons h1 (DasAt.append h3 h2)
theorem DasAt.get {H : Hp} : ∀ {ds : List Da} {vs : List V} {i : Nat} {d : Da}, DasAt H vs ds → ds[i]? = some d → ∃ v, vs[i]? = some v ∧ DaAt H v d
  | [], _, _, _, _, e => by simp at e
  | d :: ds, _, 0, _, h, e => by
    obtain ⟨v, r, rfl, h1, h2⟩ := h.cons_inv
    simp at e; subst e
    exact ⟨v, rfl, h1⟩
  | d :: ds, _, i + 1, x, h, e => by
    obtain ⟨v, r, rfl, h1, h2⟩ := h.cons_inv
    obtain ⟨u, h3, h4⟩ := DasAt.get (i := i) h2 (by simpa using e)
    exact ⟨u, by simpa using h3, h4⟩
theorem DasAt.at {H : Hp} {ds : List Da} {vs : List V} {i : Nat} {v : V} (h : DasAt H vs ds) (e : vs[i]? = some v) : ∃ d, ds[i]? = some d ∧ DaAt H v d := by
  have hl := h.length
  obtain ⟨hi, _⟩ := List.getElem?_eq_some_iff.mp e
  obtain ⟨u, h1, h2⟩ := h.get (i := i) (d := ds[i]'(by omega)) (List.getElem?_eq_getElem _)
  rw [e] at h1; cases h1
  exact ⟨_, List.getElem?_eq_getElem _, h2⟩
theorem DasAt.take {H : Hp} : ∀ {ds : List Da} {vs : List V} (n : Nat), DasAt H vs ds → DasAt H (vs.take n) (ds.take n)
  | _, _, 0, _ => by simpa using DasAt.nil
  | [], _, n + 1, h => by rw [h.nil_inv]; simpa using DasAt.nil
  | d :: ds, _, n + 1, h => by
    obtain ⟨v, r, rfl, h1, h2⟩ := h.cons_inv
    simpa using DasAt.cons h1 (DasAt.take n h2)
theorem DasAt.drop {H : Hp} : ∀ {ds : List Da} {vs : List V} (n : Nat), DasAt H vs ds → DasAt H (vs.drop n) (ds.drop n)
  | _, _, 0, h => by simpa using h
  | [], _, n + 1, h => by rw [h.nil_inv]; simpa using DasAt.nil
  | d :: ds, _, n + 1, h => by
    obtain ⟨v, r, rfl, h1, h2⟩ := h.cons_inv
    simpa using DasAt.drop n h2
mutual
theorem DaAt.dp {K : PySem.W.Frag} {H : Hp} : ∀ {d : Da} {v : V}, DaAt H v d → Dp K H v d.py
  | .int i, v, h => by rw [h.int_inv]; simp only [Da.py]; exact .int i
  | .str s, v, h => by rw [h.str_inv]; simp only [Da.py]; exact .str s
  | .tup l, v, h => by
    obtain ⟨a, vs, rfl, h1, h2⟩ := h.tup_inv
    simp only [Da.py]
    exact .tup (SqT.of h1) (DasAt.dps h2)
theorem DasAt.dps {K : PySem.W.Frag} {H : Hp} : ∀ {ds : List Da} {vs : List V}, DasAt H vs ds → DpAll K H vs (Da.pys ds)
  | [], _, h => by rw [h.nil_inv]; simp only [Da.pys]; exact .nil
  | d :: ds, _, h => by
    obtain ⟨v, r, rfl, h1, h2⟩ := h.cons_inv
    simp only [Da.pys]
    exact .cons (DaAt.dp h1) (DasAt.dps h2)
end
/-- a list of such data -/
def LD (H : Hp) (a : Addr) (ds : List Da) : Prop := ∃ vs, H a = some (.lst vs) ∧ DasAt H vs ds
theorem LD.sq {K : PySem.W.Frag} {H : Hp} {a : Addr} {ds : List Da} (h : LD H a ds) : ∃ vs, SqL K H a vs ∧ DasAt H vs ds := let ⟨vs, h1, h2⟩ := h; ⟨vs, SqL.of h1, h2⟩
theorem LD.mono {H H' : Hp} {a : Addr} {ds : List Da} (s : Same H H') (h : LD H a ds) : LD H' a ds := let ⟨vs, h1, h2⟩ := h; ⟨vs, s _ _ h1, h2.mono (TX.of_same s)⟩
theorem LD.dp {K : PySem.W.Frag} {H : Hp} {a : Addr} {ds : List Da} (h : LD H a ds) : Dp K H (.ref a) (.list (Da.pys ds)) := let ⟨_, h1, h2⟩ := h; .lst (SqL.of h1) h2.dps
theorem pys_shaped {ds : List Da} (h : Da.oks ds = true) (h2 : Da.depths ds ≤ 63) : SeqAt.shaped (.list (Da.pys ds)) = true := by
  unfold SeqAt.shaped
  simp only [PyData.canLay0, PyData.depth, Da.pys_lay, Da.pys_depth, h, Bool.true_and, decide_eq_true_eq]
  omega
theorem any_pys (d : Da) : ∀ ds : List Da, ((Da.pys ds).any fun z => PyData.eqv z d.py) = decide (d ∈ ds)
  | [] => by simp [Da.pys]
  | x :: r => by
    simp only [Da.pys, List.any_cons, any_pys d r, Da.eqv_dec]
    by_cases h : x = d
    · subst h; simp
    · have h' : ¬ d = x := fun e => h e.symm
      simp [h, h']
theorem pys_eqv (a b : List Da) : PyData.eqvAll (Da.pys a) (Da.pys b) = decide (a = b) := by
  by_cases h : a = b
  · rw [decide_eq_true h]; exact (Da.eqvs_iff a b).mpr h
  · rw [decide_eq_false h]
    cases e : PyData.eqvAll (Da.pys a) (Da.pys b) with
    | false => rfl
    | true => exact absurd ((Da.eqvs_iff a b).mp e) h

/-! ### terms -/
inductive Tm where
  | mk (n : Str) (ps : List Tm)
mutual
def Tm.da : Tm → Da
  | .mk n ps => .tup (.str n :: Tm.das ps)
def Tm.das : List Tm → List Da
  | [] => []
  | t :: r => t.da :: Tm.das r
end
theorem Tm.das_map : ∀ l : List Tm, Tm.das l = l.map Tm.da
  | [] => rfl
  | t :: r => by rw [Tm.das, Tm.das_map r]; rfl
mutual
theorem Tm.da_inj : ∀ a b : Tm, a.da = b.da → a = b
  | .mk n ps, .mk m qs, h => by
    simp only [Tm.da, Da.tup.injEq, List.cons.injEq, Da.str.injEq] at h
    rw [h.1, Tm.das_inj ps qs h.2]
theorem Tm.das_inj : ∀ a b : List Tm, Tm.das a = Tm.das b → a = b
  | [], [], _ => rfl
  | [], _ :: _, h => by simp [Tm.das] at h
  | _ :: _, [], h => by simp [Tm.das] at h
  | a :: as, b :: bs, h => by
    simp only [Tm.das, List.cons.injEq] at h
    rw [Tm.da_inj a b h.1, Tm.das_inj as bs h.2]
end
theorem Tm.da_iff {a b : Tm} : a.da = b.da ↔ a = b := ⟨Tm.da_inj a b, fun e => by rw [e]⟩
instance : DecidableEq Tm := fun a b => if h : a.da = b.da then .isTrue (Tm.da_inj a b h) else .isFalse fun e => h (by rw [e])
def Tm.parts : Tm → List Tm | .mk _ ps => ps
def Tm.name : Tm → Str | .mk n _ => n
mutual
def Tm.depth : Tm → Nat
  | .mk _ ps => Tm.depths ps + 1
def Tm.depths : List Tm → Nat
  | [] => 0
  | t :: r => max t.depth (Tm.depths r)
end
mutual
theorem Tm.da_depth : ∀ t : Tm, t.da.depth = t.depth
  | .mk n ps => by
    have h := Tm.das_depth ps
    simp only [Tm.da, Da.depth, Da.depths, Tm.depth, h]
    omega
theorem Tm.das_depth : ∀ l : List Tm, Da.depths (Tm.das l) = Tm.depths l
  | [] => rfl
  | t :: r => by simp only [Tm.das, Da.depths, Tm.depths, Tm.da_depth t, Tm.das_depth r]
end
theorem Tm.depths_le : ∀ {l : List Tm} {n : Nat}, Tm.depths l ≤ n ↔ ∀ d ∈ l, d.depth ≤ n
  | [], n => by simp [Tm.depths]
  | x :: r, n => by
    have h := Tm.depths_le (l := r) (n := n)
    simp only [Tm.depths, List.mem_cons, forall_eq_or_imp, ← h]
    omega
theorem Tm.parts_depth {t p : Tm} (h : p ∈ t.parts) : p.depth < t.depth := by
  cases t with
  | mk n ps =>
    have h2 := (Tm.depths_le (l := ps) (n := Tm.depths ps)).mp (Nat.le_refl _) p h
    simp only [Tm.depth]
    omega
mutual
def Tm.ok : Tm → Bool
  | .mk n ps => okS n && Tm.oks ps
def Tm.oks : List Tm → Bool
  | [] => true
  | t :: r => t.ok && Tm.oks r
end
mutual
theorem Tm.da_ok : ∀ t : Tm, t.da.ok = t.ok
  | .mk n ps => by
    have h := Tm.das_ok ps
    simp only [Tm.da, Da.ok, Da.oks, Tm.ok, h]
theorem Tm.das_ok : ∀ l : List Tm, Da.oks (Tm.das l) = Tm.oks l
  | [] => rfl
  | t :: r => by simp only [Tm.das, Da.oks, Tm.oks, Tm.da_ok t, Tm.das_ok r]
end
theorem Tm.oks_iff : ∀ {l : List Tm}, Tm.oks l = true ↔ ∀ t ∈ l, t.ok = true
  | [] => by simp [Tm.oks]
  | x :: r => by simp [Tm.oks, Tm.oks_iff (l := r)]
theorem Tm.parts_ok {t p : Tm} (h : t.ok = true) (hp : p ∈ t.parts) : p.ok = true := by
  cases t with
  | mk n ps =>
    simp only [Tm.ok, Bool.and_eq_true] at h
    exact Tm.oks_iff.mp h.2 p hp
theorem Tm.da_eq (t : Tm) : t.da = .tup (.str t.name :: t.parts.map Tm.da) := by
  cases t with
  | mk n ps => simp only [Tm.da, Tm.das_map, Tm.name, Tm.parts]
theorem DaAt.tm {H : Hp} {v : V} {t : Tm} (h : DaAt H v t.da) : ∃ a vs, v = .ref a ∧ H a = some (.tup (.str t.name :: vs)) ∧ DasAt H vs (t.parts.map Tm.da) := by
  rw [Tm.da_eq] at h
  obtain ⟨a, vs, rfl, h1, h2⟩ := h.tup_inv
  obtain ⟨u, r, rfl, h3, h4⟩ := h2.cons_inv
  rw [h3.str_inv] at h1
  exact ⟨a, r, rfl, h1, h4⟩
end AB

set_option Elab.async false
set_option linter.all false
set_option maxRecDepth 100000
namespace AB
open PySem PySem.Spec PyProof.Rows L2
abbrev St := L2.St

/-! ### the world around: one structure -/
structure Ev where
  P : Program
  w : World
  K : PySem.W.Frag
  mg : Str → Option Value
  base : Heap
structure Of (e : Ev) (X : Cx) : Prop where
  P : X.prog = e.P
  w : X.w = e.w
  K : X.K = e.K
  mg : X.mg = e.mg
  base : X.base = e.base
/-- the text's def st stands under the name x -/
structure At (e : Ev) (x : Str) (ps : List Str) (st : Stmt) : Prop where
  ex : ∃ f fd, FunD e.K x x (defArgs st) (defBody st) (defScope st) [] [] f fd ∧ e.mg x = some (.ref f) ∧ Binds e.K fd ps []
/-- under x stands a def that keeps the promise sp -/
def Has (e : Ev) (k : Nat) (x : Str) (ps : List Str) (sp : Sp) : Prop :=
  ∃ f fd, FnOk e.P e.w e.K e.mg e.base CX0 k f fd ps sp ∧ e.mg x = some (.ref f) ∧ PySem.W.keepIn e.K (.ref f) = true ∧ Binds e.K fd ps [] ∧ ∃ oc od osl, e.K.lookup f = some ⟨oc, od, .func fd, osl⟩
theorem Has.mono {e : Ev} {j k : Nat} {x : Str} {ps : List Str} {sp : Sp} (h : Has e j x ps sp) (l : j ≤ k) : Has e k x ps sp :=
  let ⟨f, fd, F, a, b, c⟩ := h; ⟨f, fd, F.mono l, a, b, c⟩
theorem Has.imp {e : Ev} {k : Nat} {x : Str} {ps : List Str} {sp sp' : Sp} (h : Has e k x ps sp) (l : ∀ vs H Q E, sp' vs H Q E → sp vs H Q E) : Has e k x ps sp' :=
  let ⟨f, fd, F, a, b, c⟩ := h; ⟨f, fd, F.imp l, a, b, c⟩
theorem FunD.lk {K : PySem.W.Frag} {x qual : Str} {params : Arguments} {body : List Stmt} {scope : Scope} {dvs : List V} {kws : List (Str × V)} {f : Addr} {fd : FuncData} (F : FunD K x qual params body scope dvs kws f fd) :
    ∃ oc od osl, K.lookup f = some ⟨oc, od, .func fd, osl⟩ := by
  obtain ⟨oc, od, _, _, _, _, _, _, _, osl, _, lk, _⟩ := F.ex
  exact ⟨oc, od, osl, lk⟩
theorem At.ok {e : Ev} {x : Str} {N ps : List Str} {st : Stmt} {k : Nat} {sp : Sp} (A : At e x ps st) (S : FnScope N ps (defScope st)) (len : ∀ vs H Q E, sp vs H Q E → vs.length = ps.length)
    (hbody : ∀ (f : Addr) (cdv : Value) (A : Around) (outer : List Env) (s : Shared) (H : Hp) (vs : List V) (Q : VK) (E : XK), Room k (A.deeper (envOfC x (defScope st) s.heap.objs.size f cdv)) → sp vs H Q E →
      ∃ t, PSs (cxOf CX0 e.P e.w e.K e.mg e.base N x (defScope st) f cdv A outer s H E).nox (defBody st) t ∧ t { nx := fun _ H' => Q .non H', rt := Q } (start N vs) H) : Has e (k + 1) x ps sp := by
  obtain ⟨f, fd, F, m, b⟩ := A.ex
  refine ⟨f, fd, F.ok S len fun cdv A outer s H vs Q E hr h => ?_, m, F.kp, b, FunD.lk F⟩
  obtain ⟨t, h1, h2⟩ := hbody f cdv A outer s H vs Q E hr h
  exact ⟨t, h1.nox, h2⟩
/-- a promise with a bound that nothing meets at 0 -/
theorem At.zero {e : Ev} {x : Str} {ps : List Str} {st : Stmt} {sp : Sp} (A : At e x ps st) (no : ∀ vs H Q E, ¬ sp vs H Q E) : Has e 0 x ps sp := by
  obtain ⟨f, fd, F, m, b⟩ := A.ex
  exact ⟨f, fd, ⟨fun vs H Q E h => absurd h (no vs H Q E), fun A outer s H args us vs Q E _ _ _ _ h => absurd h (no vs H Q E)⟩, m, F.kp, b, FunD.lk F⟩

section
variable {e : Ev} {X : Cx} {k j : Nat} {x : Str} {ps : List Str} {sp : Sp} {a : Expr} {es : List Expr} {t : TA} {p pos : Pos}
theorem pe_callH (h : Has e j x ps sp) (hr : Room k X.A) (ha : PA X (a :: es) t) (hk : j ≤ k := by omega) (hX : Of e X := by exact ⟨rfl, rfl, rfl, rfl, rfl⟩) (hg : Gl X x := by rfl) (hdb : (x == ("__debug__" : Str)) = false := by decide)
    (he : starEach (a :: es) X.env = (false, eval a X.env) :: starEach es X.env := by rfl) (hpl : (backTo pos (starEach es X.env)).any (·.1) = false := by rfl) :
    PE X (.Call (.Name x p) (a :: es) [] pos) (tCall sp [] E0 t) := by
  obtain ⟨f, fd, F, m, kp, b, _⟩ := h
  obtain ⟨h1, h2, h3, h4, h5⟩ := hX
  have F2 := F.mono hk
  rw [← h1, ← h2, ← h3, ← h4, ← h5] at F2
  rw [← h4] at m
  rw [← h3] at kp b
  exact pe_call F2 hr hg m kp b .nil pass0 ha hdb he hpl
end

/-! ### the built-in names -/
structure Bl (e : Ev) : Prop where
  len : e.mg "len" = none
  abs : e.mg "abs" = none
  max : e.mg "max" = none
  min : e.mg "min" = none
  int : e.mg "int" = none
  tuple : e.mg "tuple" = none
  list : e.mg "list" = none
  range : e.mg "range" = none
  sum : e.mg "sum" = none
  isinstance : e.mg "isinstance" = none
  sorted : e.mg "sorted" = none
  set : e.mg "set" = none
  zip : e.mg "zip" = none
  enumerate : e.mg "enumerate" = none
  reversed : e.mg "reversed" = none
  str : e.mg "str" = none
  bool : e.mg "bool" = none
section
variable {e : Ev} {X : Cx} {x : Str} {a : Expr} {es : List Expr} {t : TA} {p pos : Pos} {id T : String} {r : List V → Hp → VK → Prop}
theorem Of.no (hX : Of e X) (m : e.mg x = none) : X.mg x = none := by rw [hX.mg]; exact m
theorem pe_b (hc : CallR X (.builtin id) r) (m : e.mg x = none) (ha : PA X (a :: es) t) (hX : Of e X := by exact ⟨rfl, rfl, rfl, rfl, rfl⟩) (hv : bootBuiltins x = some (.builtin id) := by decide +kernel) (hg : Gl X x := by rfl) (hn : x ≠ "__name__" := by decide) (hdb : (x == ("__debug__" : Str)) = false := by decide)
    (he : starEach (a :: es) X.env = (false, eval a X.env) :: starEach es X.env := by rfl) (hpl : (backTo pos (starEach es X.env)).any (·.1) = false := by rfl) : PE X (.Call (.Name x p) (a :: es) [] pos) (tCB r t) :=
  pe_callB hc hg (hX.no m) hv ha hn hdb he hpl
theorem pe_ty (hc : CallR X (.type T) r) (m : e.mg x = none) (ha : PA X (a :: es) t) (hX : Of e X := by exact ⟨rfl, rfl, rfl, rfl, rfl⟩) (hv : bootBuiltins x = some (.type T) := by decide +kernel) (hg : Gl X x := by rfl) (hn : x ≠ "__name__" := by decide) (hdb : (x == ("__debug__" : Str)) = false := by decide)
    (he : starEach (a :: es) X.env = (false, eval a X.env) :: starEach es X.env := by rfl) (hpl : (backTo pos (starEach es X.env)).any (·.1) = false := by rfl) : PE X (.Call (.Name x p) (a :: es) [] pos) (tCB r t) :=
  pe_callTy hc hg (hX.no m) hv ha hn hdb he hpl
theorem pe_tyv (m : e.mg x = none) (hX : Of e X := by exact ⟨rfl, rfl, rfl, rfl, rfl⟩) (hv : bootBuiltins x = some (.type T) := by decide +kernel) (hg : Gl X x := by rfl) (hn : x ≠ "__name__" := by decide) (hdb : (x == ("__debug__" : Str)) = false := by decide) : PE X (.Name x pos) (tC (.ty T)) :=
  pe_bltn hg (hX.no m) hv rfl hn hdb
end

/-! ### operations on immutable data -/
section
variable {X : Cx}
/-- t + u -/
def rCatD : R2 := fun x y H Q => ∃ l m, DaAt H x (.tup l) ∧ DaAt H y (.tup m) ∧ l.length + m.length ≤ sizeLine ∧ ∀ v H', Same H H' → DaAt H' v (.tup (l ++ m)) → Q v H'
theorem op_catD : OpR X (binaryOp .Add) rCatD := by
  intro pins s σ H x y v u Q I rx ry h
  obtain ⟨l, m, hx, hy, hz, q⟩ := h
  obtain ⟨a, vs, rfl, h1, h2⟩ := hx.tup_inv
  obtain ⟨b, ws, rfl, h3, h4⟩ := hy.tup_inv
  refine op_catA pins s σ H _ _ v u Q I rx ry ⟨a, b, vs, ws, rfl, rfl, SqT.of h1, SqT.of h3, by rw [h2.length, h4.length]; exact hz, fun z => ?_, fun _ z => ?_, fun _ _ p hp => ?_⟩
  · subst z
    have e : l = [] := by have := h2.length; simp at this; exact List.length_eq_zero_iff.mp this.symm
    subst e
    exact q _ _ (Same.refl _) hy
  · subst z
    have e : m = [] := by have := h4.length; simp at this; exact List.length_eq_zero_iff.mp this.symm
    subst e
    rw [List.append_nil] at q
    exact q _ _ (Same.refl _) hx
  · exact q _ _ (same_new hp _) (.tup upd_same ((h2.append h4).mono (TX.new hp)))
def cutD {α : Type} (l : List α) (lo hi : Option Int) : List α := (l.drop (HT.sIx l.length 0 lo)).take (HT.sIx l.length l.length hi - HT.sIx l.length 0 lo)
theorem cutD_tail {α : Type} (x : α) (l : List α) : cutD (x :: l) (some 1) none = l := by
  have e1 : HT.sIx (x :: l).length 0 (some 1) = 1 := by
    have := HT.sIx_nat (x :: l).length 0 1
    simpa using this
  unfold cutD
  rw [e1, HT.sIx_none]
  simp
theorem DasAt.cut {H : Hp} {vs : List V} {ds : List Da} (h : DasAt H vs ds) (lo hi : Option Int) : DasAt H (cutV vs lo hi) (cutD ds lo hi) := by
  unfold cutV cutD
  rw [h.length]
  exact (h.drop _).take _
/-- t[lo:hi] -/
def rSlD : V → Option Int → Option Int → Hp → VK → Prop := fun x lo hi H Q => ∃ l, DaAt H x (.tup l) ∧ ∀ v H', Same H H' → DaAt H' v (.tup (cutD l lo hi)) → Q v H'
theorem sl_tupD : SlR X rSlD := by
  intro pins s σ H x v vl vu lo hi sl Q I rx hs pl pu h
  obtain ⟨l, hx, q⟩ := h
  obtain ⟨a, vs, rfl, h1, h2⟩ := hx.tup_inv
  refine sl_tupA pins s σ H _ v vl vu lo hi sl Q I rx hs pl pu ⟨a, vs, rfl, SqT.of h1, fun z => ?_, fun _ p hp => ?_⟩
  · refine q _ _ (Same.refl _) (.tup h1 ?_)
    have e := h2.cut lo hi
    have e2 : cutV vs lo hi = vs := by
      unfold cutV
      rw [z.1, z.2]
      simp
    rw [e2] at e
    exact e
  · exact q _ _ (same_new hp _) (.tup upd_same ((h2.cut lo hi).mono (TX.new hp)))
/-- t[i] -/
def rIxD : R2 := fun x y H Q => ∃ l i d, DaAt H x (.tup l) ∧ y = .int i ∧ atI l i = some d ∧ ∀ v, DaAt H v d → Q v H
theorem atI_len {α β : Type} {xs : List α} {ys : List β} {i : Int} (h : xs.length = ys.length) {j : Nat} (e : ixN ys.length i = some j) : ixN xs.length i = some j := by rw [h]; exact e
theorem DasAt.atI {H : Hp} {vs : List V} {ds : List Da} {i : Int} {d : Da} (h : DasAt H vs ds) (e : L2.atI ds i = some d) : ∃ v, L2.atI vs i = some v ∧ DaAt H v d := by
  unfold L2.atI at e ⊢
  rw [h.length]
  cases q : ixN ds.length i with
  | none => rw [q] at e; cases e
  | some j =>
    rw [q] at e
    obtain ⟨v, h1, h2⟩ := h.get e
    exact ⟨v, h1, h2⟩
theorem ix_tupD : IxR X rIxD := by
  intro va sl pins s σ H x y v u Q I rx ry h hp
  obtain ⟨l, i, d, hx, rfl, hi, q⟩ := h
  obtain ⟨a, vs, rfl, h1, h2⟩ := hx.tup_inv
  obtain ⟨w, h3, h4⟩ := h2.atI hi
  exact ix_tup va sl pins s σ H _ _ v u Q I rx ry ⟨a, vs, i, w, rfl, rfl, SqT.of h1, h3, q w h4⟩ hp
/-- xs[i], a list of such data -/
def rIxLD : R2 := fun x y H Q => ∃ a l i d, x = .ref a ∧ LD H a l ∧ y = .int i ∧ atI l i = some d ∧ ∀ v, DaAt H v d → Q v H
theorem ix_listD : IxR X rIxLD := by
  intro va sl pins s σ H x y v u Q I rx ry h hp
  obtain ⟨a, l, i, d, rfl, ⟨vs, h1, h2⟩, rfl, hi, q⟩ := h
  obtain ⟨w, h3, h4⟩ := h2.atI hi
  exact ix_list va sl pins s σ H _ _ v u Q I rx ry ⟨a, vs, i, w, rfl, rfl, SqL.of h1, h3, q w h4⟩ hp
/-- len -/
def rLenT : List V → Hp → VK → Prop := fun xs H Q => ∃ x l, xs = [x] ∧ DaAt H x (.tup l) ∧ Q (.int l.length) H
theorem call_lenT : CallR X (.builtin "len") rLenT := by
  intro pins s σ H xs us Q I r h
  obtain ⟨x, l, rfl, hx, q⟩ := h
  obtain ⟨a, vs, rfl, h1, h2⟩ := hx.tup_inv
  exact call_len_seq pins s σ H _ us Q I r ⟨a, vs, rfl, .inr (SqT.of h1), by rw [h2.length]; exact q⟩
def rLenL (K : PySem.W.Frag) : List V → Hp → VK → Prop := fun xs H Q => ∃ p ys, xs = [.ref p] ∧ SqL K H p ys ∧ Q (.int ys.length) H
theorem call_lenL : CallR X (.builtin "len") (rLenL X.K) := by
  intro pins s σ H xs us Q I r h
  obtain ⟨p, ys, rfl, h1, q⟩ := h
  exact call_len_seq pins s σ H _ us Q I r ⟨p, ys, rfl, .inl h1, q⟩
/-- tuple(list) -/
def rTupL : List V → Hp → VK → Prop := fun xs H Q => ∃ p ds, xs = [.ref p] ∧ LD H p ds ∧ ∀ v H', Same H H' → DaAt H' v (.tup ds) → Q v H'
theorem call_tupL : CallR X (.type "tuple") rTupL := by
  intro pins s σ H xs us Q I r h
  obtain ⟨p, ds, rfl, ⟨vs, h1, h2⟩, q⟩ := h
  exact call_tuple_of pins s σ H _ us Q I r ⟨p, vs, rfl, .inl ⟨SqL.of h1, fun l hl => q _ _ (same_new hl _) (.tup upd_same (h2.mono (TX.new hl)))⟩⟩
/-- == of data -/
def okD (d : Da) : Prop := d.ok = true ∧ d.depth ≤ 60
def okL (ds : List Da) : Prop := ∀ d ∈ ds, okD d
theorem okL.oks {ds : List Da} (h : okL ds) : Da.oks ds = true ∧ Da.depths ds ≤ 60 := ⟨Da.oks_of fun d m => (h d m).1, Da.depths_le.mpr fun d m => (h d m).2⟩
theorem okD.sh {d : Da} (h : okD d) : SeqAt.shaped d.py = true := Da.shaped h.1 (Nat.le_trans h.2 (by decide))
theorem okL.sh {ds : List Da} (h : okL ds) : SeqAt.shaped (.list (Da.pys ds)) = true := pys_shaped h.oks.1 (Nat.le_trans h.oks.2 (by decide))
theorem okD.tup {l : List Da} (h : ∀ d ∈ l, d.ok = true ∧ d.depth ≤ 59) : okD (.tup l) := ⟨by simp only [Da.ok]; exact Da.oks_of fun d m => (h d m).1, by
  have := (Da.depths_le (l := l) (n := 59)).mpr fun d m => (h d m).2
  simp only [Da.depth]; omega⟩
def rEqDa (neg : Bool) : R2 := fun x y H Q => ∃ d e, DaAt H x d ∧ DaAt H y e ∧ okD d ∧ okD e ∧ Q (.bl (if neg then !decide (d = e) else decide (d = e))) H
theorem op_eqDa (hu : X.A.units + 64 < cLine) : OpR X (compareOp .Eq) (rEqDa false) := by
  intro pins s σ H x y v u Q I rx ry h
  obtain ⟨d, e, hx, hy, k1, k2, q⟩ := h
  exact op_eqD hu pins s σ H x y v u Q I rx ry ⟨d.py, e.py, hx.dp, hy.dp, k1.sh, k2.sh, by rw [Da.eqv_dec]; exact q⟩
theorem op_neDa (hu : X.A.units + 64 < cLine) : OpR X (compareOp .NotEq) (rEqDa true) := by
  intro pins s σ H x y v u Q I rx ry h
  obtain ⟨d, e, hx, hy, k1, k2, q⟩ := h
  exact op_neD hu pins s σ H x y v u Q I rx ry ⟨d.py, e.py, hx.dp, hy.dp, k1.sh, k2.sh, by rw [Da.eqv_dec]; exact q⟩
/-- == of lists of data -/
def rEqLa (neg : Bool) : R2 := fun x y H Q => ∃ a b ds es, x = .ref a ∧ y = .ref b ∧ LD H a ds ∧ LD H b es ∧ okL ds ∧ okL es ∧ Q (.bl (if neg then !decide (ds = es) else decide (ds = es))) H
theorem op_eqLa (hu : X.A.units + 64 < cLine) : OpR X (compareOp .Eq) (rEqLa false) := by
  intro pins s σ H x y v u Q I rx ry h
  obtain ⟨a, b, d, e, rfl, rfl, hx, hy, k1, k2, q⟩ := h
  exact op_eqD hu pins s σ H _ _ v u Q I rx ry ⟨_, _, hx.dp, hy.dp, k1.sh, k2.sh, by simp only [PyData.eqv]; rw [pys_eqv]; exact q⟩
theorem op_neLa (hu : X.A.units + 64 < cLine) : OpR X (compareOp .NotEq) (rEqLa true) := by
  intro pins s σ H x y v u Q I rx ry h
  obtain ⟨a, b, d, e, rfl, rfl, hx, hy, k1, k2, q⟩ := h
  exact op_neD hu pins s σ H _ _ v u Q I rx ry ⟨_, _, hx.dp, hy.dp, k1.sh, k2.sh, by simp only [PyData.eqv]; rw [pys_eqv]; exact q⟩
/-- d in a list of data -/
def rInDa (neg : Bool) : R2 := fun x y H Q => ∃ d a ds, DaAt H x d ∧ y = .ref a ∧ LD H a ds ∧ okD d ∧ okL ds ∧ Q (.bl (if neg then !decide (d ∈ ds) else decide (d ∈ ds))) H
theorem op_inDa (hu : X.A.units + 65 < cLine) : OpR X (compareOp .In) (rInDa false) := by
  intro pins s σ H x y v u Q I rx ry h
  obtain ⟨d, a, ds, hx, rfl, hy, k1, k2, q⟩ := h
  exact op_inD hu pins s σ H _ _ v u Q I rx ry ⟨d.py, Da.pys ds, hx.dp, hy.dp, k1.sh, k2.sh, by rw [any_pys]; exact q⟩
theorem op_notInDa (hu : X.A.units + 65 < cLine) : OpR X (compareOp .NotIn) (rInDa true) := by
  intro pins s σ H x y v u Q I rx ry h
  obtain ⟨d, a, ds, hx, rfl, hy, k1, k2, q⟩ := h
  exact op_notInD hu pins s σ H _ _ v u Q I rx ry ⟨d.py, Da.pys ds, hx.dp, hy.dp, k1.sh, k2.sh, by rw [any_pys]; exact q⟩
theorem hu64 {A : Around} {k : Nat} (hr : Room k A) : A.units + 64 < cLine := hr.units
theorem hu65 {A : Around} {k : Nat} (hr : Room k A) : A.units + 65 < cLine := by have := hr.un; omega
/-- text * number -/
def rMulS : R2 := fun x y H Q => ∃ z n, x = .str z ∧ y = .int n ∧ z.length ≤ 1000 ∧ 0 ≤ n ∧ n ≤ 1000 ∧ Q (.str (Txt.mul z n)) H
theorem mulOk_small {z : Str} {n : Int} (h1 : z.length ≤ 1000) (h2 : 0 ≤ n) (h3 : n ≤ 1000) : MulOk z n := by
  refine ⟨?_, fun h _ h4 => ?_, fun h _ => ?_⟩
  · rw [Bool.or_eq_false_iff]
    exact ⟨decide_eq_false (by omega), decide_eq_false (by omega)⟩
  · have h5 : (1000 : Int) ≤ (2 ^ 63 - 1) / n := by
      rw [Int.le_ediv_iff_mul_le (by omega)]
      omega
    omega
  · unfold Builtin.Str.tooLong
    have h7 := sizeLine_eq
    have h5 : n.toNat ≤ 1000 := by omega
    have h6 : z.length * n.toNat ≤ 1000 * 1000 := Nat.mul_le_mul h1 h5
    first
      | (rw [decide_eq_false_iff_not]; omega)
      | (simp; omega)
theorem op_mulS : OpR X (binaryOp .Mult) rMulS := by
  intro pins s σ H x y v u Q I rx ry h
  obtain ⟨z, n, rfl, rfl, h1, h2, h3, q⟩ := h
  obtain ⟨t, rfl⟩ := rx
  obtain ⟨t', rfl⟩ := ry
  exact SB.mul (mulOk_small h1 h2 h3) fun t' k => ⟨.str _, H, I.tok _, ⟨_, rfl⟩, q⟩
end

/-! ### loops and comprehensions over such data -/
/-- for x in t -/
theorem for_tupD {K : PySem.W.Frag} {H0 : Hp} {v : V} {l : List Da} {g : TG} {tb : TS} {D : Ends} {σ : St} (hv : DaAt H0 v (.tup l)) (Pv : Nat → St → Hp → Prop) (h0 : Pv 0 σ H0)
    (tx : ∀ i σ H, Pv i σ H → TX H0 H)
    (hs : ∀ i x d σ H, l[i]? = some d → DaAt H x d → Pv i σ H → g x σ H fun σ2 H2 => tb { D with nx := Pv (i + 1), ct := Pv (i + 1), bk := D.nx } σ2 H2) (hd : ∀ σ H, Pv l.length σ H → D.nx σ H) :
    ∃ a, v = .ref a ∧ (∃ xs, SqT K H0 a xs) ∧ ∃ W : Nat → Nat → St → Hp → Prop, (∃ m, W 0 m σ H0) ∧ ∀ i m σ H, W i m σ H →
      ((Itt K a).stop i H ∧ D.nx σ H) ∨ ((Itt K a).go i H ∧ ∃ N : St → Hp → Prop, (∀ σ' H', N σ' H' → ∃ m', m' < m ∧ W (i + 1) m' σ' H') ∧ ∀ x H', (Itt K a).yld i H x H' → g x σ H' fun σ2 H2 => tb { D with nx := N, ct := N, bk := D.nx } σ2 H2) := by
  obtain ⟨a, vs, rfl, h1, h2⟩ := hv.tup_inv
  refine ⟨a, rfl, ⟨vs, SqT.of h1⟩, for_tup (xs := vs) Pv h0 (fun i σ H _ p => SqT.of ((tx i σ H p).tup h1)) (fun i x σ H hi p => ?_) (fun σ H p => hd σ H (by rw [← h2.length]; exact p))⟩
  obtain ⟨d, h3, h4⟩ := h2.at hi
  exact hs i x d σ H h3 (h4.mono (tx i σ H p)) p
/-- for x in a list of such data, that stays -/
theorem for_listD {K : PySem.W.Frag} {H0 : Hp} {a : Addr} {l : List Da} {g : TG} {tb : TS} {D : Ends} {σ : St} (hv : LD H0 a l) (Pv : Nat → St → Hp → Prop) (h0 : Pv 0 σ H0)
    (tx : ∀ i σ H, Pv i σ H → TX H0 H ∧ H a = H0 a)
    (hs : ∀ i x d σ H, l[i]? = some d → DaAt H x d → Pv i σ H → g x σ H fun σ2 H2 => tb { D with nx := Pv (i + 1), ct := Pv (i + 1), bk := D.nx } σ2 H2) (hd : ∀ σ H, Pv l.length σ H → D.nx σ H) :
    (∃ xs, SqL K H0 a xs) ∧ ∃ W : Nat → Nat → St → Hp → Prop, (∃ m, W 0 m σ H0) ∧ ∀ i m σ H, W i m σ H →
      ((Itl K a).stop i H ∧ D.nx σ H) ∨ ((Itl K a).go i H ∧ ∃ N : St → Hp → Prop, (∀ σ' H', N σ' H' → ∃ m', m' < m ∧ W (i + 1) m' σ' H') ∧ ∀ x H', (Itl K a).yld i H x H' → g x σ H' fun σ2 H2 => tb { D with nx := N, ct := N, bk := D.nx } σ2 H2) := by
  obtain ⟨vs, h1, h2⟩ := hv
  refine ⟨⟨vs, SqL.of h1⟩, for_list (xs := vs) Pv h0 (fun i σ H _ p => SqL.of ((tx i σ H p).2.trans h1)) (fun i x σ H hi p => ?_) (fun σ H p => hd σ H (by rw [← h2.length]; exact p))⟩
  obtain ⟨d, h3, h4⟩ := h2.at hi
  exact hs i x d σ H h3 (h4.mono (tx i σ H p).1) p
/-- [F x for x in t], the element pure -/
theorem lc_tupD {K : PySem.W.Frag} {H0 : Hp} {v : V} {l : List Da} {F : Da → Da} {g : TG} {tt : TT} {te : TE} {vs : List Nat} {σ : St} {Q : V → Hp → Prop} (hv : DaAt H0 v (.tup l)) (hz : l.length ≤ 1000000)
    (hs : ∀ x d H, d ∈ l → DaAt H x d → Same H0 H → ∀ (Q' : V → Hp → Prop) (N : Hp → Prop), (∀ y H', Same H H' → DaAt H' y (F d) → Q' y H') → g x (wipe σ vs) H fun σ2 H2 => wipe σ2 vs = wipe σ vs ∧ tt σ2 H2 fun b H3 =>
      if b = true then te σ2 H3 Q' else N H3)
    (hd : ∀ D H, H0 D = none → Same H0 H → LD H D (l.map F) → Q (.ref D) H) :
    ∃ a, v = .ref a ∧ (∃ xs, SqT K H0 a xs) ∧ ∀ D, H0 D = none → ∃ W : Nat → Nat → Hp → Prop, (∃ m, W 0 m (upd H0 D (.lst []))) ∧ ∀ i m H, W i m H →
      ((Itt K a).stop i H ∧ Q (.ref D) H) ∨ ((Itt K a).go i H ∧ ∃ Nx : Hp → Prop, (∀ H', Nx H' → ∃ m', m' < m ∧ W (i + 1) m' H') ∧ ∀ x H', (Itt K a).yld i H x H' → g x (wipe σ vs) H' fun σ2 H2 => wipe σ2 vs = wipe σ vs ∧ tt σ2 H2 fun b H3 =>
        if b = true then te σ2 H3 fun y H4 => ∃ acc, H4 D = some (.lst acc) ∧ acc.length < sizeLine ∧ Nx (upd H4 D (.lst (acc ++ [y]))) else Nx H3) := by
  obtain ⟨a, xs, rfl, h1, h2⟩ := hv.tup_inv
  refine ⟨a, rfl, ⟨xs, SqT.of h1⟩, fun D hD => ?_⟩
  have key := lc_tup (K := K) (a := a) (xs := xs) (g := g) (tt := tt) (te := te) (vs := vs) (σ := σ) (H1 := H0) (D := D) (Qd := fun H => Q (.ref D) H)
    (fun i H => Same H0 H ∧ LD H D ((l.take i).map F)) ⟨same_put (Same.refl H0) hD _, [], upd_same, by simpa using DasAt.nil⟩ (fun i H _ p => SqT.of (p.1 _ _ h1)) (fun i x H hi p => ?_) (fun H p => hd D H hD p.1 (by
      have := p.2
      rw [h2.length, List.take_length] at this
      exact this))
  · exact key
  · obtain ⟨d, h3, h4⟩ := h2.at hi
    obtain ⟨s1, acc, h5, h6⟩ := p
    have hl : (l.take (i + 1)).map F = (l.take i).map F ++ [F d] := by
      rw [List.take_add_one, h3]
      simp
    have hil : i < l.length := (List.getElem?_eq_some_iff.mp h3).1
    have hal : acc.length < sizeLine := by
      rw [h6.length, List.length_map, List.length_take, sizeLine_eq]
      omega
    refine hs x d H (List.mem_of_getElem? h3) (h4.mono (TX.of_same s1)) s1 _ _ fun y H' s2 hy => ?_
    refine ⟨acc, s2 _ _ h5, hal, same_put (s1.trans s2) hD _, acc ++ [y], upd_same, ?_⟩
    rw [hl]
    exact ((h6.mono (TX.of_same s2)).append (.one hy)).mono (TX.lst (s2 _ _ h5))
end AB
namespace AB
open PySem PySem.Spec PyProof.Rows L2
section
variable {X : Cx}
theorem ps_st (i : Nat) {x : Str} {e : Expr} {te : TE} {pos pos' : Pos} (hN : X.N.Nodup) (he : PE X e te) (hi : X.N[i]? = some x := by rfl) (hx : Loc X.env.scope x := by first | exact Or.inl rfl | exact Or.inr rfl)
    (hs : swapsWith e (some (.Name x pos')) pos.line X.env = pure false := by rfl) (hf : X.fn x = true ∨ X.env.scope.names.lookup x = some .local := by first | exact .inl rfl | exact .inr rfl | assumption) :
    PS X (.Assign [.Name x pos'] e pos) (tAsg te (gName i)) := ps_set hN hi hx he hs hf
theorem pg_nm (i : Nat) {x : Str} {pos : Pos} (hN : X.N.Nodup) (hi : X.N[i]? = some x := by rfl) (hx : Loc X.env.scope x := by first | exact Or.inl rfl | exact Or.inr rfl) (hf : X.fn x = true ∨ X.env.scope.names.lookup x = some .local := by first | exact .inl rfl | exact .inr rfl | assumption) : PG X (.Name x pos) (gName i) := pg_name hN hi hx hf
theorem pe_app {o e : Expr} {es : List Expr} {to : TE} {t : TA} {apos cpos : Pos} (ho : PE X o to) (ha : PA X (e :: es) t)
    (hbase : attributeBase o "append" X.env (eval o X.env) = eval o X.env := by rfl)
    (hfew : ((backTo cpos (starEach (e :: es) X.env)).all (fun x => !x.1) && (backToKw cpos (keywordEach [] X.env)).all (fun x => x.1.isSome)
      && decide ((e :: es).length + ([] : List Keyword).length + (if ([] : List Keyword).isEmpty then 0 else 1) < 30)) = true := by rfl)
    (hline : (apos.endLine == cpos.line) = true := by rfl) (hs : starEach (e :: es) X.env = (false, eval e X.env) :: starEach es X.env := by rfl) (hplain : (backTo cpos (starEach es X.env)).any (·.1) = false := by rfl) :
    PE X (.Call (.Attribute o "append" apos) (e :: es) [] cpos) (tBM X.K "list" rAppend to t) :=
  pe_bm PySem.F.plainAttrs_list PySem.F.slot_list_append PySem.F.type_list_append mt_append ho ha hbase hfew hline hs hplain
end
end AB
namespace AB
open PySem PySem.Spec PyProof.Rows L2
theorem upd_keep {H : Hp} {a p : Addr} {o u : HO} (h : H a = some u) (hp : H p = none) : upd H p o a = some u := by rw [upd_ne (ne_of_none h hp)]; exact h
theorem same_get {H H' : Hp} {a : Addr} {u : HO} (s : Same H H') (h : H a = some u) : H' a = some u := s _ _ h
theorem upd_none {H : Hp} {p q : Addr} {o : HO} (h : upd H p o q = none) : H q = none := by
  unfold upd at h
  split at h
  · cases h
  · exact h
theorem same_none {H H' : Hp} {q : Addr} (s : Same H H') (h : H' q = none) : H q = none := by
  cases e : H q with
  | none => rfl
  | some o => rw [s _ _ e] at h; cases h
/-- names: one to six small letters -/
def goodName (s : Str) : Prop := 1 ≤ s.length ∧ s.length ≤ 6 ∧ ∀ c ∈ s.cps.toList, 97 ≤ c ∧ c ≤ 122
theorem goodName.okS {s : Str} (h : goodName s) : okS s = true := by
  unfold AB.okS
  rw [← Array.all_toList, List.all_eq_true]
  intro c hc
  have := h.2.2 c hc
  simp only [decide_eq_true_eq]
  omega
theorem app_cps (x y : Str) : (x ++ y).cps.toList = x.cps.toList ++ y.cps.toList := by
  show (x.cps ++ y.cps).toList = _
  simp
theorem len_cps (x : Str) : x.length = x.cps.toList.length := by
  show x.cps.size = _
  simp
theorem foldl_app (l : List (Array Nat)) : ∀ a : Array Nat, (l.foldl (· ++ ·) a).toList = a.toList ++ (l.map Array.toList).flatten := by
  induction l with
  | nil => intro a; simp
  | cons x r ih => intro a; rw [List.foldl_cons, ih]; simp
theorem mul_cps {z : Str} {n : Int} (h : 0 ≤ n) : (Txt.mul z n).cps.toList = (List.replicate n.toNat z.cps.toList).flatten := by
  unfold Txt.mul
  by_cases h1 : n < 1
  · have e : n.toNat = 0 := by omega
    rw [if_pos h1, e]
    rfl
  · rw [if_neg h1]
    by_cases h2 : (n == 1 || z.length == 0) = true
    · rw [if_pos h2]
      rw [Bool.or_eq_true] at h2
      rcases h2 with h2 | h2
      · have e : n = 1 := by simpa using h2
        subst e
        simp
      · have e : z.cps.toList = [] := by
          have : z.length = 0 := by simpa using h2
          rw [len_cps] at this
          exact List.length_eq_zero_iff.mp this
        rw [e]
        simp
    · rw [if_neg h2]
      rw [foldl_app]
      simp
theorem flat_rep {α : Type} (c : α) : ∀ n : Nat, (List.replicate n [c]).flatten = List.replicate n c
  | 0 => rfl
  | n + 1 => by rw [List.replicate_succ, List.flatten_cons, flat_rep c n, List.replicate_succ]; rfl
theorem abc_at {i : Int} (h0 : 0 ≤ i) (h1 : i < 26) : ∃ c, atI ("abcdefghijklmnopqrstuvwxyz" : Str).cps.toList i = some c ∧ 97 ≤ c ∧ c ≤ 122 := by
  have key : ∀ n : Fin 26, ∃ c, atI ("abcdefghijklmnopqrstuvwxyz" : Str).cps.toList ((n.val : Nat) : Int) = some c ∧ 97 ≤ c ∧ c ≤ 122 := by
    intro n
    refine ⟨97 + n.val, ?_, by omega, by omega⟩
    revert n
    decide +kernel
  obtain ⟨c, h2, h3⟩ := key ⟨i.toNat, by omega⟩
  refine ⟨c, ?_, h3⟩
  rw [show i = ((i.toNat : Nat) : Int) by omega]
  exact h2
mutual
def Tm.count : Tm → Nat
  | .mk _ ps => 1 + Tm.counts ps
def Tm.counts : List Tm → Nat
  | [] => 0
  | t :: r => t.count + Tm.counts r
end
mutual
def Tm.good : Tm → Prop
  | .mk n ps => goodName n ∧ ps.length ≤ 3 ∧ Tm.goods ps
def Tm.goods : List Tm → Prop
  | [] => True
  | t :: r => t.good ∧ Tm.goods r
end
theorem Tm.goods_iff : ∀ {l : List Tm}, Tm.goods l ↔ ∀ t ∈ l, t.good
  | [] => by simp [Tm.goods]
  | x :: r => by simp [Tm.goods, Tm.goods_iff (l := r)]
mutual
theorem Tm.good_ok : ∀ {t : Tm}, t.good → t.ok = true
  | .mk n ps, h => by
    simp only [Tm.good] at h
    simp only [Tm.ok, h.1.okS, Tm.goods_ok h.2.2, Bool.and_self]
theorem Tm.goods_ok : ∀ {l : List Tm}, Tm.goods l → Tm.oks l = true
  | [], _ => rfl
  | t :: r, h => by
    simp only [Tm.goods] at h
    simp only [Tm.oks, Tm.good_ok h.1, Tm.goods_ok h.2, Bool.and_self]
end
mutual
theorem Tm.depth_count : ∀ t : Tm, t.depth ≤ t.count
  | .mk n ps => by
    have := Tm.depths_counts ps
    simp only [Tm.depth, Tm.count]
    omega
theorem Tm.depths_counts : ∀ l : List Tm, Tm.depths l ≤ Tm.counts l
  | [] => by simp [Tm.depths]
  | t :: r => by
    have h1 := Tm.depth_count t
    have h2 := Tm.depths_counts r
    simp only [Tm.depths, Tm.counts]
    omega
end
theorem Tm.good_okD {t : Tm} (h : t.good) (hd : t.depth ≤ 60) : okD t.da := ⟨by rw [Tm.da_ok]; exact Tm.good_ok h, by rw [Tm.da_depth]; exact hd⟩
/-- the script -/
def ScAt (K : PySem.W.Frag) (H : Hp) (a : Addr) (ns : List Int) : Prop := (∃ o, H a = some (.frz o (.lst (ns.map V.int)))) ∨ ∀ H', SqL K H' a (ns.map V.int)
theorem ScAt.sq {K : PySem.W.Frag} {H : Hp} {a : Addr} {ns : List Int} (h : ScAt K H a ns) : SqL K H a (ns.map V.int) := by
  rcases h with ⟨o, h⟩ | h
  · exact .inl (.inr ⟨o, h⟩)
  · exact h H
theorem ScAt.mono {K : PySem.W.Frag} {H H' : Hp} {a : Addr} {ns : List Int} (t : TX H H') (h : ScAt K H a ns) : ScAt K H' a ns := by
  rcases h with ⟨o, h⟩ | h
  · exact .inl ⟨o, t.frz h⟩
  · exact .inr h
/-- where several ways meet behind a statement: what holds there is said -/
def tCut (t : TS) : TS := fun D σ H => ∃ P : St → Hp → Prop, t { D with nx := P } σ H ∧ ∀ σ' H', P σ' H' → D.nx σ' H'
theorem ps_cut {X : Cx} {st : Stmt} {t : TS} (h : PS X st t) : PS X st (tCut t) := by
  refine ⟨fun pins s σ H D I hw => ?_⟩
  obtain ⟨P, h1, h2⟩ := hw
  refine thn (h.run pins s σ H { D with nx := P } I h1) fun f s' q => ?_
  cases f with
  | next => obtain ⟨σ', H', I', q⟩ := q; exact ⟨σ', H', I', h2 _ _ q⟩
  | brk => exact q
  | cont => exact q
  | ret u => exact q
section
variable {X : Cx} {es : List Expr} {t : TA} {pos : Pos}
/-- a tuple of data -/
def tTupD (t : TA) : TE := fun σ H Q => t σ H fun xs H1 => ∃ ds, DasAt H1 xs ds ∧ ds.length ≤ 1000000 ∧ ∀ v H', Same H1 H' → DaAt H' v (.tup ds) → Q v H'
theorem pe_tupD {x1} (h : PA X es t) : PE X (.Tuple es x1 pos) (tTupD t) := by
  refine ⟨fun pins s σ H Q I hq => ?_⟩
  refine wpAny_Tuple_spliced (thn (h.run pos pins s σ H _ I hq) fun us s1 ⟨xs, H1, I1, r, ds, hd, z, q⟩ => ?_)
  have hz : xs.length ≤ sizeLine := by rw [hd.length, sizeLine_eq]; omega
  have hf : H1 s1.heap.objs.size = none := I1.hok.fresh (Nat.le_refl _)
  refine ⟨by rw [← r.length]; exact hz, .ref s1.heap.objs.size, upd H1 s1.heap.objs.size (.tup xs), I1.laid (t' := s1.toks) (fun b u e => Heap.get?_push_of_some _ e) (Nat.le_refl _) ?_, rfl, q _ _ (same_new hf _) (.tup upd_same (hd.mono (TX.new hf)))⟩
  exact ⟨hz, us, r, ⟨_, Heap.get?_push_size _ rfl, rfl, _, rfl⟩⟩
/-- a list, told by what stands there -/
def tLstA (t : TA) : TE := fun σ H Q => t σ H fun xs H1 => xs.length ≤ sizeLine ∧ ∀ p H', H1 p = none → Same H1 H' → H' p = some (.lst xs) → Q (.ref p) H'
theorem pe_lstA (h : PA X es t) : PE X (.List es pos) (tLstA t) := by
  refine ⟨fun pins s σ H Q I hq => ?_⟩
  refine wpAny_List_spliced (thn (h.run pos pins s σ H _ I hq) fun us s1 ⟨xs, H1, I1, r, z, q⟩ => ⟨by rw [← r.length]; exact z, ?_⟩)
  have hf : H1 s1.heap.objs.size = none := I1.hok.fresh (Nat.le_refl _)
  refine ⟨.ref s1.heap.objs.size, upd H1 s1.heap.objs.size (.lst xs), I1.laid (t' := s1.toks) (fun b u e => Heap.get?_push_of_some _ e) (Nat.le_refl _) ?_, rfl, q _ _ hf (same_new hf _) upd_same⟩
  exact ⟨z, us, 0, r, Heap.get?_push_size _ rfl⟩
end
theorem at0 {α : Type} {x : α} {l : List α} : atI (x :: l) 0 = some x := atI_nat (xs := x :: l) (j := 0) (v := x) rfl
theorem at1 {α : Type} {x y : α} {l : List α} : atI (x :: y :: l) 1 = some y := atI_nat (xs := x :: y :: l) (j := 1) (v := y) rfl
theorem at2 {α : Type} {x y z : α} {l : List α} : atI (x :: y :: z :: l) 2 = some z := atI_nat (xs := x :: y :: z :: l) (j := 2) (v := z) rfl
/-- a def of the head's facts -/
theorem At.of_fun {e : Ev} {x : Str} {ps : List Str} {st : Stmt} {f : Addr} {fd : FuncData} (F : FunD e.K x x (defArgs st) (defBody st) (defScope st) [] [] f fd) (m : e.mg x = some (.ref f))
    (h : ∀ (kV doc pm : Value) (an : Option Addr) (cdv ct : Value) (us : List Value), us.length = ps.length → bindArgs (PySem.W.fnOf x x (defArgs st) (defBody st) (defScope st) .none kV doc pm an cdv ct) ⟨us, []⟩ = pure (ps.zip us)) : At e x ps st :=
  ⟨f, fd, F, m, F.bindsN h⟩
end AB

set_option Elab.async false
set_option linter.all false
set_option maxRecDepth 100000
set_option maxHeartbeats 4000000
namespace AB
open PySem PySem.Spec PyProof.Rows L2
def top (i : Nat) : Stmt := PySem.Challenge.pw_alikeboard_k01_parts_of_a_term.main.body.getD i (.Pass ⟨0, 0, 0, 0⟩)

/-! ### the draws of the laws -/
def cellV (ns : List Int) (k : Int) : Int := if k < ns.length then ns.getD k.toNat 0 else 0
def spCell (K : PySem.W.Frag) : Sp := fun vs H Q _ => ∃ (a : Addr) (ns : List Int) (k : Int), vs = [.ref a, .int k] ∧ ScAt K H a ns ∧ 0 ≤ k ∧ Q (.int (cellV ns k)) H
/-- a dice: [number, script, where, rest] -/
def DiceAt (K : PySem.W.Frag) (H : Hp) (d : Addr) : Prop := ∃ (a : Addr) (ns : List Int) (x j g : Int), H d = some (.lst [.int x, .ref a, .int j, .int g]) ∧ ScAt K H a ns ∧ ns.length ≤ 63 ∧ 0 ≤ x ∧ 0 ≤ j ∧ 0 ≤ g
def spDice (K : PySem.W.Frag) : Sp := fun vs H Q _ => ∃ (a : Addr) (ns : List Int) (k : Int), vs = [.ref a, .int k] ∧ ScAt K H a ns ∧ ns.length ≤ 63 ∧ 0 ≤ k ∧
  ∀ p H', H p = none → Same H H' → DiceAt K H' p → Q (.ref p) H'
/-- all but d stands -/
def But (d : Addr) (H H' : Hp) : Prop := ∀ b o, b ≠ d → H b = some o → H' b = some o
theorem But.of {d : Addr} {H H' : Hp} (s : Same H H') : But d H H' := fun b o _ h => s b o h
theorem But.refl {d : Addr} (H : Hp) : But d H H := fun _ _ _ h => h
theorem But.trans {d : Addr} {H H1 H2 : Hp} (a : But d H H1) (b : But d H1 H2) : But d H H2 := fun c o n h => b c o n (a c o n h)
theorem But.put {d : Addr} (H : Hp) (o : HO) : But d H (upd H d o) := fun b u n h => by rw [upd_ne n]; exact h
theorem But.same {d : Addr} {H0 H H' : Hp} (b : But d H H') (s : Same H0 H) (h : H0 d = none) : Same H0 H' := fun c o e => b c o (ne_of_none e h) (s c o e)
theorem DiceAt.lst {K : PySem.W.Frag} {H : Hp} {d : Addr} (h : DiceAt K H d) : ∃ xs, H d = some (.lst xs) := let ⟨_, _, _, _, _, h, _⟩ := h; ⟨_, h⟩
theorem But.tx {K : PySem.W.Frag} {d : Addr} {H H' : Hp} (b : But d H H') (h : DiceAt K H d) : TX H H' := fun a o i e => by
  obtain ⟨ys, h⟩ := h.lst
  exact b a _ (ne_of e h (fun z => by subst z; exact i)) e
theorem DiceAt.tx {K : PySem.W.Frag} {H H' : Hp} {d : Addr} (t : TX H H') (e : H' d = H d) (h : DiceAt K H d) : DiceAt K H' d := by
  obtain ⟨a, ns, x, j, g, h1, h2, h3⟩ := h
  exact ⟨a, ns, x, j, g, e.trans h1, h2.mono t, h3⟩
theorem DiceAt.same {K : PySem.W.Frag} {H H' : Hp} {d : Addr} (s : Same H H') (h : DiceAt K H d) : DiceAt K H' d := by
  obtain ⟨a, ns, x, j, g, h1, h2, h3⟩ := h
  exact ⟨a, ns, x, j, g, s _ _ h1, h2.mono (TX.of_same s), h3⟩
def spOff (K : PySem.W.Frag) : Sp := fun vs H Q _ => ∃ (d : Addr) (m : Int), vs = [.ref d, .int m] ∧ DiceAt K H d ∧ 0 < m ∧ m < 1000000 ∧ ∀ (n : Int) H', 0 ≤ n → n < m → But d H H' → DiceAt K H' d → Q (.int n) H'

abbrev s__law_cell : Stmt := top 3
theorem sc__law_cell : FnScope ["_law_script", "_law_k"] ["_law_script", "_law_k"] (defScope s__law_cell) := ⟨rfl, rfl, rfl, by decide +kernel, rfl, by decide +kernel, by decide +kernel⟩
abbrev s__law_dice : Stmt := top 4
theorem sc__law_dice : FnScope ["_law_script", "_law_k", "_law_cell_here"] ["_law_script", "_law_k"] (defScope s__law_dice) := ⟨rfl, rfl, rfl, by decide +kernel, rfl, by decide +kernel, by decide +kernel⟩
abbrev s__law_off : Stmt := top 5
theorem sc__law_off : FnScope ["_law_d", "_law_most", "_law_found", "_law_more"] ["_law_d", "_law_most"] (defScope s__law_off) := ⟨rfl, rfl, rfl, by decide +kernel, rfl, by decide +kernel, by decide +kernel⟩
section
variable {e : Ev} (B : Bl e)
include B
theorem ok_cell (A__law_cell : At e "_law_cell" ["_law_script", "_law_k"] s__law_cell) : Has e 1 "_law_cell" ["_law_script", "_law_k"] (spCell e.K) := by
  refine A__law_cell.ok sc__law_cell (fun vs H Q E h => ?_) (fun f cdv A outer s H vs Q E hr h => ?_)
  · obtain ⟨a, ns, k, rfl, _⟩ := h
    rfl
  obtain ⟨a, ns, k, rfl, hS, h0, q⟩ := h
  have nd := sc__law_cell.nd
  refine ⟨_, pss_cons (ps_if (pt_cmpR op_lt (pv 1) (pe_b call_lenL B.len (pa_cons (pv 0) pa_nil)) (nomark _))
      (pss_one (ps_ret (pe_ix ix_list (pv 0) (pv 1) (fun _ _ => rfl))))
      (pss_nil))
    (pss_one (ps_ret pe_int)), ?_⟩
  refine ⟨_, rfl, _, rfl, a, _, rfl, hS.sq, _, _, rfl, rfl, _, rfl, ?_⟩
  have hl : (ns.map V.int).length = ns.length := List.length_map _
  refine ite2 (fun c => ?_) (fun c => ?_)
  · have c' : k < ((ns.map V.int).length : Int) := of_decide_eq_true c
    rw [hl] at c'
    have hk : k.toNat < ns.length := by omega
    refine ⟨_, rfl, _, rfl, a, _, _, .int (ns[k.toNat]), rfl, rfl, hS.sq, at_of (j := k.toNat) (by omega) ?_, ?_⟩
    · rw [List.getElem?_map, List.getElem?_eq_getElem hk]; rfl
    · have e2 : cellV ns k = ns[k.toNat] := by
        unfold cellV
        rw [if_pos c', List.getD_eq_getElem?_getD, List.getElem?_eq_getElem hk]
        rfl
      rw [← e2]
      exact q
  · have c' : ¬ k < ((ns.map V.int).length : Int) := of_decide_eq_false (Bool.eq_false_iff.mpr c)
    rw [hl] at c'
    have e2 : cellV ns k = 0 := by unfold cellV; rw [if_neg c']
    rw [e2] at q
    exact q
theorem ok_dice (A__law_dice : At e "_law_dice" ["_law_script", "_law_k"] s__law_dice) (h__law_cell : Has e 1 "_law_cell" ["_law_script", "_law_k"] (spCell e.K)) : Has e 2 "_law_dice" ["_law_script", "_law_k"] (spDice e.K) := by
  refine A__law_dice.ok sc__law_dice (fun vs H Q E h => ?_) (fun f cdv A outer s H vs Q E hr h => ?_)
  · obtain ⟨a, ns, k, rfl, _⟩ := h
    rfl
  obtain ⟨a, ns, k, rfl, hS, h63, h0, q⟩ := h
  have nd := sc__law_dice.nd
  refine ⟨_, pss_cons (ps_st 2 nd (pe_b call_abs B.abs (pa_cons (pe_callH h__law_cell hr (pa_cons (pv 0) (pa_cons (pv 1) pa_nil))) pa_nil)))
    (pss_one (ps_ret (pe_lst (pa_cons (pe_op op_mod (pv 2) pe_int) (pa_cons (pv 0) (pa_cons (pe_op op_add (pv 1) pe_int) (pa_cons (pe_op op_mul (pe_ty call_int1 B.int (pa_cons (pe_cmpR op_ge (pv 2) (pe_op op_pow pe_int pe_int) (nomark _)) pa_nil)) (pv 2)) pa_nil))))))), ?_⟩
  refine ⟨_, rfl, _, rfl, a, ns, k, rfl, hS, h0, _, rfl, ?_⟩
  have hz : 0 ≤ (if cellV ns k < 0 then -cellV ns k else cellV ns k) := by split <;> omega
  generalize (if cellV ns k < 0 then -cellV ns k else cellV ns k) = z at hz
  refine ⟨_, rfl, _, _, rfl, rfl, (by show (0 : Int) < 2147483647; decide), _, rfl, _, rfl, _, _, rfl, rfl, _, rfl, _, _, rfl, rfl, ⟨by decide, by decide, by decide⟩, _, _, rfl, rfl, .inr ⟨_, rfl, ?_⟩⟩
  refine ⟨_, rfl, _, _, rfl, rfl, ?_, by show 4 ≤ sizeLine; decide, fun p hp => ?_⟩
  · refine .inl ?_
    split <;> exact ⟨by decide, by decide⟩
  · refine q p _ hp (same_new hp _) ⟨a, ns, _, _, _, upd_same, hS.mono (TX.new hp), h63, Int.emod_nonneg _ (by decide), by omega, ?_⟩
    split
    · simpa using hz
    · simp
theorem ok_off (A__law_off : At e "_law_off" ["_law_d", "_law_most"] s__law_off) (h__law_cell : Has e 1 "_law_cell" ["_law_script", "_law_k"] (spCell e.K)) : Has e 2 "_law_off" ["_law_d", "_law_most"] (spOff e.K) := by
  refine A__law_off.ok sc__law_off (fun vs H Q E h => ?_) (fun f cdv A outer s H vs Q E hr h => ?_)
  · obtain ⟨d, m, rfl, _⟩ := h
    rfl
  obtain ⟨d, m, rfl, ⟨a, ns, x, j, g, hd, hS, h63, hx, hj, hg⟩, hm, hm2, q⟩ := h
  have nd := sc__law_off.nd
  refine ⟨_, pss_cons (ps_if (pt_cmpR op_gt (pe_ix ix_list (pv 0) pe_int (fun _ _ => rfl)) pe_int (nomark _))
      (pss_cons (ps_st 2 nd (pe_op op_mod (pe_ix ix_list (pv 0) pe_int (fun _ _ => rfl)) (pv 1)))
      (pss_cons (ps_asg (pe_op op_fdiv (pe_ix ix_list (pv 0) pe_int (fun _ _ => rfl)) (pv 1)) (pg_sub (pv 0) pe_int set_list))
      (pss_one (ps_ret (pv 2)))))
      (pss_nil))
    (pss_cons (ps_st 3 nd (pe_b call_abs B.abs (pa_cons (pe_callH h__law_cell hr (pa_cons (pe_ix ix_list (pv 0) pe_int (fun _ _ => rfl)) (pa_cons (pe_op op_mod (pe_ix ix_list (pv 0) pe_int (fun _ _ => rfl)) (pe_b (call_max2 rfl) B.max (pa_cons pe_int (pa_cons (pe_b call_lenL B.len (pa_cons (pe_ix ix_list (pv 0) pe_int (fun _ _ => rfl)) pa_nil)) pa_nil)))) pa_nil))) pa_nil)))
    (pss_cons (ps_asg (pe_op op_add (pe_ix ix_list (pv 0) pe_int (fun _ _ => rfl)) pe_int) (pg_sub (pv 0) pe_int set_list))
    (pss_cons (ps_asg (pe_op op_mod (pe_op op_add (pe_op op_add (pe_op op_mul (pe_ix ix_list (pv 0) pe_int (fun _ _ => rfl)) pe_int) pe_int) (pv 3)) pe_int) (pg_sub (pv 0) pe_int set_list))
    (pss_one (ps_ret (pe_op op_mod (pe_op op_fdiv (pe_ix ix_list (pv 0) pe_int (fun _ _ => rfl)) pe_int) (pv 1))))))), ?_⟩
  have i0 : ∀ (x j g : Int), atI [V.int x, .ref a, .int j, .int g] 0 = some (.int x) := fun _ _ _ => rfl
  have i1 : ∀ (x j g : Int), atI [V.int x, .ref a, .int j, .int g] 1 = some (.ref a) := fun _ _ _ => rfl
  have i2 : ∀ (x j g : Int), atI [V.int x, .ref a, .int j, .int g] 2 = some (.int j) := fun _ _ _ => rfl
  have i3 : ∀ (x j g : Int), atI [V.int x, .ref a, .int j, .int g] 3 = some (.int g) := fun _ _ _ => rfl
  refine ⟨_, rfl, d, _, _, _, rfl, rfl, SqL.of hd, i3 _ _ _, _, _, rfl, rfl, _, rfl, ?_⟩
  refine ite2 (fun c => ?_) (fun c => ?_)
  · refine ⟨_, rfl, d, _, _, _, rfl, rfl, SqL.of hd, i3 _ _ _, _, rfl, _, _, rfl, rfl, hm, ?_⟩
    refine ⟨_, rfl, d, _, _, _, rfl, rfl, SqL.of hd, i3 _ _ _, _, rfl, _, _, rfl, rfl, ⟨hm, by omega⟩, ?_⟩
    refine ⟨_, rfl, d, _, _, 3, rfl, rfl, hd, rfl, _, rfl, ?_⟩
    refine q _ _ (Int.emod_nonneg _ (by omega)) (Int.emod_lt_of_pos _ hm) (But.put _ _) ⟨a, ns, _, _, _, upd_same, hS.mono (TX.lst hd), h63, hx, hj, Int.ediv_nonneg hg (by omega)⟩
  · refine ⟨_, rfl, d, _, _, _, rfl, rfl, SqL.of hd, i1 _ _ _, _, rfl, d, _, _, _, rfl, rfl, SqL.of hd, i2 _ _ _, _, rfl, d, _, _, _, rfl, rfl, SqL.of hd, i1 _ _ _, a, _, rfl, hS.sq, _, _, rfl, ?_⟩
    have hl : (ns.map V.int).length = ns.length := List.length_map _
    have hM : 0 < (if (((ns.map V.int).length : Nat) : Int) > 1 then (((ns.map V.int).length : Nat) : Int) else 1) := by split <;> omega
    generalize (if (((ns.map V.int).length : Nat) : Int) > 1 then (((ns.map V.int).length : Nat) : Int) else 1) = M at hM
    refine ⟨_, _, rfl, rfl, hM, a, ns, _, rfl, hS, Int.emod_nonneg _ (by omega), _, rfl, ?_⟩
    have hz : 0 ≤ (if cellV ns (j % M) < 0 then -cellV ns (j % M) else cellV ns (j % M)) := by split <;> omega
    generalize (if cellV ns (j % M) < 0 then -cellV ns (j % M) else cellV ns (j % M)) = z at hz
    refine ⟨_, rfl, d, _, _, _, rfl, rfl, SqL.of hd, i2 _ _ _, _, _, rfl, rfl, _, rfl, d, _, _, 2, rfl, rfl, hd, rfl, ?_⟩
    refine ⟨_, rfl, d, _, _, _, rfl, rfl, SqL.of upd_same, i0 _ _ _, _, _, rfl, rfl, .inr ⟨by decide, by decide⟩, _, _, rfl, rfl, _, rfl, _, _, rfl, rfl, _, _, rfl, rfl, (by show (0 : Int) < 2147483647; decide), _, rfl, d, _, _, 0, rfl, rfl, upd_same, rfl, ?_⟩
    refine ⟨_, rfl, d, _, _, _, rfl, rfl, SqL.of upd_same, i0 _ _ _, _, _, rfl, rfl, ⟨by decide, by decide⟩, _, rfl, _, _, rfl, rfl, hm, ?_⟩
    rw [upd_upd]
    refine q _ _ (Int.emod_nonneg _ (by omega)) (Int.emod_lt_of_pos _ hm) (But.put _ _) ⟨a, ns, _, _, _, upd_same, hS.mono (TX.lst hd), h63, Int.emod_nonneg _ (by decide), by omega, hg⟩
end

/-- the works that a law draws: five names with their counts of parts -/
def WorksD (ds : List Da) : Prop := ∃ n0 n1 n2 n3 n4 m, ds = [.tup [.str n0, .int 0], .tup [.str n1, .int 0], .tup [.str n2, .int 0], .tup [.str n3, .int 1], .tup [.str n4, .int m]] ∧
  goodName n0 ∧ goodName n1 ∧ goodName n2 ∧ goodName n3 ∧ goodName n4 ∧ (m = 2 ∨ m = 3)
def spWorks (K : PySem.W.Frag) : Sp := fun vs H Q _ => ∃ (d : Addr), vs = [.ref d] ∧ DiceAt K H d ∧ ∀ l ds H', H l = none → But d H H' → DiceAt K H' d → LD H' l ds → WorksD ds → Q (.ref l) H'
theorem m_cps {n : Int} (h : 0 ≤ n) : (Txt.mul ("m" : Str) n).cps.toList = List.replicate n.toNat 109 := by
  have e : ("m" : Str).cps.toList = [109] := by decide +kernel
  rw [mul_cps h, e, flat_rep]
theorem name_made {a b : Int} {c : Nat} (h0 : 0 ≤ a) (h1 : 0 ≤ b) (h2 : a + b ≤ 5) (hc : 97 ≤ c ∧ c ≤ 122) : goodName (Txt.mul ("m" : Str) a ++ ⟨#[c]⟩ ++ Txt.mul ("m" : Str) b) := by
  have e : (Txt.mul ("m" : Str) a ++ ⟨#[c]⟩ ++ Txt.mul ("m" : Str) b).cps.toList = List.replicate a.toNat 109 ++ [c] ++ List.replicate b.toNat 109 := by
    rw [app_cps, app_cps, m_cps h0, m_cps h1]
  unfold goodName
  rw [len_cps, e]
  simp only [List.length_append, List.length_replicate, List.length_singleton]
  refine ⟨by omega, by omega, fun x hx => ?_⟩
  simp only [List.mem_append, List.mem_replicate, List.mem_singleton] at hx
  omega
theorem m_len {a : Int} (h0 : 0 ≤ a) (h1 : a ≤ 100) : (Txt.mul ("m" : Str) a).length ≤ 100 := by
  rw [len_cps, m_cps h0, List.length_replicate]
  omega
theorem five {α : Type} {l : List α} (h : l.length = 5) : ∃ a b c d e, l = [a, b, c, d, e] := by
  match l, h with
  | [a, b, c, d, e], _ => exact ⟨a, b, c, d, e, rfl⟩
theorem below3 {n : Int} (h0 : 0 ≤ n) (h1 : n < 3) : n = 0 ∨ n = 1 ∨ n = 2 := by omega
abbrev s__law_works : Stmt := top 6
theorem sc__law_works : FnScope ["_law_d", "_law_size", "_law_at", "_law_turn", "_law_names", "_law_k", "_law_sign", "_law_shared", "_law_one", "_law_many"] ["_law_d"] (defScope s__law_works) := ⟨rfl, rfl, rfl, by decide +kernel, rfl, by decide +kernel, by decide +kernel⟩
section
variable {e : Ev} (B : Bl e)
include B
theorem ok_works (A__law_works : At e "_law_works" ["_law_d"] s__law_works) (h__law_off : Has e 2 "_law_off" ["_law_d", "_law_most"] (spOff e.K)) : Has e 3 "_law_works" ["_law_d"] (spWorks e.K) := by
  refine A__law_works.ok sc__law_works (fun vs H Q E h => ?_) (fun f cdv A outer s H vs Q E hr h => ?_)
  · obtain ⟨d, rfl, _⟩ := h
    rfl
  obtain ⟨d, rfl, hD, q⟩ := h
  have nd := sc__law_works.nd
  refine ⟨_, pss_cons (ps_st 1 nd (pe_op op_add pe_int (pe_callH h__law_off hr (pa_cons (pv 0) (pa_cons pe_int pa_nil)))))
    (pss_cons (ps_st 2 nd (pe_callH h__law_off hr (pa_cons (pv 0) (pa_cons (pv 1) pa_nil))))
    (pss_cons (ps_st 3 nd (pe_callH h__law_off hr (pa_cons (pv 0) (pa_cons pe_int pa_nil))))
    (pss_cons (ps_st 4 nd (pe_lst pa_nil))
    (pss_cons (ps_for PassesOwn.never rfl (pi_range1 (by rfl) B.range (pa_cons pe_int pa_nil)) (pg_nm 5 nd)
      (pss_cons (ps_st 6 nd (pe_ix ix_str pe_str (pe_op op_mod (pe_op op_add (pv 3) (pe_op op_mul pe_int (pv 5))) pe_int) (fun _ _ => rfl)))
      (pss_one (ps_expr (pe_app (pv 4) (pa_cons (pe_op op_add_str (pe_op op_add_str (pe_op op_mulS pe_str (pv 2)) (pv 6)) (pe_op op_mulS pe_str (pe_op op_sub (pe_op op_sub (pv 1) (pv 2)) pe_int))) pa_nil))))))
    (pss_cons (ps_st 7 nd (pe_callH h__law_off hr (pa_cons (pv 0) (pa_cons pe_int pa_nil))))
    (pss_cons (ps_st 8 nd (pe_ix ix_list (pv 4) (pe_ix ix_list (pe_lst (pa_cons pe_int (pa_cons pe_int (pa_cons pe_int pa_nil)))) (pv 7) (fun _ _ => rfl)) (fun _ _ => rfl)))
    (pss_cons (ps_st 9 nd (pe_ix ix_list (pe_lst (pa_cons pe_int (pa_cons pe_int (pa_cons pe_int pa_nil)))) (pe_callH h__law_off hr (pa_cons (pv 0) (pa_cons pe_int pa_nil))) (fun _ _ => rfl)))
    (pss_one (ps_ret (pe_lst (pa_cons (pe_tup (pa_cons (pe_ix ix_list (pv 4) pe_int (fun _ _ => rfl)) (pa_cons pe_int pa_nil))) (pa_cons (pe_tup (pa_cons (pe_ix ix_list (pv 4) pe_int (fun _ _ => rfl)) (pa_cons pe_int pa_nil))) (pa_cons (pe_tup (pa_cons (pe_ix ix_list (pv 4) pe_int (fun _ _ => rfl)) (pa_cons pe_int pa_nil))) (pa_cons (pe_tup (pa_cons (pv 8) (pa_cons pe_int pa_nil))) (pa_cons (pe_tup (pa_cons (pe_ix ix_list (pe_lst (pa_cons (pe_ix ix_list (pv 4) pe_int (fun _ _ => rfl)) (pa_cons (pe_ix ix_list (pv 4) pe_int (fun _ _ => rfl)) (pa_cons (pv 8) pa_nil)))) (pv 7) (fun _ _ => rfl)) (pa_cons (pv 9) pa_nil))) pa_nil))))))))))))))), ?_⟩
  refine ⟨_, rfl, d, 6, rfl, hD, by decide, by decide, fun n1 H1 a1 b1 t1 D1 => ⟨_, _, rfl, rfl, ?_⟩⟩
  refine ⟨_, rfl, _, rfl, d, 1 + n1, rfl, D1, by omega, by omega, fun n2 H2 a2 b2 t2 D2 => ?_⟩
  refine ⟨_, rfl, d, 26, rfl, D2, by decide, by decide, fun n3 H3 a3 b3 t3 D3 => ?_⟩
  refine ⟨by show 0 ≤ sizeLine; decide, fun p hp => ?_⟩
  have T3 := (t1.trans t2).trans t3
  refine ⟨5, rfl, by decide, by decide, for_range (n := 5) (fun i σ H' => ∃ (ns : List Str) (u v : Option V), σ = [some (.ref d), some (.int (1 + n1)), some (.int n2), some (.int n3), some (.ref p), u, v, none, none, none] ∧ H' = upd H3 p (.lst (ns.map V.str)) ∧ ns.length = i ∧ ∀ z ∈ ns, goodName z)
    ⟨[], none, none, rfl, rfl, rfl, by simp⟩ ?_ ?_⟩
  · rintro i σ H' hi ⟨ns, u, v, rfl, rfl, hl, hg⟩
    obtain ⟨c, hc, hc2⟩ := abc_at (i := (n3 + 5 * (0 + (i : Int))) % 26) (Int.emod_nonneg _ (by decide)) (Int.emod_lt_of_pos _ (by decide))
    refine ⟨_, rfl, _, rfl, _, _, rfl, rfl, .inl ⟨by decide, by decide⟩, _, _, rfl, rfl, _, _, rfl, rfl, (by show (0 : Int) < 26; decide), _, _, c, rfl, rfl, by decide +kernel, hc, ?_⟩
    refine ⟨_, rfl, .inl ⟨rfl, _, SqL.of upd_same⟩, _, rfl, _, _, rfl, rfl, by decide +kernel, by omega, by omega, ?_⟩
    have l1 := m_len (a := n2) (by omega) (by omega)
    have l2 := m_len (a := 1 + n1 - n2 - 1) (by omega) (by omega)
    have l3 : (Txt.mul ("m" : Str) n2 ++ ⟨#[c]⟩).length ≤ 101 := by
      rw [len_cps, app_cps, List.length_append, ← len_cps]
      simp only [List.length_singleton]
      omega
    have hs := sizeLine_eq
    refine ⟨_, rfl, _, _, rfl, rfl, ?_, _, rfl, _, rfl, _, _, rfl, rfl, _, _, rfl, rfl, _, _, rfl, rfl, by decide +kernel, by omega, by omega, _, _, rfl, rfl, ?_, p, _, _, rfl, rfl, upd_same, ?_, ?_⟩
    · show (Txt.mul ("m" : Str) n2).length + 1 ≤ sizeLine
      omega
    · omega
    · rw [List.length_map]
      omega
    · refine ⟨ns ++ [_], _, _, rfl, by rw [upd_upd, List.map_append]; rfl, by rw [List.length_append, hl]; rfl, fun z hz => ?_⟩
      rcases List.mem_append.mp hz with hz | hz
      · exact hg z hz
      · rw [List.mem_singleton.mp hz]
        exact name_made (by omega) (by omega) (by omega) hc2
  · rintro σ H' ⟨ns, u, v, rfl, rfl, hl, hg⟩
    obtain ⟨m0, m1, m2, m3, m4, rfl⟩ := five hl
    simp only [List.mem_cons, List.not_mem_nil, or_false, forall_eq_or_imp, forall_eq] at hg
    obtain ⟨g0, g1, g2, g3, g4⟩ := hg
    obtain ⟨ys, hd3⟩ := D3.lst
    have D4 : DiceAt e.K (upd H3 p (.lst ([m0, m1, m2, m3, m4].map V.str))) d := D3.same (same_new hp _)
    refine ⟨_, rfl, d, 3, rfl, D4, by decide, by decide, fun n5 H5 a5 b5 t5 D5 => ?_⟩
    have npd : p ≠ d := (ne_of_none hd3 hp).symm
    have h5 : H5 p = some (.lst ([m0, m1, m2, m3, m4].map V.str)) := t5 _ _ npd upd_same
    have S5 : But d H H5 := T3.trans ((But.of (same_new hp _)).trans t5)
    -- names[[3, 0, 3][shared]]
    have e1 : ∃ w z, atI [V.int 3, .int 0, .int 3] n5 = some (.int w) ∧ atI ([m0, m1, m2, m3, m4].map V.str) w = some (.str z) ∧ goodName z := by
      rcases below3 a5 b5 with rfl | rfl | rfl
      · exact ⟨3, m3, rfl, rfl, g3⟩
      · exact ⟨0, m0, rfl, rfl, g0⟩
      · exact ⟨3, m3, rfl, rfl, g3⟩
    obtain ⟨w, z, e2, e3, gz⟩ := e1
    refine ⟨_, rfl, by show 3 ≤ sizeLine; decide, fun q1 hq1 => ⟨_, rfl, q1, _, _, _, rfl, rfl, SqL.of upd_same, e2, p, _, _, _, rfl, rfl, SqL.of (upd_keep h5 hq1), e3, ?_⟩⟩
    have D6 := D5.same (same_new hq1 (.lst [V.int 3, .int 0, .int 3]))
    have h6 := upd_keep (o := .lst [V.int 3, .int 0, .int 3]) h5 hq1
    have S6 := S5.trans (But.of (same_new hq1 (.lst [V.int 3, .int 0, .int 3])))
    generalize upd H5 q1 (.lst [V.int 3, .int 0, .int 3]) = H6 at D6 h6 S6
    refine ⟨by show 3 ≤ sizeLine; decide, fun q2 hq2 => ?_⟩
    have D7 := D6.same (same_new hq2 (.lst [V.int 2, .int 2, .int 3]))
    have h7 := upd_keep (o := .lst [V.int 2, .int 2, .int 3]) h6 hq2
    have S7 := S6.trans (But.of (same_new hq2 (.lst [V.int 2, .int 2, .int 3])))
    have l7 : upd H6 q2 (.lst [V.int 2, .int 2, .int 3]) q2 = some (.lst [V.int 2, .int 2, .int 3]) := upd_same
    generalize upd H6 q2 (.lst [V.int 2, .int 2, .int 3]) = H7 at D7 h7 S7 l7
    refine ⟨_, rfl, d, 3, rfl, D7, by decide, by decide, fun n8 H8 a8 b8 t8 D8 => ?_⟩
    obtain ⟨ys7, hd7⟩ := D7.lst
    have nq2 : q2 ≠ d := fun z => by
      obtain ⟨_, hd6⟩ := D6.lst
      rw [z, hd6] at hq2
      cases hq2
    have h8 := t8 _ _ npd h7
    have l8 := t8 _ _ nq2 l7
    have S8 := S7.trans t8
    have e4 : ∃ m, atI [V.int 2, .int 2, .int 3] n8 = some (.int m) ∧ (m = 2 ∨ m = 3) := by
      rcases below3 a8 b8 with rfl | rfl | rfl
      · exact ⟨2, rfl, .inl rfl⟩
      · exact ⟨2, rfl, .inl rfl⟩
      · exact ⟨3, rfl, .inr rfl⟩
    obtain ⟨m, e5, hm⟩ := e4
    refine ⟨q2, _, _, _, rfl, rfl, SqL.of l8, e5, ?_⟩
    -- the five pairs
    have e6 : ∃ z4, atI [V.str m4, .str m4, .str z] n5 = some (.str z4) ∧ goodName z4 := by
      rcases below3 a5 b5 with rfl | rfl | rfl
      · exact ⟨m4, rfl, g4⟩
      · exact ⟨m4, rfl, g4⟩
      · exact ⟨z, rfl, gz⟩
    obtain ⟨z4, e7, gz4⟩ := e6
    refine ⟨_, rfl, p, _, _, _, rfl, rfl, SqL.of h8, rfl, by show 2 ≤ sizeLine; decide, fun r0 k0 => ?_⟩
    have h9 := upd_keep (o := .tup [V.str m0, .int 0]) h8 k0
    have w0 : upd H8 r0 (.tup [V.str m0, .int 0]) r0 = some (.tup [V.str m0, .int 0]) := upd_same
    have S9 := S8.trans (But.of (same_new k0 (.tup [V.str m0, .int 0])))
    have D9 := D8.same (same_new k0 (.tup [V.str m0, .int 0]))
    refine ⟨_, rfl, p, _, _, _, rfl, rfl, SqL.of h9, rfl, by show 2 ≤ sizeLine; decide, fun r1 k1 => ?_⟩
    generalize upd H8 r0 (.tup [V.str m0, .int 0]) = H9 at h9 w0 S9 D9 k1
    have h10 := upd_keep (o := .tup [V.str m1, .int 0]) h9 k1
    have w1 : upd H9 r1 (.tup [V.str m1, .int 0]) r1 = some (.tup [V.str m1, .int 0]) := upd_same
    have w10 := upd_keep (o := .tup [V.str m1, .int 0]) w0 k1
    have S10 := S9.trans (But.of (same_new k1 (.tup [V.str m1, .int 0])))
    have D10 := D9.same (same_new k1 (.tup [V.str m1, .int 0]))
    refine ⟨_, rfl, p, _, _, _, rfl, rfl, SqL.of h10, rfl, by show 2 ≤ sizeLine; decide, fun r2 k2 => ?_⟩
    generalize upd H9 r1 (.tup [V.str m1, .int 0]) = H10 at h10 w1 w10 S10 D10 k2
    have w2 : upd H10 r2 (.tup [V.str m2, .int 0]) r2 = some (.tup [V.str m2, .int 0]) := upd_same
    have w20 := upd_keep (o := .tup [V.str m2, .int 0]) w10 k2
    have w21 := upd_keep (o := .tup [V.str m2, .int 0]) w1 k2
    have h11 := upd_keep (o := .tup [V.str m2, .int 0]) h10 k2
    have S11 := S10.trans (But.of (same_new k2 (.tup [V.str m2, .int 0])))
    have D11 := D10.same (same_new k2 (.tup [V.str m2, .int 0]))
    refine ⟨_, rfl, by show 2 ≤ sizeLine; decide, fun r3 k3 => ?_⟩
    generalize upd H10 r2 (.tup [V.str m2, .int 0]) = H11 at h11 w2 w20 w21 S11 D11 k3
    have w3 : upd H11 r3 (.tup [V.str z, .int 1]) r3 = some (.tup [V.str z, .int 1]) := upd_same
    have w30 := upd_keep (o := .tup [V.str z, .int 1]) w20 k3
    have w31 := upd_keep (o := .tup [V.str z, .int 1]) w21 k3
    have w32 := upd_keep (o := .tup [V.str z, .int 1]) w2 k3
    have h12 := upd_keep (o := .tup [V.str z, .int 1]) h11 k3
    have S12 := S11.trans (But.of (same_new k3 (.tup [V.str z, .int 1])))
    have D12 := D11.same (same_new k3 (.tup [V.str z, .int 1]))
    refine ⟨_, rfl, p, _, _, _, rfl, rfl, SqL.of h12, rfl, _, rfl, p, _, _, _, rfl, rfl, SqL.of h12, rfl, _, rfl, by show 3 ≤ sizeLine; decide, fun q3 k4 => ?_⟩
    generalize upd H11 r3 (.tup [V.str z, .int 1]) = H12 at h12 w3 w30 w31 w32 S12 D12 k4
    refine ⟨_, rfl, q3, _, _, _, rfl, rfl, SqL.of upd_same, e7, _, rfl, by show 2 ≤ sizeLine; decide, fun r4 k5 => ?_⟩
    have X13 : Same H12 (upd H12 q3 (.lst [V.str m4, .str m4, .str z])) := same_new k4 _
    generalize upd H12 q3 (.lst [V.str m4, .str m4, .str z]) = H13 at X13 k5
    have X14 := X13.trans (same_new k5 (.tup [V.str z4, .int m]))
    have w4 : upd H13 r4 (.tup [V.str z4, .int m]) r4 = some (.tup [V.str z4, .int m]) := upd_same
    generalize upd H13 r4 (.tup [V.str z4, .int m]) = H14 at X14 w4
    refine ⟨by show 5 ≤ sizeLine; decide, fun l hl2 => ?_⟩
    have X15 := same_new hl2 (.lst [V.ref r0, .ref r1, .ref r2, .ref r3, .ref r4])
    have X := X14.trans X15
    have pr : ∀ {H : Hp} {r : Addr} {x : Str} {i : Int}, H r = some (.tup [V.str x, .int i]) → DaAt H (.ref r) (.tup [.str x, .int i]) := fun h => .tup h (.cons .str (.one .int))
    refine q l [.tup [.str m0, .int 0], .tup [.str m1, .int 0], .tup [.str m2, .int 0], .tup [.str z, .int 1], .tup [.str z4, .int m]] _ ?_ (S12.trans (But.of X)) (D12.same X) ⟨_, upd_same, ?_⟩ ⟨m0, m1, m2, z, z4, m, rfl, g0, g1, g2, gz, gz4, hm⟩
    · cases hq : H l with
      | none => rfl
      | some o =>
        by_cases hld : l = d
        · obtain ⟨_, k6⟩ := (D12.same X14).lst
          rw [hld, k6] at hl2
          cases hl2
        · have := X14 _ _ (S12 _ _ hld hq)
          rw [this] at hl2
          cases hl2
    · exact .cons (pr (X _ _ w30)) (.cons (pr (X _ _ w31)) (.cons (pr (X _ _ w32)) (.cons (pr (X _ _ w3)) (.one (pr (X15 _ _ w4))))))
end

/-- a drawn term -/
def spTerm (K : PySem.W.Frag) (n : Nat) : Sp := fun vs H Q _ => ∃ (d l : Addr) (ds : List Da) (deep : Int), vs = [.ref d, .ref l, .int deep] ∧ DiceAt K H d ∧ LD H l ds ∧ WorksD ds ∧ 0 ≤ deep ∧ deep < n ∧
  ∀ (v : V) (t : Tm) H', But d H H' → DiceAt K H' d → DaAt H' v t.da → t.good → (t.depth : Int) ≤ deep + 1 → (deep = 0 → t.count = 1) → (t.count + 1 ≤ 5 * 2 ^ deep.toNat) → Q v H'
theorem works_ne {K : PySem.W.Frag} {H : Hp} {d l : Addr} {ds : List Da} (h : DiceAt K H d) (hl : LD H l ds) (hw : WorksD ds) : l ≠ d := by
  obtain ⟨_, _, _, _, _, h1, _⟩ := h
  obtain ⟨vs, h2, h3⟩ := hl
  obtain ⟨_, _, _, _, _, _, rfl, _⟩ := hw
  obtain ⟨v, r, rfl, h4, _⟩ := h3.cons_inv
  obtain ⟨a, _, rfl, _, _⟩ := h4.tup_inv
  intro z
  subst z
  rw [h1] at h2
  have := Option.some.inj h2
  simp at this
theorem LD.but {K : PySem.W.Frag} {H H' : Hp} {d l : Addr} {ds : List Da} (b : But d H H') (h : DiceAt K H d) (n : l ≠ d) (hl : LD H l ds) : LD H' l ds := by
  obtain ⟨vs, h2, h3⟩ := hl
  exact ⟨vs, b _ _ n h2, h3.mono (b.tx h)⟩
theorem works_at {ds : List Da} (hw : WorksD ds) {i : Int} (h0 : 0 ≤ i) (h1 : i < 5) : ∃ nm m, atI ds i = some (.tup [.str nm, .int m]) ∧ goodName nm ∧ (i < 3 → m = 0) ∧ 0 ≤ m ∧ m ≤ 3 := by
  obtain ⟨n0, n1, n2, n3, n4, m, rfl, g0, g1, g2, g3, g4, hm⟩ := hw
  have : i = 0 ∨ i = 1 ∨ i = 2 ∨ i = 3 ∨ i = 4 := by omega
  rcases this with rfl | rfl | rfl | rfl | rfl
  · exact ⟨n0, 0, rfl, g0, fun _ => rfl, by omega, by omega⟩
  · exact ⟨n1, 0, rfl, g1, fun _ => rfl, by omega, by omega⟩
  · exact ⟨n2, 0, rfl, g2, fun _ => rfl, by omega, by omega⟩
  · exact ⟨n3, 1, rfl, g3, fun h => absurd h (by omega), by omega, by omega⟩
  · exact ⟨n4, m, rfl, g4, fun h => absurd h (by omega), by omega, by omega⟩
theorem Tm.counts_le {B : Nat} : ∀ {l : List Tm}, (∀ t ∈ l, t.count ≤ B) → Tm.counts l ≤ l.length * B
  | [], _ => by simp [Tm.counts]
  | t :: r, h => by
    have h1 := h t (by simp)
    have h2 := Tm.counts_le (l := r) fun x hx => h x (by simp [hx])
    simp only [Tm.counts, List.length_cons, Nat.add_mul, Nat.one_mul]
    omega
abbrev s__law_term : Stmt := top 7
theorem sc__law_term : FnScope ["_law_d", "_law_works_here", "_law_deep", "_law_name", "_law_many", "_law_k"] ["_law_d", "_law_works_here", "_law_deep"] (defScope s__law_term) := ⟨rfl, rfl, rfl, by decide +kernel, rfl, by decide +kernel, by decide +kernel⟩
section
variable {e : Ev} (B : Bl e)
include B
theorem ok_term (A__law_term : At e "_law_term" ["_law_d", "_law_works_here", "_law_deep"] s__law_term) (h__law_off : Has e 2 "_law_off" ["_law_d", "_law_most"] (spOff e.K)) : ∀ n : Nat, Has e (n + 2) "_law_term" ["_law_d", "_law_works_here", "_law_deep"] (spTerm e.K n)
  | 0 => (A__law_term.zero (fun vs H Q E h => by obtain ⟨_, _, _, _, _, _, _, _, h0, h1, _⟩ := h; omega)).mono (by omega)
  | n + 1 => by
    have h__law_term := ok_term A__law_term h__law_off n
    refine A__law_term.ok sc__law_term (fun vs H Q E h => ?_) (fun f cdv A outer s H vs Q E hr h => ?_)
    · obtain ⟨d, l, ds, deep, rfl, _⟩ := h
      rfl
    obtain ⟨d, l, ds, deep, rfl, hD, hL, hW, h0, h1, q⟩ := h
    have nd := sc__law_term.nd
    have hls := sizeLine_eq
    refine ⟨_, pss_cons (ps_asg (pe_ix ix_listD (pv 1) (pe_callH h__law_off hr (pa_cons (pv 0) (pa_cons (pe_ix ix_list (pe_lst (pa_cons pe_int (pa_cons pe_int pa_nil))) (pe_ty call_int1 B.int (pa_cons (pe_cmpR op_gt (pv 2) pe_int (nomark _)) pa_nil)) (fun _ _ => rfl)) pa_nil))) (fun _ _ => rfl)) (pg_tup (by rfl) (pgs_cons (pg_nm 3 nd) (pgs_cons (pg_nm 4 nd) pgs_nil))))
    (pss_cons (ps_cut (ps_if (pt_cmpR op_eq (pv 4) pe_int (nomark _))
      (pss_one (ps_st 2 nd pe_int))
      (pss_nil)))
    (pss_one (ps_ret (pe_op op_catD (pe_tup (pa_cons (pv 3) pa_nil)) (pe_ty call_tupL B.tuple (pa_cons (pe_lc (own := [("_law_k", 5)]) (by rfl) nd (pi_range1 (by rfl) B.range (pa_cons (pv 4) pa_nil)) (blkOk_by (N := ["_law_d", "_law_works_here", "_law_deep", "_law_name", "_law_many", "_law_k"]) (sc := defScope s__law_term) (by decide +kernel)) (fun _ _ _ _ _ => pg_nm 5 nd) (fun _ _ _ _ _ => pts_nil) (fun _ _ _ _ _ => pe_callH h__law_term hr (pa_cons (pv 0) (pa_cons (pv 1) (pa_cons (pe_op op_sub (pv 2) pe_int) pa_nil))))) pa_nil)))))), ?_⟩
    have ndl := works_ne hD hL hW
    -- the name and how many parts
    have e1 : ∃ k, atI [V.int 3, .int 5] (if decide (deep > 0) = true then 1 else 0) = some (.int k) ∧ 0 < k ∧ k ≤ 5 ∧ (deep = 0 → k = 3) := by
      by_cases c : deep > 0
      · rw [decide_eq_true c]
        exact ⟨5, rfl, by omega, by omega, fun z => by omega⟩
      · rw [decide_eq_false c]
        exact ⟨3, rfl, by omega, by omega, fun _ => rfl⟩
    obtain ⟨k, e2, k0, k5, k3⟩ := e1
    refine ⟨_, rfl, _, rfl, by show 2 ≤ sizeLine; decide, fun p hp => ⟨_, rfl, _, _, rfl, rfl, .inr ⟨_, rfl, ?_⟩⟩⟩
    have S1 := same_new hp (.lst [V.int 3, .int 5])
    refine ⟨p, _, _, _, rfl, rfl, SqL.of upd_same, e2, d, k, rfl, hD.same S1, k0, by omega, fun i H2 i0 i1 t2 D2 => ?_⟩
    have T2 : But d H H2 := (But.of S1).trans t2
    have L2 : LD H2 l ds := LD.but T2 hD ndl hL
    obtain ⟨nm, m, e3, gn, m3, m0, mm⟩ := works_at hW i0 (by omega)
    refine ⟨l, ds, i, _, rfl, L2, rfl, e3, fun v hv => ?_⟩
    obtain ⟨a, vs, rfl, hv1, hv2⟩ := hv.tup_inv
    obtain ⟨v1, r1, rfl, hn1, hr1⟩ := hv2.cons_inv
    obtain ⟨v2, r2, rfl, hn2, hr2⟩ := hr1.cons_inv
    obtain rfl := hn1.str_inv
    obtain rfl := hn2.int_inv
    obtain rfl := hr2.nil_inv
    refine ⟨a, _, rfl, SqT.of hv1, rfl, _, _, rfl, _, _, rfl, rfl, ?_⟩
    -- the rest, however deep
    have hdeep : m ≠ 0 → 0 < deep := fun hm => by
      by_cases z : deep = 0
      · have := k3 z
        exact absurd (m3 (by omega)) hm
      · omega
    refine ⟨fun σ' H' => ∃ dp : Int, σ' = [some (.ref d), some (.ref l), some (.int dp), some (.str nm), some (.int m), none] ∧ H2 = H' ∧ (m ≠ 0 → 0 < dp ∧ dp ≤ deep) ∧ (m = 3 → dp = 1), ⟨_, rfl, rfl, _, rfl, ?_⟩, ?_⟩
    · refine ite2 (fun c => ?_) (fun c => ?_)
      · exact ⟨1, rfl, rfl, fun hm => ⟨by omega, hdeep hm⟩, fun _ => rfl⟩
      · have c' : ¬ V.int m = V.int 3 := of_decide_eq_false (Bool.eq_false_iff.mpr c)
        exact ⟨deep, rfl, rfl, fun hm => ⟨hdeep hm, Int.le_refl _⟩, fun z => absurd (by rw [z]) c'⟩
    · rintro σ' H' ⟨dp, rfl, rfl, hdp, hdp3⟩
      refine ⟨_, rfl, by show 1 ≤ sizeLine; decide, fun p3 hp3 => ?_⟩
      have S3 := same_new hp3 (.tup [V.str nm])
      have w3 : upd H2 p3 (.tup [V.str nm]) p3 = some (.tup [V.str nm]) := upd_same
      have D3 := D2.same S3
      have L3 := L2.mono S3
      have T3 : But d H _ := T2.trans (But.of S3)
      generalize upd H2 p3 (.tup [V.str nm]) = H3 at S3 w3 D3 L3 T3
      refine ⟨_, rfl, m, rfl, by omega, by omega, fun R hR => lc_range (n := m.toNat) (fun i H' => ∃ (acc : List V) (ts : List Tm), H' R = some (.lst acc) ∧ But d H3 H' ∧ DiceAt e.K H' d ∧ DasAt H' acc (ts.map Tm.da) ∧ ts.length = i ∧ Tm.goods ts ∧
        (∀ t ∈ ts, (t.depth : Int) ≤ dp ∧ (dp = 1 → t.count = 1) ∧ t.count + 1 ≤ 5 * 2 ^ (dp - 1).toNat)) ?_ ?_ ?_⟩
      · have S4 := same_new hR (.lst [])
        exact ⟨[], [], upd_same, But.of S4, D3.same S4, .nil, rfl, by simp [Tm.goods], by simp⟩
      · rintro i H' hi ⟨acc, ts, hRl, T, D, hA, hl, hg, hb⟩
        have hm1 : m ≠ 0 := by omega
        obtain ⟨d0, d1⟩ := hdp hm1
        refine ⟨rfl, _, rfl, _, rfl, _, rfl, _, _, rfl, rfl, d, l, ds, dp - 1, rfl, D, LD.but T D3 ndl L3, hW, by omega, by omega, fun v t H'' T' D' hv g1 g2 g3 g4 => ?_⟩
        have nRd : R ≠ d := fun z => by
          obtain ⟨_, hd3⟩ := D3.lst
          rw [z, hd3] at hR
          cases hR
        have hR' := T' _ _ nRd hRl
        have X := TX.lst (o := .lst (acc ++ [v])) hR'
        refine ⟨acc, hR', ?_, acc ++ [v], ts ++ [t], upd_same, ?_, ?_, ?_, ?_, ?_, ?_⟩
        · rw [hA.length, List.length_map]
          omega
        · exact fun b o nb hb' => by
            have h2 := T' _ _ nb (T _ _ nb hb')
            rw [upd_ne (ne_of_none hb' hR)]
            exact h2
        · exact D'.tx X (upd_ne nRd.symm)
        · rw [List.map_append]
          exact ((hA.mono (T'.tx D)).append (.one hv)).mono X
        · rw [List.length_append, hl]; rfl
        · rw [Tm.goods_iff] at hg ⊢
          intro t' ht'
          rcases List.mem_append.mp ht' with z | z
          · exact hg t' z
          · rw [List.mem_singleton.mp z]; exact g1
        · intro t' ht'
          rcases List.mem_append.mp ht' with z | z
          · exact hb t' z
          · rw [List.mem_singleton.mp z]
            exact ⟨by omega, fun z => g3 (by omega), g4⟩
      · rintro H' ⟨acc, ts, hRl, T, D, hA, hl, hg, hb⟩
        refine ⟨R, ts.map Tm.da, rfl, ⟨acc, hRl, hA⟩, fun v2 H'' S2 hv2 => ?_⟩
        have w4 : H'' p3 = some (.tup [V.str nm]) := S2 _ _ ((T.tx D3).tup w3)
        refine ⟨[.str nm], ts.map Tm.da, .tup w4 (.one .str), hv2, by rw [List.length_map, List.length_singleton]; omega, fun v5 H5 S5 hv5 => ?_⟩
        have et : (Tm.mk nm ts).da = .tup ([.str nm] ++ ts.map Tm.da) := by rw [Tm.da_eq]; rfl
        refine q v5 (.mk nm ts) H5 (T3.trans (T.trans ((But.of S2).trans (But.of S5)))) ((D.same S2).same S5) (by rw [et]; exact hv5) ⟨gn, by omega, hg⟩ ?_ ?_ ?_
        · by_cases hm1 : m = 0
          · have : ts = [] := List.length_eq_zero_iff.mp (by omega)
            subst this
            simp only [Tm.depth, Tm.depths]
            omega
          · obtain ⟨d0, d1⟩ := hdp hm1
            have : Tm.depths ts ≤ dp.toNat := Tm.depths_le.mpr fun t ht => by have := (hb t ht).1; omega
            simp only [Tm.depth]
            omega
        · intro z
          have hm1 : m = 0 := by
            have := k3 z
            exact m3 (by omega)
          have : ts = [] := List.length_eq_zero_iff.mp (by omega)
          subst this
          rfl
        · by_cases hm1 : m = 0
          · have : ts = [] := List.length_eq_zero_iff.mp (by omega)
            subst this
            have : 1 ≤ 2 ^ deep.toNat := Nat.one_le_two_pow
            simp only [Tm.count, Tm.counts]
            omega
          · obtain ⟨d0, d1⟩ := hdp hm1
            have e4 : deep.toNat = (deep - 1).toNat + 1 := by omega
            have p1 : 1 ≤ 2 ^ (deep - 1).toNat := Nat.one_le_two_pow
            rw [e4, Nat.pow_succ]
            by_cases hm3 : m = 3
            · have c1 : Tm.counts ts ≤ ts.length * 1 := Tm.counts_le fun t ht => by have := (hb t ht).2.1 (hdp3 hm3); omega
              simp only [Tm.count]
              omega
            · have p2 : 2 ^ (dp - 1).toNat ≤ 2 ^ (deep - 1).toNat := Nat.pow_le_pow_right (by omega) (by omega)
              have c1 : Tm.counts ts ≤ ts.length * (5 * 2 ^ (deep - 1).toNat - 1) := Tm.counts_le fun t ht => by have := (hb t ht).2.2; omega
              have c2 : ts.length ≤ 2 := by omega
              have c3 : ts.length * (5 * 2 ^ (deep - 1).toNat - 1) ≤ 2 * (5 * 2 ^ (deep - 1).toNat - 1) := Nat.mul_le_mul_right _ c2
              simp only [Tm.count]
              omega
end

/-! ### parts_of -/
/-- xs put behind acc, each that isn't there yet -/
def dd {α : Type} [DecidableEq α] (acc : List α) : List α → List α
  | [] => acc
  | x :: r => dd (if x ∈ acc then acc else acc ++ [x]) r
theorem dd_snoc {α : Type} [DecidableEq α] : ∀ (xs : List α) (acc : List α) (x : α), dd acc (xs ++ [x]) = if x ∈ dd acc xs then dd acc xs else dd acc xs ++ [x]
  | [], acc, x => rfl
  | y :: r, acc, x => by
    show dd _ (r ++ [x]) = _
    rw [dd_snoc r]
    rfl
theorem dd_mem {α : Type} [DecidableEq α] : ∀ (xs : List α) (acc : List α) (x : α), x ∈ dd acc xs ↔ x ∈ acc ∨ x ∈ xs
  | [], acc, x => by simp [dd]
  | y :: r, acc, x => by
    show x ∈ dd _ r ↔ _
    rw [dd_mem r]
    split
    · rename_i h
      constructor
      · rintro (h1 | h1)
        · exact .inl h1
        · exact .inr (by simp [h1])
      · rintro (h1 | h1)
        · exact .inl h1
        · rcases List.mem_cons.mp h1 with rfl | h1
          · exact .inl h
          · exact .inr h1
    · rw [List.mem_append, List.mem_singleton, List.mem_cons, or_assoc]
theorem dd_len {α : Type} [DecidableEq α] : ∀ (xs : List α) (acc : List α), (dd acc xs).length ≤ acc.length + xs.length
  | [], acc => by simp [dd]
  | y :: r, acc => by
    have h := dd_len r (if y ∈ acc then acc else acc ++ [y])
    have h2 : (if y ∈ acc then acc else acc ++ [y]).length ≤ acc.length + 1 := by
      split
      · omega
      · rw [List.length_append, List.length_singleton]; exact Nat.le_refl _
    show (dd (if y ∈ acc then acc else acc ++ [y]) r).length ≤ _
    rw [List.length_cons]
    omega
theorem dd_map {α β : Type} [DecidableEq α] [DecidableEq β] (f : α → β) (hf : ∀ a b, f a = f b → a = b) : ∀ (xs acc : List α), (dd acc xs).map f = dd (acc.map f) (xs.map f)
  | [], acc => rfl
  | x :: r, acc => by
    show (dd _ r).map f = dd _ (r.map f)
    rw [dd_map f hf r]
    by_cases h : x ∈ acc
    · rw [if_pos h, if_pos (List.mem_map_of_mem h)]
    · have h2 : ¬ f x ∈ acc.map f := fun z => by
        obtain ⟨y, hy, e⟩ := List.mem_map.mp z
        exact h (hf _ _ e ▸ hy)
      rw [if_neg h, if_neg h2, List.map_append]
      rfl
mutual
/-- all terms that stand in a term, itself last, each once -/
def Tm.subs : Tm → List Tm
  | .mk n ps => Tm.subss [] ps ++ [.mk n ps]
def Tm.subss (acc : List Tm) : List Tm → List Tm
  | [] => acc
  | p :: r => Tm.subss (dd acc p.subs) r
end
theorem Tm.subss_snoc : ∀ (l acc : List Tm) (p : Tm), Tm.subss acc (l ++ [p]) = dd (Tm.subss acc l) p.subs
  | [], acc, p => rfl
  | q :: r, acc, p => by
    show Tm.subss _ (r ++ [p]) = _
    rw [Tm.subss_snoc r]
    rfl
mutual
theorem Tm.subs_len : ∀ t : Tm, t.subs.length ≤ t.count
  | .mk n ps => by
    have := Tm.subss_len ps []
    simp only [Tm.subs, Tm.count, List.length_append, List.length_singleton]
    simp only [List.length_nil] at this
    omega
theorem Tm.subss_len : ∀ (l acc : List Tm), (Tm.subss acc l).length ≤ acc.length + Tm.counts l
  | [], acc => by simp [Tm.subss]
  | p :: r, acc => by
    have h1 := Tm.subs_len p
    have h2 := Tm.subss_len r (dd acc p.subs)
    have h3 := dd_len p.subs acc
    simp only [Tm.subss, Tm.counts]
    omega
end
mutual
theorem Tm.subs_depth : ∀ (t x : Tm), x ∈ t.subs → x.depth ≤ t.depth
  | .mk n ps, x, h => by
    simp only [Tm.subs, List.mem_append, List.mem_singleton] at h
    rcases h with h | rfl
    · have h2 := Tm.subss_depth ps [] x h
      simp only [List.not_mem_nil, false_or] at h2
      simp only [Tm.depth]
      omega
    · exact Nat.le_refl _
theorem Tm.subss_depth : ∀ (l acc : List Tm) (x : Tm), x ∈ Tm.subss acc l → x ∈ acc ∨ x.depth ≤ Tm.depths l
  | [], acc, x, h => .inl h
  | p :: r, acc, x, h => by
    rcases Tm.subss_depth r _ x h with h1 | h1
    · rcases (dd_mem _ _ _).mp h1 with h1 | h1
      · exact .inl h1
      · have := Tm.subs_depth p x h1
        exact .inr (by simp only [Tm.depths]; omega)
    · exact .inr (by simp only [Tm.depths]; omega)
end
mutual
theorem Tm.subs_ok : ∀ (t x : Tm), t.ok = true → x ∈ t.subs → x.ok = true
  | .mk n ps, x, hk, h => by
    simp only [Tm.subs, List.mem_append, List.mem_singleton] at h
    rcases h with h | rfl
    · simp only [Tm.ok, Bool.and_eq_true] at hk
      rcases Tm.subss_ok ps [] x hk.2 h with h1 | h1
      · simp at h1
      · exact h1
    · exact hk
theorem Tm.subss_ok : ∀ (l acc : List Tm) (x : Tm), Tm.oks l = true → x ∈ Tm.subss acc l → x ∈ acc ∨ x.ok = true
  | [], acc, x, _, h => .inl h
  | p :: r, acc, x, hk, h => by
    simp only [Tm.oks, Bool.and_eq_true] at hk
    rcases Tm.subss_ok r _ x hk.2 h with h1 | h1
    · rcases (dd_mem _ _ _).mp h1 with h1 | h1
      · exact .inl h1
      · exact .inr (Tm.subs_ok p x hk.1 h1)
    · exact .inr h1
end
/-- a term that may be compared: its texts are texts, not too deep, not too many names -/
structure okT (t : Tm) : Prop where
  ok : t.ok = true
  dp : t.depth ≤ 50
  ct : t.count ≤ 100000
theorem okT.da {t : Tm} (h : okT t) : okD t.da := ⟨by rw [Tm.da_ok]; exact h.ok, by rw [Tm.da_depth]; exact Nat.le_trans h.dp (by decide)⟩
theorem Tm.counts_mem : ∀ {l : List Tm} {t : Tm}, t ∈ l → t.count ≤ Tm.counts l
  | [], _, h => by simp at h
  | x :: r, t, h => by
    simp only [Tm.counts]
    rcases List.mem_cons.mp h with rfl | h
    · omega
    · have := Tm.counts_mem h
      omega
theorem okT.part {t p : Tm} (h : okT t) (hp : p ∈ t.parts) : okT p := by
  refine ⟨Tm.parts_ok h.ok hp, Nat.le_trans (Nat.le_of_lt (Tm.parts_depth hp)) h.dp, ?_⟩
  cases t with
  | mk n ps =>
    have h1 := Tm.counts_mem (show p ∈ ps from hp)
    have h2 := h.ct
    simp only [Tm.count] at h2
    omega
theorem okT.subs {t x : Tm} (h : okT t) (hx : x ∈ t.subs) : okD x.da := ⟨by rw [Tm.da_ok]; exact Tm.subs_ok t x h.ok hx, by rw [Tm.da_depth]; exact Nat.le_trans (Tm.subs_depth t x hx) (Nat.le_trans h.dp (by decide))⟩
theorem okL_map {l : List Tm} (h : ∀ t ∈ l, okD t.da) : okL (l.map Tm.da) := fun d hd => by
  obtain ⟨t, ht, rfl⟩ := List.mem_map.mp hd
  exact h t ht
theorem mem_das {l : List Tm} {t : Tm} : t.da ∈ l.map Tm.da ↔ t ∈ l := ⟨fun h => by
  obtain ⟨x, hx, e⟩ := List.mem_map.mp h
  exact Tm.da_inj _ _ e ▸ hx, fun h => List.mem_map_of_mem h⟩
theorem Tm.da_tail (t : Tm) {l : List Da} (h : t.da = .tup l) : l = .str t.name :: t.parts.map Tm.da := by
  rw [Tm.da_eq] at h
  injection h with h
  exact h.symm
theorem take_snoc {α : Type} {l : List α} {i : Nat} {x : α} (h : l[i]? = some x) : l.take (i + 1) = l.take i ++ [x] := by
  rw [List.take_add_one, h]
  rfl
theorem map_get {α β : Type} {f : α → β} {l : List α} {i : Nat} {y : β} (h : (l.map f)[i]? = some y) : ∃ x, l[i]? = some x ∧ y = f x := by
  rw [List.getElem?_map] at h
  cases e : l[i]? with
  | none => rw [e] at h; cases h
  | some x =>
    rw [e] at h
    exact ⟨x, rfl, (Option.some.inj h).symm⟩
def spParts (n : Nat) : Sp := fun vs H Q _ => ∃ (v : V) (t : Tm), vs = [v] ∧ DaAt H v t.da ∧ okT t ∧ t.depth ≤ n ∧ ∀ r H', H r = none → Same H H' → LD H' r (t.subs.map Tm.da) → Q (.ref r) H'
abbrev s_parts_of : Stmt := top 1
theorem sc_parts_of : FnScope ["term", "found", "part", "inner"] ["term"] (defScope s_parts_of) := ⟨rfl, rfl, rfl, by decide +kernel, rfl, by decide +kernel, by decide +kernel⟩
section
variable {e : Ev} (B : Bl e)
theorem ok_parts (A_parts_of : At e "parts_of" ["term"] s_parts_of) : ∀ n : Nat, Has e n "parts_of" ["term"] (spParts n)
  | 0 => A_parts_of.zero fun vs H Q E h => by
    obtain ⟨_, t, _, _, _, h, _⟩ := h
    cases t with
    | mk n ps => simp only [Tm.depth] at h; omega
  | n + 1 => by
    have h_parts_of := ok_parts A_parts_of n
    refine A_parts_of.ok sc_parts_of (fun vs H Q E h => ?_) (fun f cdv A outer s H vs Q E hr h => ?_)
    · obtain ⟨v, t, rfl, _⟩ := h
      rfl
    obtain ⟨v, t, rfl, hv, hk, hn, q⟩ := h
    have nd := sc_parts_of.nd
    have hls := sizeLine_eq
    refine ⟨_, pss_cons (ps_st 1 nd (pe_lst pa_nil))
    (pss_cons (ps_for PassesOwn.never rfl (pi_tup (pe_slice sl_tupD (pv 0) (po_some pe_int) po_none)) (pg_nm 2 nd)
      (pss_one (ps_for PassesOwn.never rfl (pi_list (pe_callH h_parts_of hr (pa_cons (pv 2) pa_nil))) (pg_nm 3 nd)
        (pss_one (ps_if (pt_cmpR (op_notInDa (hu65 hr)) (pv 3) (pv 1) (by rfl))
          (pss_one (ps_expr (pe_app (pv 1) (pa_cons (pv 3) pa_nil))))
          (pss_nil))))))
    (pss_cons (ps_expr (pe_app (pv 1) (pa_cons (pv 0) pa_nil)))
    (pss_one (ps_ret (pv 1))))), ?_⟩
    refine ⟨by show 0 ≤ sizeLine; decide, fun F hF => ?_⟩
    have S1 := same_new hF (.lst [])
    have w1 : upd H F (.lst []) F = some (.lst []) := upd_same
    generalize upd H F (.lst []) = H1 at S1 w1
    have hv1 := hv.mono (TX.of_same S1)
    have hv1' := hv1
    rw [Tm.da_eq] at hv1'
    refine ⟨v, rfl, 1, rfl, _, hv1', fun v2 H2 S2 hv2 => ?_⟩
    rw [cutD_tail] at hv2
    refine for_tupD hv2 (fun i σ H' => ∃ (acc : List V) (a b : Option V), σ = [some v, some (.ref F), a, b] ∧ Same H H' ∧ TX H2 H' ∧ H' F = some (.lst acc) ∧ DasAt H' acc ((Tm.subss [] (t.parts.take i)).map Tm.da))
      ⟨[], none, none, rfl, S1.trans S2, TX.refl _, S2 _ _ w1, .nil⟩ (fun i σ H' h => let ⟨_, _, _, _, _, h, _⟩ := h; h) ?_ ?_
    · rintro i x d σ H' hi hx ⟨acc, a, b, rfl, S, T, hF', hA⟩
      obtain ⟨p, hp, rfl⟩ := map_get hi
      have hpm := List.mem_of_getElem? hp
      have hkp := hk.part hpm
      refine ⟨_, rfl, x, p, rfl, hx, hkp, by have := Tm.parts_depth hpm; omega, fun R H3 hR S3 hL => ?_⟩
      have nRF : R ≠ F := (ne_of_none hF' hR).symm
      refine ⟨R, rfl, for_listD hL (fun j σ H' => ∃ (acc : List V) (b : Option V), σ = [some v, some (.ref F), some x, b] ∧ Same H H' ∧ TX H3 H' ∧ H' R = H3 R ∧ H' F = some (.lst acc) ∧ DasAt H' acc ((dd (Tm.subss [] (t.parts.take i)) (p.subs.take j)).map Tm.da))
        ⟨acc, b, rfl, S.trans S3, TX.refl _, rfl, S3 _ _ hF', hA.mono (TX.of_same S3)⟩ (fun j σ H' h => let ⟨_, _, _, _, h1, h2, _⟩ := h; ⟨h1, h2⟩) ?_ ?_⟩
      · rintro j y d' σ H4 hj hy ⟨acc, b, rfl, S, T', hR4, hF4, hA4⟩
        obtain ⟨u, hu, rfl⟩ := map_get hj
        have hum := List.mem_of_getElem? hu
        have okA : okL ((dd (Tm.subss [] (t.parts.take i)) (p.subs.take j)).map Tm.da) := okL_map fun z hz => by
          rcases (dd_mem _ _ _).mp hz with hz | hz
          · have h1 : Tm.oks (t.parts.take i) = true := Tm.oks_iff.mpr fun z hz => Tm.parts_ok hk.ok (List.mem_of_mem_take hz)
            have h2 := Tm.subss_ok _ _ z h1 hz
            have h3 := Tm.subss_depth _ _ z hz
            simp only [List.not_mem_nil, false_or] at h2 h3
            have h4 : Tm.depths (t.parts.take i) ≤ 50 := Tm.depths_le.mpr fun z hz => Nat.le_trans (Nat.le_of_lt (Tm.parts_depth (List.mem_of_mem_take hz))) hk.dp
            exact ⟨by rw [Tm.da_ok]; exact h2, by rw [Tm.da_depth]; omega⟩
          · exact hkp.subs (List.mem_of_mem_take hz)
        refine ⟨_, rfl, _, rfl, u.da, F, _, hy, rfl, ⟨acc, hF4, hA4⟩, hkp.subs hum, okA, _, rfl, ?_⟩
        have el := take_snoc hu
        refine ite2 (fun c => ?_) (fun c => ?_)
        · have c' : ¬ u.da ∈ (dd (Tm.subss [] (t.parts.take i)) (p.subs.take j)).map Tm.da := by simpa using c
          have c2 : ¬ u ∈ dd (Tm.subss [] (t.parts.take i)) (p.subs.take j) := fun z => c' (mem_das.mpr z)
          refine ⟨_, rfl, .inl ⟨rfl, _, SqL.of hF4⟩, _, rfl, F, acc, y, rfl, rfl, hF4, ?_, ?_⟩
          · have h1 := dd_len (p.subs.take j) (Tm.subss [] (t.parts.take i))
            have h2 := Tm.subss_len (t.parts.take i) []
            have h3 := Tm.subs_len p
            have h4 : Tm.counts (t.parts.take i) ≤ 100000 := by
              refine Nat.le_trans (Nat.le_trans ?_ (show Tm.counts t.parts ≤ t.count by cases t with | mk n ps => simp only [Tm.parts, Tm.count]; omega)) hk.ct
              have : ∀ (l : List Tm) (i : Nat), Tm.counts (l.take i) ≤ Tm.counts l := by
                intro l
                induction l with
                | nil => intro i; simp
                | cons z r ih =>
                  intro i
                  cases i with
                  | zero => simp [Tm.counts]
                  | succ i =>
                    have := ih i
                    simp only [List.take_succ_cons, Tm.counts]
                    omega
              exact this _ _
            have h5 := hkp.ct
            have h6 : (p.subs.take j).length ≤ p.subs.length := by rw [List.length_take]; omega
            rw [hA4.length, List.length_map]
            simp only [List.length_nil] at h2
            omega
          · have X := TX.lst (o := .lst (acc ++ [y])) hF4
            refine ⟨acc ++ [y], _, rfl, same_put S hF _, T'.trans X, by rw [upd_ne nRF]; exact hR4, upd_same, ?_⟩
            rw [el, dd_snoc, if_neg c2, List.map_append]
            exact (hA4.append (.one hy)).mono X
        · have c' : u.da ∈ (dd (Tm.subss [] (t.parts.take i)) (p.subs.take j)).map Tm.da := by simpa using c
          refine ⟨acc, _, rfl, S, T', hR4, hF4, ?_⟩
          rw [el, dd_snoc, if_pos (mem_das.mp c')]
          exact hA4
      · rintro σ H4 ⟨acc, b, rfl, S, T', hR4, hF4, hA4⟩
        rw [List.length_map, List.take_length] at hA4
        refine ⟨acc, _, _, rfl, S, (T.trans (TX.of_same S3)).trans T', hF4, ?_⟩
        rw [take_snoc hp, Tm.subss_snoc]
        exact hA4
    · rintro σ H' ⟨acc, a, b, rfl, S, T, hF', hA⟩
      rw [List.length_map, List.take_length] at hA
      have hvE := hv.mono (TX.of_same S)
      have X := TX.lst (o := .lst (acc ++ [v])) hF'
      refine ⟨_, rfl, .inl ⟨rfl, _, SqL.of hF'⟩, _, rfl, F, acc, v, rfl, rfl, hF', ?_, _, rfl, q F _ hF (same_put S hF _) ⟨acc ++ [v], upd_same, ?_⟩⟩
      · have h1 := Tm.subs_len t
        have h2 := hk.ct
        have h3 : (Tm.subss [] t.parts).length + 1 = t.subs.length := by
          cases t with
          | mk n ps => simp only [Tm.subs, Tm.parts, List.length_append, List.length_singleton]
        rw [hA.length, List.length_map]
        omega
      · have e1 : t.subs = Tm.subss [] t.parts ++ [t] := by
          cases t with
          | mk n ps => rfl
        rw [e1, List.map_append]
        exact (hA.append (.one hvE)).mono X
end

/-! ### the law: the parts as the text here ends them -/
mutual
def Tm.ends : Tm → List Tm
  | .mk n ps => Tm.endss ps ++ [.mk n ps]
def Tm.endss : List Tm → List Tm
  | [] => []
  | p :: r => p.ends ++ Tm.endss r
end
theorem Tm.endss_snoc : ∀ (l : List Tm) (p : Tm), Tm.endss (l ++ [p]) = Tm.endss l ++ p.ends
  | [], p => by simp [Tm.endss]
  | q :: r, p => by simp [Tm.endss, Tm.endss_snoc r p]
theorem dd_app {α : Type} [DecidableEq α] : ∀ (xs ys acc : List α), dd acc (xs ++ ys) = dd (dd acc xs) ys
  | [], _, _ => rfl
  | _ :: r, ys, acc => dd_app r ys _
theorem dd_in {α : Type} [DecidableEq α] : ∀ (xs acc : List α), (∀ x ∈ xs, x ∈ acc) → dd acc xs = acc
  | [], _, _ => rfl
  | x :: r, acc, h => by
    show dd _ r = acc
    rw [if_pos (h x (by simp))]
    exact dd_in r acc fun y hy => h y (by simp [hy])
theorem dd_dd {α : Type} [DecidableEq α] (acc : List α) (xs : List α) : dd acc (dd [] xs) = dd acc xs := by
  suffices h : ∀ (n : Nat) (xs : List α), xs.length = n → dd acc (dd [] xs) = dd acc xs from h _ xs rfl
  intro n
  induction n with
  | zero => intro xs h; rw [List.length_eq_zero_iff.mp h]; rfl
  | succ n ih =>
    intro xs h
    rcases List.eq_nil_or_concat xs with rfl | ⟨ys, y, rfl⟩
    · rfl
    · simp only [List.concat_eq_append] at h ⊢
      rw [List.length_append, List.length_singleton] at h
      have ih := ih ys (by omega)
      rw [dd_snoc, dd_snoc]
      split
      · rename_i hy
        have h2 : y ∈ dd acc ys := (dd_mem _ _ _).mpr (.inr (by simpa using (dd_mem _ _ _).mp hy))
        rw [if_pos h2, ih]
      · rename_i hy
        rw [dd_snoc, ih]
mutual
theorem Tm.subs_ends : ∀ t : Tm, t.subs = dd [] t.ends
  | .mk n ps => by
    have h := Tm.subss_ends ps []
    simp only [Tm.subs, Tm.ends]
    rw [dd_snoc, if_neg, h]
    rw [← h]
    intro z
    have h2 := Tm.subss_depth ps [] _ z
    simp only [List.not_mem_nil, false_or, Tm.depth] at h2
    omega
theorem Tm.subss_ends : ∀ (l acc : List Tm), Tm.subss acc l = dd acc (Tm.endss l)
  | [], acc => rfl
  | p :: r, acc => by
    simp only [Tm.subss, Tm.endss]
    rw [Tm.subss_ends r, Tm.subs_ends p, dd_dd, dd_app]
end
mutual
theorem Tm.ends_len : ∀ t : Tm, t.ends.length = t.count
  | .mk n ps => by
    have := Tm.endss_len ps
    simp only [Tm.ends, Tm.count, List.length_append, List.length_singleton]
    omega
theorem Tm.endss_len : ∀ l : List Tm, (Tm.endss l).length = Tm.counts l
  | [] => rfl
  | p :: r => by
    have h1 := Tm.ends_len p
    have h2 := Tm.endss_len r
    simp only [Tm.endss, Tm.counts, List.length_append]
    omega
end
theorem Tm.counts_take (l : List Tm) : ∀ i : Nat, Tm.counts (l.take i) ≤ Tm.counts l := by
  induction l with
  | nil => intro i; simp
  | cons z r ih =>
    intro i
    cases i with
    | zero => simp [Tm.counts]
    | succ i =>
      have := ih i
      simp only [List.take_succ_cons, Tm.counts]
      omega
theorem Tm.counts_parts (t : Tm) : Tm.counts t.parts + 1 = t.count := by
  cases t with
  | mk n ps => simp only [Tm.parts, Tm.count]; omega
def spEnds (n : Nat) : Sp := fun vs H Q _ => ∃ (v : V) (t : Tm), vs = [v] ∧ DaAt H v t.da ∧ t.count ≤ 100000 ∧ t.depth ≤ n ∧ ∀ r H', H r = none → Same H H' → LD H' r (t.ends.map Tm.da) → Q (.ref r) H'
abbrev s__law_ends : Stmt := top 8
theorem sc__law_ends : FnScope ["_law_term_here", "_law_found", "_law_part"] ["_law_term_here"] (defScope s__law_ends) := ⟨rfl, rfl, rfl, by decide +kernel, rfl, by decide +kernel, by decide +kernel⟩
section
variable {e : Ev} (B : Bl e)
theorem ok_ends (A__law_ends : At e "_law_ends" ["_law_term_here"] s__law_ends) : ∀ n : Nat, Has e n "_law_ends" ["_law_term_here"] (spEnds n)
  | 0 => A__law_ends.zero fun vs H Q E h => by
    obtain ⟨_, t, _, _, _, h, _⟩ := h
    cases t with
    | mk n ps => simp only [Tm.depth] at h; omega
  | n + 1 => by
    have h__law_ends := ok_ends A__law_ends n
    refine A__law_ends.ok sc__law_ends (fun vs H Q E h => ?_) (fun f cdv A outer s H vs Q E hr h => ?_)
    · obtain ⟨v, t, rfl, _⟩ := h
      rfl
    obtain ⟨v, t, rfl, hv, hk, hn, q⟩ := h
    have nd := sc__law_ends.nd
    have hls := sizeLine_eq
    refine ⟨_, pss_cons (ps_st 1 nd (pe_lstA pa_nil))
    (pss_cons (ps_for PassesOwn.never rfl (pi_tup (pe_slice sl_tupD (pv 0) (po_some pe_int) po_none)) (pg_nm 2 nd)
      (pss_one (ps_st 1 nd (pe_op op_cat (pv 1) (pe_callH h__law_ends hr (pa_cons (pv 2) pa_nil))))))
    (pss_one (ps_ret (pe_op op_cat (pv 1) (pe_lstA (pa_cons (pv 0) pa_nil)))))), ?_⟩
    have hcp := Tm.counts_parts t
    refine ⟨by show 0 ≤ sizeLine; decide, fun F H1 hF S1 w1 => ?_⟩
    have hv1 := hv.mono (TX.of_same S1)
    rw [Tm.da_eq] at hv1
    refine ⟨v, rfl, 1, rfl, _, hv1, fun v2 H2 S2 hv2 => ?_⟩
    rw [cutD_tail] at hv2
    refine for_tupD hv2 (fun i σ H' => ∃ (F : Addr) (acc : List V) (a : Option V), σ = [some v, some (.ref F), a] ∧ Same H H' ∧ Same H2 H' ∧ H' F = some (.lst acc) ∧ DasAt H' acc ((Tm.endss (t.parts.take i)).map Tm.da))
      ⟨F, [], none, rfl, S1.trans S2, Same.refl _, S2 _ _ w1, .nil⟩ (fun i σ H' h => let ⟨_, _, _, _, _, h, _⟩ := h; TX.of_same h) ?_ ?_
    · rintro i x d σ H' hi hx ⟨F, acc, a, rfl, S, T, hF', hA⟩
      obtain ⟨p, hp, rfl⟩ := map_get hi
      have hpm := List.mem_of_getElem? hp
      have c1 := Tm.counts_mem hpm
      refine ⟨_, rfl, _, rfl, x, p, rfl, hx, by omega, by have := Tm.parts_depth hpm; omega, fun R H3 hR S3 ⟨ws, hR3, hW⟩ => ?_⟩
      have hA3 := hA.mono (TX.of_same S3)
      refine ⟨F, R, acc, ws, rfl, rfl, S3 _ _ hF', hR3, ?_, fun G hG => ?_⟩
      · have c2 := Tm.counts_take t.parts i
        rw [hA.length, hW.length, List.length_map, List.length_map, Tm.endss_len, Tm.ends_len]
        omega
      · have S4 := same_new hG (.lst (acc ++ ws))
        refine ⟨G, acc ++ ws, _, rfl, (S.trans S3).trans S4, (T.trans S3).trans S4, upd_same, ?_⟩
        rw [take_snoc hp, Tm.endss_snoc, List.map_append]
        exact (hA3.append hW).mono (TX.of_same S4)
    · rintro σ H' ⟨F, acc, a, rfl, S, T, hF', hA⟩
      rw [List.length_map, List.take_length] at hA
      refine ⟨_, rfl, _, rfl, by show 1 ≤ sizeLine; decide, fun G H3 hG S3 w3 => ?_⟩
      have hA3 := hA.mono (TX.of_same S3)
      have hv3 := hv.mono (TX.of_same (S.trans S3))
      refine ⟨F, G, acc, _, rfl, rfl, S3 _ _ hF', w3, ?_, fun R hR => ?_⟩
      · rw [hA.length, List.length_map, Tm.endss_len, List.length_singleton]
        omega
      · have S4 := same_new hR (.lst (acc ++ [v]))
        refine q R _ (same_none (S.trans S3) hR) ((S.trans S3).trans S4) ⟨_, upd_same, ?_⟩
        have e1 : t.ends = Tm.endss t.parts ++ [t] := by
          cases t with
          | mk n ps => rfl
        rw [e1, List.map_append]
        exact (hA3.append (.one hv3)).mono (TX.of_same S4)
end
def spLaw (K : PySem.W.Frag) : Sp := fun vs H Q _ => ∃ (a : Addr) (ns : List Int), vs = [.ref a] ∧ ScAt K H a ns ∧ ns.length ≤ 63 ∧ ∀ H', Q (.bl true) H'
theorem good_of {s : Str} (h : s.length = 1 ∨ s.length = 5) (h2 : ∀ c ∈ s.cps.toList, 97 ≤ c ∧ c ≤ 122) : goodName s := ⟨by omega, by omega, h2⟩
abbrev s_law : Stmt := top 9
theorem sc_law : FnScope ["_law_script", "_law_term_here", "_law_inner", "_law_some", "_law_due", "_law_part", "_law_found"] ["_law_script"] (defScope s_law) := ⟨rfl, rfl, rfl, by decide +kernel, rfl, by decide +kernel, by decide +kernel⟩
section
variable {e : Ev} (B : Bl e)
include B
theorem ok_law (A_law : At e "law" ["_law_script"] s_law) (h__law_cell : Has e 1 "_law_cell" ["_law_script", "_law_k"] (spCell e.K)) (h__law_dice : Has e 2 "_law_dice" ["_law_script", "_law_k"] (spDice e.K)) (h__law_works : Has e 3 "_law_works" ["_law_d"] (spWorks e.K))
    (h__law_term : Has e 6 "_law_term" ["_law_d", "_law_works_here", "_law_deep"] (spTerm e.K 4)) (h__law_ends : Has e 8 "_law_ends" ["_law_term_here"] (spEnds 8)) (h_parts_of : Has e 8 "parts_of" ["term"] (spParts 8)) : Has e 9 "law" ["_law_script"] (spLaw e.K) := by
  refine A_law.ok sc_law (fun vs H Q E h => ?_) (fun f cdv A outer s H vs Q E hr h => ?_)
  · obtain ⟨a, ns, rfl, _⟩ := h
    rfl
  obtain ⟨a, ns, rfl, hS, h63, q⟩ := h
  have nd := sc_law.nd
  have hls := sizeLine_eq
  have gx : goodName "three" ∧ goodName "b" ∧ goodName "c" ∧ goodName "x" ∧ goodName "k" ∧ goodName "y" := by
    refine ⟨good_of ?_ ?_, good_of ?_ ?_, good_of ?_ ?_, good_of ?_ ?_, good_of ?_ ?_, good_of ?_ ?_⟩ <;> decide +kernel
  obtain ⟨g3, gb, gc, gx, gk, gy⟩ := gx
  refine ⟨_, pss_cons (ps_st 1 nd (pe_callH h__law_term hr (pa_cons (pe_callH h__law_dice hr (pa_cons (pv 0) (pa_cons pe_int pa_nil))) (pa_cons (pe_callH h__law_works hr (pa_cons (pe_callH h__law_dice hr (pa_cons (pv 0) (pa_cons pe_int pa_nil))) pa_nil)) (pa_cons (pe_op op_add pe_int (pe_op op_mod (pe_b call_abs B.abs (pa_cons (pe_callH h__law_cell hr (pa_cons (pv 0) (pa_cons pe_int pa_nil))) pa_nil)) pe_int)) pa_nil)))))
    (pss_cons (ps_cut (ps_if (pt_cmpR op_eq (pe_op op_mod (pe_b call_abs B.abs (pa_cons (pe_callH h__law_cell hr (pa_cons (pv 0) (pa_cons pe_int pa_nil))) pa_nil)) pe_int) pe_int (nomark _))
      (pss_cons (ps_st 2 nd (pe_tupD (pa_cons pe_str (pa_cons (pv 1) (pa_cons (pe_tupD (pa_cons pe_str pa_nil)) (pa_cons (pe_ix ix_listD (pe_lstA (pa_cons (pv 1) (pa_cons (pe_tupD (pa_cons pe_str pa_nil)) pa_nil))) (pe_op op_mod (pe_b call_abs B.abs (pa_cons (pe_callH h__law_cell hr (pa_cons (pv 0) (pa_cons pe_int pa_nil))) pa_nil)) pe_int) (fun _ _ => rfl)) pa_nil))))))
      (pss_cons (ps_st 3 nd (pe_lstA (pa_cons (pe_tupD (pa_cons pe_str (pa_cons (pv 2) (pa_cons (pv 2) pa_nil)))) (pa_cons (pe_tupD (pa_cons pe_str (pa_cons (pv 2) (pa_cons (pe_tupD (pa_cons pe_str (pa_cons (pv 2) pa_nil))) pa_nil)))) (pa_cons (pe_tupD (pa_cons pe_str (pa_cons (pe_tupD (pa_cons pe_str pa_nil)) (pa_cons (pv 2) (pa_cons (pv 2) pa_nil))))) pa_nil)))))
      (pss_one (ps_st 1 nd (pe_ix ix_listD (pv 3) (pe_op op_mod (pe_b call_abs B.abs (pa_cons (pe_callH h__law_cell hr (pa_cons (pv 0) (pa_cons pe_int pa_nil))) pa_nil)) pe_int) (fun _ _ => rfl))))))
      (pss_nil)))
    (pss_cons (ps_st 4 nd (pe_lstA pa_nil))
    (pss_cons (ps_for PassesOwn.never rfl (pi_list (pe_callH h__law_ends hr (pa_cons (pv 1) pa_nil))) (pg_nm 5 nd)
      (pss_one (ps_if (pt_cmpR (op_notInDa (hu65 hr)) (pv 5) (pv 4) (by rfl))
        (pss_one (ps_expr (pe_app (pv 4) (pa_cons (pv 5) pa_nil))))
        (pss_nil))))
    (pss_cons (ps_st 6 nd (pe_callH h_parts_of hr (pa_cons (pv 1) pa_nil)))
    (pss_cons (ps_if (PW.pt (pw_or (pt_not (pt_val (pe_b call_isi B.isinstance (pa_cons (pv 6) (pa_cons (pe_tyv (T := "list") B.list) pa_nil))))) (pw_or1 (pt_cmpR (op_neLa (hu64 hr)) (pv 6) (pv 4) (nomark _)))))
      (pss_one (ps_ret pe_bl))
      (pss_nil))
    (pss_cons (ps_for PassesOwn.never rfl (pi_list (pv 6)) (pg_nm 5 nd)
      (pss_one (ps_if (PW.pt (pw_or (pt_not (pt_val (pe_b call_isi B.isinstance (pa_cons (pv 5) (pa_cons (pe_tyv (T := "tuple") B.tuple) pa_nil))))) (pw_or1 (pt_not (pt_val (pe_b call_isi B.isinstance (pa_cons (pe_ix ix_tupD (pv 5) pe_int (fun _ _ => rfl)) (pa_cons (pe_tyv (T := "str") B.str) pa_nil))))))))
        (pss_one (ps_ret pe_bl))
        (pss_nil))))
    (pss_cons (ps_expr (pe_app (pv 6) (pa_cons pe_int pa_nil)))
    (pss_one (ps_ret (pe_cmpR (op_eqLa (hu64 hr)) (pe_callH h_parts_of hr (pa_cons (pv 1) pa_nil)) (pv 4) (nomark _))))))))))), ?_⟩
  -- the term
  refine ⟨_, rfl, a, ns, 1, rfl, hS, h63, by decide, fun d H1 hd S1 D1 => ?_⟩
  have hS1 := hS.mono (TX.of_same S1)
  refine ⟨_, rfl, a, ns, 0, rfl, hS1, h63, by decide, fun d0 H2 hd0 S2 D2 => ?_⟩
  refine ⟨d0, rfl, D2, fun l ds H3 hl3 B3 D3 L3 hW => ?_⟩
  have hd0n : d0 ≠ d := by
    obtain ⟨_, h⟩ := D1.lst
    exact (ne_of_none h hd0).symm
  have T3 : TX H H3 := ((TX.of_same S1).trans (TX.of_same S2)).trans (B3.tx D2)
  have D3' : DiceAt e.K H3 d := (D1.same S2).tx (B3.tx D2) (by
    obtain ⟨_, h⟩ := (D1.same S2).lst
    rw [h, B3 _ _ hd0n.symm h])
  have hS3 := hS.mono T3
  refine ⟨_, rfl, a, ns, 2, rfl, hS3, by decide, _, rfl, ?_⟩
  have hz : 0 ≤ (if cellV ns 2 < 0 then -cellV ns 2 else cellV ns 2) := by split <;> omega
  generalize (if cellV ns 2 < 0 then -cellV ns 2 else cellV ns 2) = z at hz
  refine ⟨_, _, rfl, rfl, (by show (0 : Int) < 3; decide), _, _, rfl, rfl, ?_⟩
  have z1 := Int.emod_nonneg z (by decide : (3 : Int) ≠ 0)
  have z2 := Int.emod_lt_of_pos z (by decide : (0 : Int) < 3)
  refine ⟨d, l, ds, 1 + z % 3, rfl, D3', L3, hW, by omega, by omega, fun v t H4 B4 D4 hv gt dt _ ct => ?_⟩
  have T4 := T3.trans (B4.tx D3')
  have ct2 : t.count ≤ 39 := by
    have : (1 + z % 3).toNat ≤ 3 := by omega
    have h2 : 2 ^ (1 + z % 3).toNat ≤ 2 ^ 3 := Nat.pow_le_pow_right (by decide) this
    omega
  -- perhaps works round it
  refine ⟨fun σ' H' => ∃ (v' : V) (t' : Tm) (u1 u2 : Option V), σ' = [some (.ref a), some v', u1, u2, none, none, none] ∧ TX H H' ∧ DaAt H' v' t'.da ∧ t'.good ∧ t'.depth ≤ 8 ∧ t'.count ≤ 1000, ⟨_, rfl, a, ns, 3, rfl, hS.mono T4, by decide, _, rfl, ?_⟩, ?_⟩
  · refine ⟨_, _, rfl, rfl, (by show (0 : Int) < 3; decide), rfl, _, rfl, ?_⟩
    refine ite2 (fun _ => ?_) (fun _ => ⟨v, t, _, _, rfl, T4, hv, gt, by omega, by omega⟩)
    have one : ∀ {H : Hp} {v : V} {n : Str}, DaAt H v (.tup [.str n]) → DaAt H v (Tm.mk n []).da := fun h => by simpa only [Tm.da, Tm.das] using h
    refine ⟨_, rfl, [.str "b"], .one .str, by decide, fun vb H5 S5 hb => ?_⟩
    have hv5 := hv.mono (TX.of_same S5)
    refine ⟨_, rfl, [.str "c"], .one .str, by decide, fun vc H6 S6 hc => ?_⟩
    have hv6 := hv5.mono (TX.of_same S6)
    refine ⟨by show 2 ≤ sizeLine; decide, fun p H7 hp S7 w7 => ?_⟩
    have hv7 := hv6.mono (TX.of_same S7)
    have hb7 := (one hb).mono (TX.of_same (S6.trans S7))
    have hc7 := (one hc).mono (TX.of_same S7)
    have T7 := T4.trans ((TX.of_same S5).trans ((TX.of_same S6).trans (TX.of_same S7)))
    refine ⟨_, rfl, a, ns, 4, rfl, hS.mono T7, by decide, _, rfl, _, _, rfl, rfl, (by show (0 : Int) < 2; decide), ?_⟩
    have w1 := Int.emod_nonneg (if cellV ns 4 < 0 then -cellV ns 4 else cellV ns 4) (by decide : (2 : Int) ≠ 0)
    have w2 := Int.emod_lt_of_pos (if cellV ns 4 < 0 then -cellV ns 4 else cellV ns 4) (by decide : (0 : Int) < 2)
    obtain ⟨i4, hi4⟩ : ∃ i4, i4 = (if cellV ns 4 < 0 then -cellV ns 4 else cellV ns 4) % 2 := ⟨_, rfl⟩
    rw [← hi4] at w1 w2
    have pick : ∃ t2 : Tm, atI [t.da, (Tm.mk "c" []).da] i4 = some t2.da ∧ t2.good ∧ t2.depth ≤ 4 ∧ t2.count ≤ 39 := by
      have : i4 = 0 ∨ i4 = 1 := by omega
      rcases this with rfl | rfl
      · exact ⟨t, rfl, gt, by omega, ct2⟩
      · exact ⟨.mk "c" [], rfl, ⟨gc, by decide, trivial⟩, by simp [Tm.depth, Tm.depths], by simp [Tm.count, Tm.counts]⟩
    obtain ⟨t2, ht2, gt2, dt2, ct3⟩ := pick
    refine ⟨p, [t.da, (Tm.mk "c" []).da], i4, _, rfl, ⟨_, w7, .cons hv7 (.one hc7)⟩, congrArg V.int hi4.symm, ht2, fun v2 hv2 => ?_⟩
    refine ⟨[.str "three", t.da, (Tm.mk "b" []).da, t2.da], .cons .str (.cons hv7 (.cons hb7 (.one hv2))), by simp, fun vi H8 S8 hi => ?_⟩
    -- the inner one
    have ei : DaAt H8 vi (Tm.mk "three" [t, .mk "b" [], t2]).da := by simpa only [Tm.da, Tm.das] using hi
    have gi : (Tm.mk "three" [t, .mk "b" [], t2]).good := ⟨g3, by simp, gt, ⟨gb, by decide, trivial⟩, gt2, trivial⟩
    have di : (Tm.mk "three" [t, .mk "b" [], t2]).depth ≤ 5 := by simp only [Tm.depth, Tm.depths]; omega
    have ci : (Tm.mk "three" [t, .mk "b" [], t2]).count ≤ 80 := by simp only [Tm.count, Tm.counts]; omega
    generalize Tm.mk "three" [t, .mk "b" [], t2] = ti at ei gi di ci
    have T8 := T7.trans (TX.of_same S8)
    refine ⟨_, rfl, _, rfl, [.str "x", ti.da, ti.da], .cons .str (.cons ei (.one ei)), by simp, fun x1 H9 S9 hx1 => ?_⟩
    have ei9 := ei.mono (TX.of_same S9)
    refine ⟨_, rfl, _, rfl, [.str "k", ti.da], .cons .str (.one ei9), by simp, fun x2 H10 S10 hx2 => ?_⟩
    have ei10 := ei9.mono (TX.of_same S10)
    refine ⟨[.str "x", ti.da, (Tm.mk "k" [ti]).da], .cons .str (.cons ei10 (.one (by simpa only [Tm.da, Tm.das] using hx2))), by simp, fun x3 H11 S11 hx3 => ?_⟩
    have ei11 := ei10.mono (TX.of_same S11)
    refine ⟨[.str "b"], .one .str, by decide, fun vb2 H12 S12 hb2 => ?_⟩
    have ei12 := ei11.mono (TX.of_same S12)
    refine ⟨_, rfl, _, rfl, [.str "y", (Tm.mk "b" []).da, ti.da, ti.da], .cons .str (.cons (one hb2) (.cons ei12 (.one ei12))), by simp, fun x4 H13 S13 hx4 => ?_⟩
    refine ⟨by show 3 ≤ sizeLine; decide, fun p2 H14 hp2 S14 w14 => ?_⟩
    have T14 := T8.trans ((TX.of_same S9).trans ((TX.of_same S10).trans ((TX.of_same S11).trans ((TX.of_same S12).trans ((TX.of_same S13).trans (TX.of_same S14))))))
    refine ⟨_, rfl, _, rfl, a, ns, 5, rfl, hS.mono T14, by decide, _, rfl, _, _, rfl, rfl, (by show (0 : Int) < 3; decide), ?_⟩
    have w1 := Int.emod_nonneg (if cellV ns 5 < 0 then -cellV ns 5 else cellV ns 5) (by decide : (3 : Int) ≠ 0)
    have w2 := Int.emod_lt_of_pos (if cellV ns 5 < 0 then -cellV ns 5 else cellV ns 5) (by decide : (0 : Int) < 3)
    obtain ⟨i5, hi5⟩ : ∃ i5, i5 = (if cellV ns 5 < 0 then -cellV ns 5 else cellV ns 5) % 3 := ⟨_, rfl⟩
    rw [← hi5] at w1 w2
    have L14 : LD H14 p2 [(Tm.mk "x" [ti, ti]).da, (Tm.mk "x" [ti, .mk "k" [ti]]).da, (Tm.mk "y" [.mk "b" [], ti, ti]).da] := ⟨_, w14,
      .cons (by have := hx1.mono ((TX.of_same S10).trans ((TX.of_same S11).trans ((TX.of_same S12).trans ((TX.of_same S13).trans (TX.of_same S14))))); simpa only [Tm.da, Tm.das] using this)
      (.cons (by have := hx3.mono ((TX.of_same S12).trans ((TX.of_same S13).trans (TX.of_same S14))); simpa only [Tm.da, Tm.das] using this)
      (.one (by have := hx4.mono (TX.of_same S14); simpa only [Tm.da, Tm.das] using this)))⟩
    have pick : ∃ t3 : Tm, atI [(Tm.mk "x" [ti, ti]).da, (Tm.mk "x" [ti, .mk "k" [ti]]).da, (Tm.mk "y" [.mk "b" [], ti, ti]).da] i5 = some t3.da ∧ t3.good ∧ t3.depth ≤ 8 ∧ t3.count ≤ 1000 := by
      have : i5 = 0 ∨ i5 = 1 ∨ i5 = 2 := by omega
      rcases this with rfl | rfl | rfl
      · exact ⟨_, rfl, ⟨gx, by simp, gi, gi, trivial⟩, by simp only [Tm.depth, Tm.depths]; omega, by simp only [Tm.count, Tm.counts]; omega⟩
      · exact ⟨_, rfl, ⟨gx, by simp, gi, ⟨gk, by simp, gi, trivial⟩, trivial⟩, by simp only [Tm.depth, Tm.depths]; omega, by simp only [Tm.count, Tm.counts]; omega⟩
      · exact ⟨_, rfl, ⟨gy, by simp, ⟨gb, by decide, trivial⟩, gi, gi, trivial⟩, by simp only [Tm.depth, Tm.depths]; omega, by simp only [Tm.count, Tm.counts]; omega⟩
    obtain ⟨t3, ht3, gt3, dt3, ct4⟩ := pick
    exact ⟨p2, _, i5, _, rfl, L14, congrArg V.int hi5.symm, ht3, fun v3 hv3 => ⟨v3, t3, _, _, rfl, T14, hv3, gt3, dt3, ct4⟩⟩
  rintro σ' H' ⟨w, tm, u1, u2, rfl, T5, hw, gw, dw, cw⟩
  have okw : okT tm := ⟨Tm.good_ok gw, by omega, by omega⟩
  -- the due
  refine ⟨by show 0 ≤ sizeLine; decide, fun F H6 hF S6 w6 => ?_⟩
  have hw6 := hw.mono (TX.of_same S6)
  refine ⟨_, rfl, w, tm, rfl, hw6, by omega, by omega, fun R H7 hR S7 L7 => ?_⟩
  have nRF : R ≠ F := (ne_of_none w6 hR).symm
  have okd : ∀ z ∈ dd [] tm.ends, okD z.da := fun z hz => okw.subs (by rw [Tm.subs_ends]; exact hz)
  refine ⟨R, rfl, for_listD L7 (fun j σ H' => ∃ (acc : List V) (b : Option V), σ = [some (.ref a), some w, u1, u2, some (.ref F), b, none] ∧ TX H7 H' ∧ H' R = H7 R ∧ H' F = some (.lst acc) ∧ DasAt H' acc ((dd [] (tm.ends.take j)).map Tm.da))
    ⟨[], none, rfl, TX.refl _, rfl, S7 _ _ w6, .nil⟩ (fun j σ H' h => let ⟨_, _, _, h1, h2, _⟩ := h; ⟨h1, h2⟩) ?_ ?_⟩
  · rintro j y d' σ H8 hj hy ⟨acc, b, rfl, T8, hR8, hF8, hA8⟩
    obtain ⟨u, hu, rfl⟩ := map_get hj
    have hum := List.mem_of_getElem? hu
    have el := take_snoc hu
    have okA : okL ((dd [] (tm.ends.take j)).map Tm.da) := okL_map fun z hz => okd z ((dd_mem _ _ _).mpr (.inr (List.mem_of_mem_take (by simpa using (dd_mem _ _ _).mp hz))))
    refine ⟨_, rfl, _, rfl, u.da, F, _, hy, rfl, ⟨acc, hF8, hA8⟩, okd u ((dd_mem _ _ _).mpr (.inr hum)), okA, _, rfl, ?_⟩
    refine ite2 (fun c => ?_) (fun c => ?_)
    · have c' : ¬ u.da ∈ (dd [] (tm.ends.take j)).map Tm.da := by simpa using c
      have c2 : ¬ u ∈ dd [] (tm.ends.take j) := fun z => c' (mem_das.mpr z)
      refine ⟨_, rfl, .inl ⟨rfl, _, SqL.of hF8⟩, _, rfl, F, acc, y, rfl, rfl, hF8, ?_, ?_⟩
      · have h1 := dd_len (tm.ends.take j) []
        have h2 := Tm.ends_len tm
        rw [List.length_take] at h1
        simp only [List.length_nil] at h1
        rw [hA8.length, List.length_map]
        omega
      · have X := TX.lst (o := .lst (acc ++ [y])) hF8
        refine ⟨acc ++ [y], _, rfl, T8.trans X, by rw [upd_ne nRF]; exact hR8, upd_same, ?_⟩
        rw [el, dd_snoc, if_neg c2, List.map_append]
        exact (hA8.append (.one hy)).mono X
    · have c' : u.da ∈ (dd [] (tm.ends.take j)).map Tm.da := by simpa using c
      refine ⟨acc, _, rfl, T8, hR8, hF8, ?_⟩
      rw [el, dd_snoc, if_pos (mem_das.mp c')]
      exact hA8
  rintro σ H8 ⟨acc, b, rfl, T8, hR8, hF8, hA8⟩
  rw [List.length_map, List.take_length] at hA8
  have hw8 := hw6.mono ((TX.of_same S7).trans T8)
  -- what is found
  refine ⟨_, rfl, w, tm, rfl, hw8, okw, by omega, fun R2 H9 hR2 S9 L9 => ?_⟩
  obtain ⟨ws, w9, hws⟩ := id L9
  have okS : okL (tm.subs.map Tm.da) := okL_map fun z hz => okw.subs hz
  have okE : okL ((dd [] tm.ends).map Tm.da) := okL_map okd
  have LF9 : LD H9 F ((dd [] tm.ends).map Tm.da) := ⟨acc, S9 _ _ hF8, hA8.mono (TX.of_same S9)⟩
  refine ⟨_, rfl, _, .ty "list", .type "list", .type "list", true, rfl, .ty _, .base (.lst w9), kit_ty (by decide +kernel), _, rfl, ?_⟩
  refine ⟨_, rfl, _, rfl, R2, F, _, _, rfl, rfl, L9, LF9, okS, okE, _, rfl, ?_⟩
  have ee : decide (tm.subs.map Tm.da = (dd [] tm.ends).map Tm.da) = true := decide_eq_true (by rw [Tm.subs_ends])
  rw [ee]
  refine ⟨_, rfl, R2, rfl, for_listD L9 (fun j σ H' => ∃ (b : Option V), σ = [some (.ref a), some w, u1, u2, some (.ref F), b, some (.ref R2)] ∧ H9 = H') ⟨b, rfl, rfl⟩ (fun j σ H' h => by obtain ⟨_, _, rfl⟩ := h; exact ⟨TX.refl _, rfl⟩) ?_ ?_⟩
  · rintro j y d' σ _ hj hy ⟨b, rfl, rfl⟩
    obtain ⟨u, hu, rfl⟩ := map_get hj
    obtain ⟨c, vs, rfl, hc, _⟩ := hy.tm
    refine ⟨_, rfl, _, .ty "tuple", .type "tuple", .type "tuple", true, rfl, .ty _, .base (.tup hc), kit_ty (by decide +kernel), _, rfl, ?_⟩
    rw [Tm.da_eq] at hy
    refine ⟨_, rfl, _, 0, .str u.name, hy, rfl, at0, fun v hv => ?_⟩
    obtain rfl := hv.str_inv
    exact ⟨_, .ty "str", .type "str", .type "str", true, rfl, .ty _, .base (.str _), kit_ty (by decide +kernel), _, rfl, _, rfl, rfl⟩
  rintro σ _ ⟨b, rfl, rfl⟩
  refine ⟨_, rfl, .inl ⟨rfl, _, SqL.of w9⟩, R2, ws, .int 0, rfl, rfl, w9, ?_, ?_⟩
  · have h1 := Tm.subs_len tm
    rw [hws.length, List.length_map]
    omega
  have nR2F : F ≠ R2 := ne_of_none hF8 hR2
  have X := TX.lst (o := .lst (ws ++ [.int 0])) w9
  have hF10 : upd H9 R2 (.lst (ws ++ [.int 0])) F = some (.lst acc) := by rw [upd_ne nR2F]; exact S9 _ _ hF8
  refine ⟨_, rfl, w, tm, rfl, (hw8.mono (TX.of_same S9)).mono X, okw, by omega, fun R3 H11 hR3 S11 L11 => ?_⟩
  refine ⟨_, rfl, R3, F, _, _, rfl, rfl, L11, ⟨acc, S11 _ _ hF10, ((hA8.mono (TX.of_same S9)).mono X).mono (TX.of_same S11)⟩, okS, okE, ?_⟩
  show Q (.bl (decide (tm.subs.map Tm.da = (dd [] tm.ends).map Tm.da))) _
  rw [ee]
  exact q _
end

def d_parts_of : He.DefD := ⟨("parts_of", none), "parts_of", "parts_of", defArgs s_parts_of, defBody s_parts_of, defScope s_parts_of, [], []⟩
def d__law_cell : He.DefD := ⟨("_law_cell", none), "_law_cell", "_law_cell", defArgs s__law_cell, defBody s__law_cell, defScope s__law_cell, [], []⟩
def d__law_dice : He.DefD := ⟨("_law_dice", none), "_law_dice", "_law_dice", defArgs s__law_dice, defBody s__law_dice, defScope s__law_dice, [], []⟩
def d__law_off : He.DefD := ⟨("_law_off", none), "_law_off", "_law_off", defArgs s__law_off, defBody s__law_off, defScope s__law_off, [], []⟩
def d__law_works : He.DefD := ⟨("_law_works", none), "_law_works", "_law_works", defArgs s__law_works, defBody s__law_works, defScope s__law_works, [], []⟩
def d__law_term : He.DefD := ⟨("_law_term", none), "_law_term", "_law_term", defArgs s__law_term, defBody s__law_term, defScope s__law_term, [], []⟩
def d__law_ends : He.DefD := ⟨("_law_ends", none), "_law_ends", "_law_ends", defArgs s__law_ends, defBody s__law_ends, defScope s__law_ends, [], []⟩
def d_law : He.DefD := ⟨("law", none), "law", "law", defArgs s_law, defBody s_law, defScope s_law, [], []⟩
def fn : List He.DefD := [d_parts_of, d__law_cell, d__law_dice, d__law_off, d__law_works, d__law_term, d__law_ends, d_law]
def fa : List He.Fa := [.glo "parts_of", .glo "_law_cell", .glo "_law_dice", .glo "_law_off", .glo "_law_works", .glo "_law_term", .glo "_law_ends", .glo "law", .free "len", .free "abs", .free "max", .free "min", .free "int", .free "tuple", .free "list", .free "range", .free "sum", .free "isinstance", .free "sorted", .free "set", .free "zip", .free "enumerate", .free "reversed", .free "str", .free "bool"]
def tabs : List He.Tab := []
/-- the built-in names are free -/
theorem bl_of {P : Program} {w : World} {K : PySem.W.Frag} {h base : Heap} {mg : Str → Option Value} (X : K.In h) (G : h.Ns mainGlobals mg) (c : He.SaysD fa fn K) : Bl ⟨P, w, K, mg, base⟩ :=
  ⟨He.free_ok X G (c.fact 8 (f := .free "len") rfl), He.free_ok X G (c.fact 9 (f := .free "abs") rfl), He.free_ok X G (c.fact 10 (f := .free "max") rfl), He.free_ok X G (c.fact 11 (f := .free "min") rfl), He.free_ok X G (c.fact 12 (f := .free "int") rfl), He.free_ok X G (c.fact 13 (f := .free "tuple") rfl), He.free_ok X G (c.fact 14 (f := .free "list") rfl), He.free_ok X G (c.fact 15 (f := .free "range") rfl), He.free_ok X G (c.fact 16 (f := .free "sum") rfl), He.free_ok X G (c.fact 17 (f := .free "isinstance") rfl), He.free_ok X G (c.fact 18 (f := .free "sorted") rfl), He.free_ok X G (c.fact 19 (f := .free "set") rfl), He.free_ok X G (c.fact 20 (f := .free "zip") rfl), He.free_ok X G (c.fact 21 (f := .free "enumerate") rfl), He.free_ok X G (c.fact 22 (f := .free "reversed") rfl), He.free_ok X G (c.fact 23 (f := .free "str") rfl), He.free_ok X G (c.fact 24 (f := .free "bool") rfl)⟩
theorem at_parts_of {P : Program} {w : World} {K : PySem.W.Frag} {h base : Heap} {mg : Str → Option Value} (X : K.In h) (G : h.Ns mainGlobals mg) (c : He.SaysD fa fn K) : At ⟨P, w, K, mg, base⟩ "parts_of" ["term"] s_parts_of := by
  obtain ⟨fd, F⟩ := c.def_ 0 (d := d_parts_of) rfl
  exact At.of_fun (f := He.ga K "parts_of") F (He.glo_ok X G (c.fact 0 (f := .glo "parts_of") rfl)) fun _ _ _ _ _ _ us hl => match us, hl with | [_], _ => rfl
theorem at__law_cell {P : Program} {w : World} {K : PySem.W.Frag} {h base : Heap} {mg : Str → Option Value} (X : K.In h) (G : h.Ns mainGlobals mg) (c : He.SaysD fa fn K) : At ⟨P, w, K, mg, base⟩ "_law_cell" ["_law_script", "_law_k"] s__law_cell := by
  obtain ⟨fd, F⟩ := c.def_ 1 (d := d__law_cell) rfl
  exact At.of_fun (f := He.ga K "_law_cell") F (He.glo_ok X G (c.fact 1 (f := .glo "_law_cell") rfl)) fun _ _ _ _ _ _ us hl => match us, hl with | [_, _], _ => rfl
theorem at__law_dice {P : Program} {w : World} {K : PySem.W.Frag} {h base : Heap} {mg : Str → Option Value} (X : K.In h) (G : h.Ns mainGlobals mg) (c : He.SaysD fa fn K) : At ⟨P, w, K, mg, base⟩ "_law_dice" ["_law_script", "_law_k"] s__law_dice := by
  obtain ⟨fd, F⟩ := c.def_ 2 (d := d__law_dice) rfl
  exact At.of_fun (f := He.ga K "_law_dice") F (He.glo_ok X G (c.fact 2 (f := .glo "_law_dice") rfl)) fun _ _ _ _ _ _ us hl => match us, hl with | [_, _], _ => rfl
theorem at__law_off {P : Program} {w : World} {K : PySem.W.Frag} {h base : Heap} {mg : Str → Option Value} (X : K.In h) (G : h.Ns mainGlobals mg) (c : He.SaysD fa fn K) : At ⟨P, w, K, mg, base⟩ "_law_off" ["_law_d", "_law_most"] s__law_off := by
  obtain ⟨fd, F⟩ := c.def_ 3 (d := d__law_off) rfl
  exact At.of_fun (f := He.ga K "_law_off") F (He.glo_ok X G (c.fact 3 (f := .glo "_law_off") rfl)) fun _ _ _ _ _ _ us hl => match us, hl with | [_, _], _ => rfl
theorem at__law_works {P : Program} {w : World} {K : PySem.W.Frag} {h base : Heap} {mg : Str → Option Value} (X : K.In h) (G : h.Ns mainGlobals mg) (c : He.SaysD fa fn K) : At ⟨P, w, K, mg, base⟩ "_law_works" ["_law_d"] s__law_works := by
  obtain ⟨fd, F⟩ := c.def_ 4 (d := d__law_works) rfl
  exact At.of_fun (f := He.ga K "_law_works") F (He.glo_ok X G (c.fact 4 (f := .glo "_law_works") rfl)) fun _ _ _ _ _ _ us hl => match us, hl with | [_], _ => rfl
theorem at__law_term {P : Program} {w : World} {K : PySem.W.Frag} {h base : Heap} {mg : Str → Option Value} (X : K.In h) (G : h.Ns mainGlobals mg) (c : He.SaysD fa fn K) : At ⟨P, w, K, mg, base⟩ "_law_term" ["_law_d", "_law_works_here", "_law_deep"] s__law_term := by
  obtain ⟨fd, F⟩ := c.def_ 5 (d := d__law_term) rfl
  exact At.of_fun (f := He.ga K "_law_term") F (He.glo_ok X G (c.fact 5 (f := .glo "_law_term") rfl)) fun _ _ _ _ _ _ us hl => match us, hl with | [_, _, _], _ => rfl
theorem at__law_ends {P : Program} {w : World} {K : PySem.W.Frag} {h base : Heap} {mg : Str → Option Value} (X : K.In h) (G : h.Ns mainGlobals mg) (c : He.SaysD fa fn K) : At ⟨P, w, K, mg, base⟩ "_law_ends" ["_law_term_here"] s__law_ends := by
  obtain ⟨fd, F⟩ := c.def_ 6 (d := d__law_ends) rfl
  exact At.of_fun (f := He.ga K "_law_ends") F (He.glo_ok X G (c.fact 6 (f := .glo "_law_ends") rfl)) fun _ _ _ _ _ _ us hl => match us, hl with | [_], _ => rfl
theorem at_law {P : Program} {w : World} {K : PySem.W.Frag} {h base : Heap} {mg : Str → Option Value} (X : K.In h) (G : h.Ns mainGlobals mg) (c : He.SaysD fa fn K) : At ⟨P, w, K, mg, base⟩ "law" ["_law_script"] s_law := by
  obtain ⟨fd, F⟩ := c.def_ 7 (d := d_law) rfl
  exact At.of_fun (f := He.ga K "law") F (He.glo_ok X G (c.fact 7 (f := .glo "law") rfl)) fun _ _ _ _ _ _ us hl => match us, hl with | [_], _ => rfl
abbrev lawLevel : Nat := 9
theorem law_has {P : Program} {w : World} {K : PySem.W.Frag} {h base : Heap} {mg : Str → Option Value} (X : K.In h) (G : h.Ns mainGlobals mg) (c : He.SaysT fa fn tabs w K) : Has ⟨P, w, K, mg, base⟩ 9 "law" ["_law_script"] (spLaw K) := by
  have c := c.d
  have B : Bl ⟨P, w, K, mg, base⟩ := bl_of X G c
  have h1 := ok_cell B (at__law_cell X G c)
  have h2 := ok_dice B (at__law_dice X G c) h1
  have h3 := ok_off B (at__law_off X G c) h1
  have h4 := ok_works B (at__law_works X G c) h3
  have h5 := ok_term B (at__law_term X G c) h3 4
  exact ok_law B (at_law X G c) h1 h2 h4 h5 (ok_ends (at__law_ends X G c) 8) (ok_parts (at_parts_of X G c) 8)

theorem law_end {P : Program} {w : World} {K : PySem.W.Frag} {h : Heap} {mg : Str → Option Value} {f : Addr} (X : K.In h) (G : h.Ns mainGlobals mg) (hfa : mg ("law" : Str) = some (.ref f)) (c : He.SaysT fa fn tabs w K) :
    ∃ (K : PySem.W.Frag) (fd : FuncData) (sp : Sp), K.In h ∧ (∀ (s : Shared) (u : Value), BindsTo s fd ⟨[u], []⟩ [("_law_script", u)]) ∧
      (∀ (H : Hp) (a : Addr) (ns : List Int), ns.length ≤ 63 → Only H → SqL K H a (ns.map V.int) → sp [.ref a] H (fun v _ => v = .bl true) fun _ _ _ => False) ∧
      ∀ base : Heap, K.In base → base.Ns mainGlobals mg → FnOk P w K mg base CX0 lawLevel f fd ["_law_script"] sp := by
  obtain ⟨fd, F⟩ := c.d.defs (d := d_law) (by simp [fn])
  have b := FunD.bindsA (ps := ["_law_script"]) F fun _ _ _ _ _ _ us hl => match us, hl with | [_], _ => rfl
  obtain ⟨oc, od, osl, lk⟩ := FunD.lk F
  refine ⟨K, fd, spLaw K, X, fun s v => b s [v] rfl, fun H a ns hl hO hS => ⟨a, ns, rfl, ?_, hl, fun _ => rfl⟩, fun base _ _ => ?_⟩
  · rcases hS with (hS | ⟨o, hS⟩) | hS
    · rcases hO a with z | ⟨o, xs, z⟩
      · rw [z] at hS; cases hS
      · rw [z] at hS; cases hS
    · exact .inl ⟨o, hS⟩
    · exact .inr fun H' => .inr hS
  · obtain ⟨f', fd', hF, m, _, _, oc', od', osl', lk'⟩ := law_has (P := P) (w := w) (base := base) X G c
    have e1 : f' = f := by
      have := m.symm.trans hfa
      injection this with this
      injection this
    subst e1
    have e2 : He.fAd K d_law.at_ = f' := by
      obtain ⟨i, hi, ei⟩ := List.mem_iff_getElem.mp (show He.Fa.glo "law" ∈ fa by simp [fa])
      have := He.glo_ok X G (c.d.facts (show He.Fa.glo "law" ∈ fa by simp [fa]))
      have := this.symm.trans hfa
      injection this with this
      injection this
    rw [e2] at lk
    rw [lk] at lk'
    have e3 : fd = fd' := by
      injection lk' with lk'
      injection lk' with _ _ lk' _
      injection lk'
    rw [e3]
    exact hF
/-! ### the head -/
abbrev RR : PySem.W.OpenRow := PySem.W.OpenLaw.row PySem.Challenge.rw_alikeboard_k01_parts_of_a_term
abbrev hk : PySem.W.Hook := He.hookT 6 fa fn tabs
def ob (s : PySem.W.SharedT) : He.AlT := He.obsTG 6 fa fn tabs (HandSHeadRun.getT s)
theorem ob_eq (s : PySem.W.SharedT) : ob s = hk.obs s.abs := He.obsTG_eq (HandSHeadRun.getT_eq s)
abbrev loose : List PySem.Str := ["parts_of", "_law_cell", "_law_dice", "_law_off", "_law_works", "_law_term", "_law_ends"]
set_option maxHeartbeats 0 in
theorem run (w : World) : HandSHeadRun.RunEq RR (PySem.W.view RR.prog [9]) hk ob 4000 loose w := by
  intro os
  kernel_rfl
end AB
open PySem PySem.W PySem.Calls PyProof.Rows
set_option maxHeartbeats 0 in
theorem PySem.Challenge.cw_alikeboard_k01_parts_of_a_term_holds : PySem.Challenge.rw_alikeboard_k01_parts_of_a_term.Holds := by
  w_on; o_law
  refine HandSHeadRun.head_any (r := OpenLaw.row PySem.Challenge.rw_alikeboard_k01_parts_of_a_term) (q := view (OpenLaw.row PySem.Challenge.rw_alikeboard_k01_parts_of_a_term).prog [9]) (H := AB.hk) (ob := AB.ob) (M := 4000) (loose := AB.loose) (d := HandSHeadRun.topDef (OpenLaw.row PySem.Challenge.rw_alikeboard_k01_parts_of_a_term).prog 9) (kwd := []) AB.ob_eq
    (by kernel_rfl) (fun s => by kernel_rfl) AB.run (by kernel_rfl) (by kernel_rfl) (by kernel_rfl) (by rfl) (by first | assumption | decide +kernel) (by decide +kernel) ⟨rfl, rfl, rfl, rfl, rfl, by decide +kernel⟩ ?hw ?hc
  case hw => w_witness2
  case hc =>
    refine L2.walk_ofE (l := PySem.Challenge.rw_alikeboard_k01_parts_of_a_term) (n := 63) (k := AB.lawLevel) (x := "_law_script") (CX := L2.CX0) rfl (by decide) (by kernel_rfl) ⟨rfl, by decide, by decide⟩ ?F (fun _ _ _ _ z => z)
    intro w mg fa h Y G hmg0
    obtain ⟨K, KX, c⟩ := Y
    have hmg : mg ("law" : PySem.Str) = some (.ref fa) := by
      have e : (HandSHeadRun.topDef (OpenLaw.row PySem.Challenge.rw_alikeboard_k01_parts_of_a_term).prog 9).name = ("law" : PySem.Str) := by kernel_rfl
      rw [← e]
      exact hmg0
    exact AB.law_end KX G hmg c

#print axioms PySem.Challenge.cw_alikeboard_k01_parts_of_a_term_holds

