import PyProof.Rows.All
import Wide.All
import OpenK.AllK
import Wide.FinOn
import HandS.ForMost
import HandS.WordsExc
import HandS.Defaults
import HandS.Strs
import HandS.SetFor
import HandS.IsInst
import HandS.Conv
import HandS.Zip
import HandS.TupMul
import HandS.TupLe
import HandS.TupAny
import HandS.Style
import HandS.Flow
import HandS.DictComp
import HandS.SortInts
import HandS.Wide
import HandS.Walk
import KE.DataMinMax
import KE.KIndexOf
import PyProof.TupleOfSeq
import PyProof.ReprRoads
import PyProof.SumWalkG
import HandS.SetBool
import KE.GoesEnum
import HandS.SetIn
import HandS.Head0
import HandS.Head1
import HandS.Head2
import KE.SortData
import HandS.EndBits
import KE.KStateDown
import HandS.HeadEnd
import HandS.HeadHook1
import HandS.HeadHook2
import PySem.Challenge.RW_allworlds_k20_whole_clusters_sizes_and_f
set_option Elab.async false
set_option linter.all false
set_option maxRecDepth 100000
set_option maxHeartbeats 1000000
namespace DL
open PySem PySem.Spec PyProof.Rows L2
/-! ### data that stands still -/
/-- a tuple; where its object is told, it has no dict -/
def Tp (F : Hp) (a : Addr) (xs : List V) : Prop := F a = some (.tup xs) ∨ ∃ o : Obj, o.dict = none ∧ F a = some (.frz o (.tup xs))
mutual
inductive Df (F : Hp) : V → PyData → Prop
  | non : Df F .non .none
  | bl (b : Bool) : Df F (.bl b) (.bool b)
  | int (i : Int) : Df F (.int i) (.int i)
  | str (x : Str) : Df F (.str x) (.str x)
  | lst {a : Addr} {xs : List V} {ds : List PyData} (h : F a = some (.lst xs)) (r : DfA F xs ds) : Df F (.ref a) (.list ds)
  | tup {a : Addr} {xs : List V} {ds : List PyData} (h : Tp F a xs) (r : DfA F xs ds) : Df F (.ref a) (.tuple ds)
inductive DfA (F : Hp) : List V → List PyData → Prop
  | nil : DfA F [] []
  | cons {v : V} {vs : List V} {d : PyData} {ds : List PyData} (h : Df F v d) (r : DfA F vs ds) : DfA F (v :: vs) (d :: ds)
end
mutual
/-- no list within -/
def lf : PyData → Bool
  | .none => true
  | .bool _ => true
  | .int _ => true
  | .str _ => true
  | .list _ => false
  | .tuple ds => lfA ds
  | .dict _ => false
def lfA : List PyData → Bool
  | [] => true
  | d :: ds => lf d && lfA ds
end
def Sub (F H : Hp) : Prop := ∀ a o, F a = some o → H a = some o
theorem Sub.rfl' {F : Hp} : Sub F F := fun _ _ h => h
theorem Sub.trans {A B C : Hp} (x : Sub A B) (y : Sub B C) : Sub A C := fun a o h => y a o (x a o h)
theorem Tp.mono {F H : Hp} (s : Sub F H) {a : Addr} {xs : List V} (h : Tp F a xs) : Tp H a xs := h.imp (s _ _) fun ⟨o, e, h⟩ => ⟨o, e, s _ _ h⟩
theorem Tp.sq {K : PySem.W.Frag} {F H : Hp} (s : Sub F H) {a : Addr} {xs : List V} (h : Tp F a xs) : SqT K H a xs := .inl (h.imp (s _ _) fun ⟨o, _, h⟩ => ⟨o, s _ _ h⟩)
theorem Tp.here {F : Hp} {a : Addr} {xs : List V} : Tp (upd F a (.tup xs)) a xs := .inl upd_same
theorem sub_upd {F : Hp} {p : Addr} {o : HO} (h : F p = none) : Sub F (upd F p o) := fun a u e => by
  rw [upd_ne (ne_of_none e h)]; exact e
mutual
theorem Df.mono {F F' : Hp} (s : Sub F F') : ∀ {d : PyData} {v : V}, Df F v d → Df F' v d
  | _, _, .non => .non
  | _, _, .bl b => .bl b
  | _, _, .int i => .int i
  | _, _, .str x => .str x
  | _, _, .lst h r => .lst (s _ _ h) (DfA.mono s r)
  | _, _, .tup h r => .tup (h.mono s) (DfA.mono s r)
theorem DfA.mono {F F' : Hp} (s : Sub F F') : ∀ {ds : List PyData} {vs : List V}, DfA F vs ds → DfA F' vs ds
  | _, _, .nil => .nil
  | _, _, .cons h r => .cons (Df.mono s h) (DfA.mono s r)
end
mutual
theorem Df.dp {K : PySem.W.Frag} {F H : Hp} (s : Sub F H) : ∀ {d : PyData} {v : V}, Df F v d → Dp K H v d
  | _, _, .non => .non
  | _, _, .bl b => .bl b
  | _, _, .int i => .int i
  | _, _, .str x => .str x
  | _, _, .lst h r => .lst (SqL.of (s _ _ h)) (DfA.dp s r)
  | _, _, .tup h r => .tup (h.sq s) (DfA.dp s r)
theorem DfA.dp {K : PySem.W.Frag} {F H : Hp} (s : Sub F H) : ∀ {ds : List PyData} {vs : List V}, DfA F vs ds → DpAll K H vs ds
  | _, _, .nil => .nil
  | _, _, .cons h r => .cons (Df.dp s h) (DfA.dp s r)
end
mutual
/-- what has no list leans on tuples alone -/
theorem Df.thaw {F F' : Hp} (s : ∀ a xs, Tp F a xs → Tp F' a xs) : ∀ {d : PyData} {v : V}, Df F v d → lf d = true → Df F' v d
  | _, _, .non, _ => .non
  | _, _, .bl b, _ => .bl b
  | _, _, .int i, _ => .int i
  | _, _, .str x, _ => .str x
  | _, _, .lst h r, e => by simp [lf] at e
  | _, _, .tup h r, e => .tup (s _ _ h) (DfA.thaw s r (by simpa [lf] using e))
theorem DfA.thaw {F F' : Hp} (s : ∀ a xs, Tp F a xs → Tp F' a xs) : ∀ {ds : List PyData} {vs : List V}, DfA F vs ds → lfA ds = true → DfA F' vs ds
  | _, _, .nil, _ => .nil
  | _, _, .cons h r, e => by
    simp only [lfA, Bool.and_eq_true] at e
    exact .cons (Df.thaw s h e.1) (DfA.thaw s r e.2)
end
theorem DfA.length {F : Hp} : ∀ {vs : List V} {ds : List PyData}, DfA F vs ds → vs.length = ds.length
  | _, _, .nil => rfl
  | _, _, .cons _ r => by rw [List.length_cons, List.length_cons, DfA.length r]
theorem DfA.append {F : Hp} : ∀ {vs ws : List V} {ds es : List PyData}, DfA F vs ds → DfA F ws es → DfA F (vs ++ ws) (ds ++ es)
  | _, _, _, _, .nil, s => s
  | _, _, _, _, .cons h r, s => .cons h (DfA.append r s)
theorem DfA.get {F : Hp} : ∀ {vs : List V} {ds : List PyData} {i : Nat} {d : PyData}, DfA F vs ds → ds[i]? = some d → ∃ v, vs[i]? = some v ∧ Df F v d
  | _, _, _, _, .nil, e => by simp at e
  | _, _, 0, _, .cons h r, e => by
    simp at e; subst e; exact ⟨_, rfl, h⟩
  | _, _, i + 1, d, .cons h r, e => by
    obtain ⟨v, e1, e2⟩ := DfA.get (i := i) (d := d) r (by simpa using e)
    exact ⟨v, by simpa using e1, e2⟩
theorem DfA.getV {F : Hp} : ∀ {vs : List V} {ds : List PyData} {i : Nat} {v : V}, DfA F vs ds → vs[i]? = some v → ∃ d, ds[i]? = some d ∧ Df F v d
  | _, _, _, _, .nil, e => by simp at e
  | _, _, 0, _, .cons h r, e => by
    simp at e; subst e; exact ⟨_, rfl, h⟩
  | _, _, i + 1, d, .cons h r, e => by
    obtain ⟨v, e1, e2⟩ := DfA.getV (i := i) (v := d) r (by simpa using e)
    exact ⟨v, by simpa using e1, e2⟩
theorem DfA.take {F : Hp} : ∀ {vs : List V} {ds : List PyData} (n : Nat), DfA F vs ds → DfA F (vs.take n) (ds.take n)
  | _, _, 0, _ => .nil
  | _, _, _ + 1, .nil => .nil
  | _, _, n + 1, .cons h r => .cons h (DfA.take n r)
theorem DfA.drop {F : Hp} : ∀ {vs : List V} {ds : List PyData} (n : Nat), DfA F vs ds → DfA F (vs.drop n) (ds.drop n)
  | _, _, 0, r => r
  | _, _, _ + 1, .nil => .nil
  | _, _, n + 1, .cons _ r => DfA.drop n r
theorem DfA.rev {F : Hp} : ∀ {vs : List V} {ds : List PyData}, DfA F vs ds → DfA F vs.reverse ds.reverse
  | _, _, .nil => .nil
  | _, _, .cons h r => by
    rw [List.reverse_cons, List.reverse_cons]
    exact DfA.append (DfA.rev r) (.cons h .nil)
theorem DfA.ints {F : Hp} : ∀ {vs : List V} {ns : List Int}, DfA F vs (ns.map .int) → vs = ns.map V.int
  | _, [], .nil => rfl
  | _, n :: ns, .cons h r => by
    cases h
    rw [DfA.ints r]; rfl
theorem DfA.bools {F : Hp} : ∀ {vs : List V} {ns : List Bool}, DfA F vs (ns.map .bool) → vs = ns.map V.bl
  | _, [], .nil => rfl
  | _, n :: ns, .cons h r => by
    cases h
    rw [DfA.bools r]; rfl
theorem DfA.of_ints {F : Hp} : ∀ (ns : List Int), DfA F (ns.map V.int) (ns.map .int)
  | [] => .nil
  | n :: ns => .cons (.int n) (DfA.of_ints ns)

/-! ### values as the proofs see them -/
inductive EV where
  /-- data that never changes from here on -/
  | d (x : PyData)
  /-- a list that is read here, and kept by somebody -/
  | l (xs : List PyData)
  /-- a list of one's own -/
  | o (xs : List PyData)
  /-- a set of ints of one's own, its members -/
  | s (ns : List Int)
  /-- a dict of one's own -/
  | dic (kvs : List (Int × PyData))
  /-- a net, its things -/
  | net (x : PyData)
  /-- the source of draws -/
  | hp
  /-- the script -/
  | scr (ns : List Int)
  /-- a set that is read here -/
  | rs (ns : List Int)
  /-- data of the module's own -/
  | k (x : PyData)
  /-- a tuple that has no dict -/
  | dn (x : PyData)
  /-- a built-in class -/
  | ty (n : String)
abbrev Env := List (Option EV)
/-- the lists of the source of draws -/
abbrev Gp := Option (Addr × Addr)
def inG (G : Gp) (p : Addr) : Prop := match G with
  | some (a, b) => p = a ∨ p = b
  | none => False
/-- what is known of the numbers of a source: great cells, the stir -/
structure Cells (ns : List Int) (st : Int) : Prop where
  pos : ∀ n ∈ ns, 0 ≤ n ∧ n.natAbs < 2 ^ 1048600
  len : ns.length ≤ 100
  st0 : 0 ≤ st
  st1 : st < 2147483647
def HeapOk (G : Gp) (F H : Hp) : Prop := match G with
  | some (a, b) => a ≠ b ∧ F a = none ∧ F b = none ∧ ∃ ns st, H a = some (.lst [.ref b, .int st]) ∧ H b = some (.lst (ns.map V.int)) ∧ Cells ns st
  | none => True
structure Wd (G : Gp) (F H : Hp) : Prop where
  sub : Sub F H
  heap : HeapOk G F H
structure Ext (G : Gp) (F H F' H' : Hp) : Prop where
  f : Sub F F'
  nf : ∀ a, H a ≠ none → F' a = F a
  h : ∀ a o, H a = some o → ¬ inG G a → H' a = some o
  n : ∀ a, H a ≠ none → H' a ≠ none
  w : Wd G F' H'
theorem Ext.rfl' {G : Gp} {F H : Hp} (w : Wd G F H) : Ext G F H F H := ⟨fun _ _ h => h, fun _ _ => rfl, fun _ _ h _ => h, fun _ h => h, w⟩
theorem Ext.trans {G : Gp} {F H F1 H1 F2 H2 : Hp} (x : Ext G F H F1 H1) (y : Ext G F1 H1 F2 H2) : Ext G F H F2 H2 :=
  ⟨x.f.trans y.f, fun a h => (y.nf a (x.n a h)).trans (x.nf a h), fun a o h g => y.h a o (x.h a o h g) g, fun a h => y.n a (x.n a h), y.w⟩
theorem some_ne {H : Hp} {a : Addr} {o : HO} (h : H a = some o) : H a ≠ none := by rw [h]; intro z; cases z
theorem Ext.fresh {G : Gp} {F H F' H' : Hp} (x : Ext G F H F' H') {p : Addr} (h : H' p = none) : H p = none := by
  cases e : H p with
  | none => rfl
  | some o => exact absurd h (x.n p (some_ne e))
theorem Wd.nf {G : Gp} {F H : Hp} (w : Wd G F H) {p : Addr} (h : H p = none) : F p = none := by
  cases e : F p with
  | none => rfl
  | some o => rw [w.sub p o e] at h; cases h
theorem HeapOk.inH {G : Gp} {F H : Hp} (h : HeapOk G F H) {p : Addr} (g : inG G p) : H p ≠ none ∧ F p = none := by
  unfold inG at g
  unfold HeapOk at h
  split at g
  · obtain ⟨_, f1, f2, ns, st, h1, h2, _⟩ := h
    rcases g with rfl | rfl
    · exact ⟨some_ne h1, f1⟩
    · exact ⟨some_ne h2, f2⟩
  · cases g
theorem Wd.fresh {G : Gp} {F H : Hp} (w : Wd G F H) {p : Addr} (h : H p = none) : ¬ inG G p := fun g => (w.heap.inH g).1 h
/-- a new object, not frozen -/
theorem HeapOk.upd {G : Gp} {F H : Hp} (h : HeapOk G F H) {p : Addr} (hp : ¬ inG G p) (o : HO) : HeapOk G F (upd H p o) := by
  unfold HeapOk at h ⊢
  unfold inG at hp
  split
  · obtain ⟨ab, f1, f2, ns, st, h1, h2, c⟩ := h
    simp only [not_or] at hp
    exact ⟨ab, f1, f2, ns, st, by rw [upd_ne (Ne.symm hp.1)]; exact h1, by rw [upd_ne (Ne.symm hp.2)]; exact h2, c⟩
  · trivial
theorem HeapOk.updF {G : Gp} {F H : Hp} (h : HeapOk G F H) {p : Addr} (hp : ¬ inG G p) (o : HO) : HeapOk G (L2.upd F p o) H := by
  unfold HeapOk at h ⊢
  unfold inG at hp
  split
  · obtain ⟨ab, f1, f2, ns, st, h1, h2, c⟩ := h
    simp only [not_or] at hp
    exact ⟨ab, by rw [upd_ne (Ne.symm hp.1)]; exact f1, by rw [upd_ne (Ne.symm hp.2)]; exact f2, ns, st, h1, h2, c⟩
  · trivial
theorem Ext.new {G : Gp} {F H : Hp} (w : Wd G F H) {p : Addr} (h : H p = none) (o : HO) : Ext G F H F (upd H p o) :=
  ⟨fun _ _ h => h, fun _ _ => rfl, fun a u e _ => by rw [upd_ne (ne_of_none e h)]; exact e, fun a e => by
    by_cases q : a = p
    · subst q; exact absurd h e
    · rw [upd_ne q]; exact e, ⟨w.sub.trans (sub_upd h), w.heap.upd (w.fresh h) o⟩⟩
/-- a new object that is frozen at once -/
theorem Ext.newF {G : Gp} {F H : Hp} (w : Wd G F H) {p : Addr} (h : H p = none) (o : HO) : Ext G F H (upd F p o) (upd H p o) :=
  ⟨sub_upd (w.nf h), fun a e => upd_ne (fun q => by subst q; exact e h), fun a u e _ => by rw [upd_ne (ne_of_none e h)]; exact e, fun a e => by
    by_cases q : a = p
    · subst q; exact absurd h e
    · rw [upd_ne q]; exact e, ⟨fun a u e => by
      by_cases q : a = p
      · subst q; rw [upd_same] at e ⊢; exact e
      · rw [upd_ne q] at e ⊢; exact w.sub a u e, (w.heap.upd (w.fresh h) o).updF (w.fresh h) o⟩⟩
/-- a list of one's own is frozen -/
theorem Ext.frz {G : Gp} {F H F' H' : Hp} (x : Ext G F H F' H') {p : Addr} {o : HO} (h : H p = none) (h' : H' p = some o) (hg : ¬ inG G p) : Ext G F H (upd F' p o) H' := by
  have hf : F' p = none ∨ F' p = some o := by
    cases e : F' p with
    | none => exact .inl rfl
    | some u =>
      have := x.w.sub p u e
      rw [h'] at this
      exact .inr this.symm
  refine ⟨fun a u e => ?_, fun a e => ?_, x.h, x.n, ⟨fun a u e => ?_, x.w.heap.updF hg o⟩⟩
  · by_cases q : a = p
    · subst q
      rw [upd_same]
      rcases hf with z | z
      · have := x.f a u e; rw [z] at this; cases this
      · rw [← z]; exact x.f a u e
    · rw [upd_ne q]; exact x.f a u e
  · rw [upd_ne (fun q => by subst q; exact e h)]; exact x.nf a e
  · by_cases q : a = p
    · subst q; rw [upd_same] at e; rw [h']; exact e
    · rw [upd_ne q] at e; exact x.w.sub a u e
end DL
set_option Elab.async false
set_option linter.all false
set_option maxRecDepth 100000
set_option maxHeartbeats 1000000
namespace DL
open PySem PySem.Spec PyProof.Rows L2
section
variable (K : PySem.W.Frag) (w : World)
/-- how a value is told; H0: ahead of it what is one's own did not stand -/
def Rep (G : Gp) (H0 F H : Hp) (v : V) : EV → Prop
  | .d x => Df F v x
  | .l xs => ∃ p vs, v = .ref p ∧ ¬ inG G p ∧ H p = some (.lst vs) ∧ DfA F vs xs
  | .o xs => ∃ p vs, v = .ref p ∧ ¬ inG G p ∧ H p = some (.lst vs) ∧ DfA F vs xs ∧ H0 p = none ∧ F p = none
  | .s ns => ∃ p, v = .ref p ∧ ¬ inG G p ∧ H p = some (SetO w p (fun k => decide (k ∈ ns)) ns.length) ∧ ns.Nodup ∧ H0 p = none ∧ F p = none
  | .dic kvs => ∃ p ks, v = .ref p ∧ ¬ inG G p ∧ H p = some (.dK ks) ∧ Paired (fun (q : Key × V) (e : Int × PyData) => q.1 = .inl e.1 ∧ Df F q.2 e.2) ks kvs
  | .net x => ∃ p C dx u, v = .ref p ∧ ¬ inG G p ∧ H p = some (.ins C dx [(("things" : Str), u)]) ∧ Df F u x ∧ Cls K C ∧ NoAttr K C "things"
  | .hp => ∃ a b, G = some (a, b) ∧ v = .ref a
  | .scr ns => ∃ a, v = .ref a ∧ ((¬ inG G a ∧ ∃ o, H a = some (.frz o (.lst (ns.map V.int)))) ∨ ∀ H' : Hp, SqL K H' a (ns.map V.int))
  | .rs ns => ∃ p, v = .ref p ∧ ¬ inG G p ∧ H p = some (SetO w p (fun k => decide (k ∈ ns)) ns.length) ∧ ns.Nodup
  | .k x => ∀ H' : Hp, Dp K H' v x
  | .dn x => Df F v x ∧ ∃ (a : Addr) (o : Obj) (u : HO), v = .ref a ∧ F a = some (.frz o u) ∧ o.dict = none
  | .ty n => v = .ty n
end
section
variable {K : PySem.W.Frag} {w : World} {G : Gp} {H0 H00 F H F' H' : Hp} {v : V} {r : EV}
theorem Rep.ext (x : Ext G F H F' H') (h : Rep K w G H0 F H v r) : Rep K w G H0 F' H' v r := by
  cases r with
  | d y => exact Df.mono x.f h
  | l xs => obtain ⟨p, vs, e, g, a, b⟩ := h; exact ⟨p, vs, e, g, x.h _ _ a g, DfA.mono x.f b⟩
  | o xs => obtain ⟨p, vs, e, g, a, b, c, d⟩ := h; exact ⟨p, vs, e, g, x.h _ _ a g, DfA.mono x.f b, c, (x.nf p (some_ne a)).trans d⟩
  | s ns => obtain ⟨p, e, g, a, b, c, d⟩ := h; exact ⟨p, e, g, x.h _ _ a g, b, c, (x.nf p (some_ne a)).trans d⟩
  | dic kvs => obtain ⟨p, ks, e, g, a, b⟩ := h; exact ⟨p, ks, e, g, x.h _ _ a g, Paired.mapP b fun _ _ z => ⟨z.1, Df.mono x.f z.2⟩⟩
  | net y => obtain ⟨p, C, dx, u, e, g, a, b, c, d⟩ := h; exact ⟨p, C, dx, u, e, g, x.h _ _ a g, Df.mono x.f b, c, d⟩
  | hp => exact h
  | scr ns =>
    obtain ⟨a, e, z⟩ := h
    refine ⟨a, e, ?_⟩
    rcases z with ⟨g, o, z⟩ | z
    · exact .inl ⟨g, o, x.h _ _ z g⟩
    · exact .inr z
  | rs ns => obtain ⟨p, e, g, a, b⟩ := h; exact ⟨p, e, g, x.h _ _ a g, b⟩
  | k y => exact h
  | dn y => obtain ⟨h, a, o, u, e, f, d⟩ := h; exact ⟨Df.mono x.f h, a, o, u, e, x.f _ _ f, d⟩
  | ty n => exact h
/-- told from an earlier start -/
theorem Rep.start (hs : ∀ a, H0 a = none → H00 a = none) (h : Rep K w G H0 F H v r) : Rep K w G H00 F H v r := by
  cases r with
  | o xs => obtain ⟨p, vs, e, g, a, b, c, d⟩ := h; exact ⟨p, vs, e, g, a, b, hs _ c, d⟩
  | s ns => obtain ⟨p, e, g, a, b, c, d⟩ := h; exact ⟨p, e, g, a, b, hs _ c, d⟩
  | _ => exact h
theorem Rep.back (x : Ext G F H F' H') {F2 H2 : Hp} (h : Rep K w G H' F2 H2 v r) : Rep K w G H F2 H2 v r := h.start fun _ e => x.fresh e
def own : EV → Bool
  | .o _ => true
  | .s _ => true
  | _ => false
/-- what a slot may hold -/
def keep : EV → Bool
  | .l _ => false
  | .rs _ => false
  | _ => true
structure Sta (K : PySem.W.Frag) (w : World) (G : Gp) (H0 F H : Hp) (σ : L2.St) (ρ : Env) : Prop where
  len : σ.length = ρ.length
  at_ : ∀ (i : Nat) (ev : EV), ρ[i]? = some (some ev) → ∃ v, σ[i]? = some (some v) ∧ Rep K w G H0 F H v ev
  nol : ∀ (i : Nat) (ev : EV), ρ[i]? = some (some ev) → keep ev = true
  one : ∀ (i j : Nat) (p : Addr) (x y : EV), i ≠ j → ρ[i]? = some (some x) → own x = true → ρ[j]? = some (some y) → own y = true → σ[i]? = some (some (.ref p)) → σ[j]? ≠ some (some (.ref p))
variable {σ : L2.St} {ρ : Env}
theorem Sta.ext (x : Ext G F H F' H') (s : Sta K w G H0 F H σ ρ) : Sta K w G H0 F' H' σ ρ :=
  ⟨s.len, fun i ev e => let ⟨v, a, b⟩ := s.at_ i ev e; ⟨v, a, b.ext x⟩, s.nol, s.one⟩
theorem Rep.own_at (h : Rep K w G H0 F H v r) (ho : own r = true) : ∃ p, v = .ref p ∧ H p ≠ none ∧ H0 p = none := by
  cases r with
  | o xs => obtain ⟨p, vs, e, g, a, b, c, d⟩ := h; exact ⟨p, e, some_ne a, c⟩
  | s ns => obtain ⟨p, e, g, a, b, c, d⟩ := h; exact ⟨p, e, some_ne a, c⟩
  | _ => cases ho
/-- a slot is stored -/
theorem Sta.set (s : Sta K w G H0 F H σ ρ) (x : Ext G F H F' H') (h0 : ∀ a, H a = none → H0 a = none) (h : Rep K w G H F' H' v r) (hk : keep r = true) (i : Nat) : Sta K w G H0 F' H' (σ.set i (some v)) (ρ.set i (some r)) := by
  refine ⟨by rw [List.length_set, List.length_set]; exact s.len, fun j ev e => ?_, fun j ev e => ?_, fun j k p y z ne e1 o1 e2 o2 f1 f2 => ?_⟩
  · by_cases hj : i = j
    · subst hj
      have hl : i < ρ.length := by
        have := (List.getElem?_eq_some_iff.mp e).1
        rwa [List.length_set] at this
      rw [List.getElem?_set_self hl] at e
      cases e
      exact ⟨v, by rw [List.getElem?_set_self (by rw [s.len]; exact hl)], h.start h0⟩
    · rw [List.getElem?_set_ne hj] at e
      obtain ⟨u, a, b⟩ := s.at_ j ev e
      exact ⟨u, by rw [List.getElem?_set_ne hj]; exact a, b.ext x⟩
  · by_cases hj : i = j
    · subst hj
      have hl : i < ρ.length := by
        have := (List.getElem?_eq_some_iff.mp e).1
        rwa [List.length_set] at this
      rw [List.getElem?_set_self hl] at e
      cases e
      exact hk
    · rw [List.getElem?_set_ne hj] at e
      exact s.nol j ev e
  · -- two owned slots: one of them may be new
    have key : ∀ {j k : Nat} {y z : EV}, j ≠ k → i = j → (ρ.set i (some r))[j]? = some (some y) → own y = true → (ρ.set i (some r))[k]? = some (some z) → own z = true →
        (σ.set i (some v))[j]? = some (some (.ref p)) → (σ.set i (some v))[k]? = some (some (.ref p)) → False := by
      intro j k y z ne hj e1 o1 e2 o2 f1 f2
      subst hj
      have hl : i < ρ.length := by
        have := (List.getElem?_eq_some_iff.mp e1).1
        rwa [List.length_set] at this
      rw [List.getElem?_set_self hl] at e1
      cases e1
      rw [List.getElem?_set_self (by rw [s.len]; exact hl)] at f1
      cases f1
      obtain ⟨q, eq, _, hq⟩ := h.own_at o1
      cases eq
      rw [List.getElem?_set_ne ne] at e2 f2
      obtain ⟨u, a, b⟩ := s.at_ k z e2
      rw [f2] at a
      cases a
      obtain ⟨q2, eq2, hq2, _⟩ := b.own_at o2
      cases eq2
      exact hq2 hq
    by_cases hj : i = j
    · exact key ne hj e1 o1 e2 o2 f1 f2
    · by_cases hk : i = k
      · exact key ne.symm hk e2 o2 e1 o1 f2 f1
      · rw [List.getElem?_set_ne hj] at e1 f1
        rw [List.getElem?_set_ne hk] at e2 f2
        exact s.one j k p y z ne e1 o1 e2 o2 f1 f2
/-- a slot is forgotten -/
theorem Sta.drop (s : Sta K w G H0 F H σ ρ) {σ' : L2.St} {ρ' : Env} (hl : σ'.length = ρ'.length) (h : ∀ (i : Nat) (ev : EV), ρ'[i]? = some (some ev) → ρ[i]? = some (some ev) ∧ σ'[i]? = σ[i]?) : Sta K w G H0 F H σ' ρ' := by
  refine ⟨hl, fun i ev e => ?_, fun i ev e => s.nol i ev (h i ev e).1, fun i j p x y ne e1 o1 e2 o2 f1 f2 => ?_⟩
  · obtain ⟨a, b⟩ := h i ev e
    obtain ⟨v, c, d⟩ := s.at_ i ev a
    exact ⟨v, b.trans c, d⟩
  · obtain ⟨a1, b1⟩ := h i x e1
    obtain ⟨a2, b2⟩ := h j y e2
    exact s.one i j p x y ne a1 o1 a2 o2 (b1 ▸ f1) (b2 ▸ f2)
/-- an object of one's own has changed -/
theorem Sta.mutate (s : Sta K w G H0 F H σ ρ) {i : Nat} {x y : EV} {p : Addr} {o : HO} (e : ρ[i]? = some (some x)) (ho : own x = true) (f : σ[i]? = some (some (.ref p)))
    (hn : Rep K w G H0 F (upd H p o) (.ref p) y) (hk : ∀ q u, H q = some u → (∃ zs, u = .dK zs) ∨ (∃ C dx fs, u = .ins C dx fs) ∨ (∃ b c, u = .frz b c) → q ≠ p) (hy : keep y = true) :
    Sta K w G H0 F (upd H p o) σ (ρ.set i (some y)) := by
  have hi : i < ρ.length := (List.getElem?_eq_some_iff.mp e).1
  have hoy : ∀ {z : EV}, own z = true → own x = true := fun _ => ho
  refine ⟨by rw [List.length_set]; exact s.len, fun j ev e2 => ?_, fun j ev e2 => ?_, fun j k q a b ne e1 o1 e2 o2 f1 f2 => ?_⟩
  · by_cases hj : i = j
    · subst hj
      rw [List.getElem?_set_self hi] at e2
      cases e2
      exact ⟨_, f, hn⟩
    · rw [List.getElem?_set_ne hj] at e2
      obtain ⟨u, a, b⟩ := s.at_ j ev e2
      refine ⟨u, a, ?_⟩
      cases ev with
      | d x => exact b
      | l xs => exact absurd (s.nol j _ e2) (by intro z; cases z)
      | rs xs => exact absurd (s.nol j _ e2) (by intro z; cases z)
      | k z => exact b
      | dn z => exact b
      | ty z => exact b
      | o xs =>
        obtain ⟨q, vs, e3, g, c, d, h1, h2⟩ := b
        subst e3
        have hq : q ≠ p := fun z => by subst z; exact s.one i j q x (.o xs) hj e ho e2 rfl f a
        exact ⟨q, vs, rfl, g, by rw [upd_ne hq]; exact c, d, h1, h2⟩
      | s ns =>
        obtain ⟨q, e3, g, c, d, h1, h2⟩ := b
        subst e3
        have hq : q ≠ p := fun z => by subst z; exact s.one i j q x (.s ns) hj e ho e2 rfl f a
        exact ⟨q, rfl, g, by rw [upd_ne hq]; exact c, d, h1, h2⟩
      | dic kvs =>
        obtain ⟨q, ks, e3, g, c, d⟩ := b
        exact ⟨q, ks, e3, g, by rw [upd_ne (hk q _ c (.inl ⟨_, rfl⟩))]; exact c, d⟩
      | net z =>
        obtain ⟨q, C, dx, u2, e3, g, c, d⟩ := b
        exact ⟨q, C, dx, u2, e3, g, by rw [upd_ne (hk q _ c (.inr (.inl ⟨_, _, _, rfl⟩)))]; exact c, d⟩
      | hp => exact b
      | scr ns =>
        obtain ⟨q, e3, z⟩ := b
        refine ⟨q, e3, ?_⟩
        rcases z with ⟨g, ob, z⟩ | z
        · exact .inl ⟨g, ob, by rw [upd_ne (hk q _ z (.inr (.inr ⟨_, _, rfl⟩)))]; exact z⟩
        · exact .inr z
  · by_cases hj : i = j
    · subst hj
      rw [List.getElem?_set_self hi] at e2
      cases e2
      exact hy
    · rw [List.getElem?_set_ne hj] at e2
      exact s.nol j ev e2
  · have low : ∀ {j : Nat} {a : EV}, (ρ.set i (some y))[j]? = some (some a) → own a = true → ∃ a', ρ[j]? = some (some a') ∧ own a' = true := fun {j a} e1 o1 => by
      by_cases hj : i = j
      · subst hj; exact ⟨x, e, ho⟩
      · rw [List.getElem?_set_ne hj] at e1; exact ⟨a, e1, o1⟩
    obtain ⟨a', e1', o1'⟩ := low e1 o1
    obtain ⟨b', e2', o2'⟩ := low e2 o2
    exact s.one j k q a' b' ne e1' o1' e2' o2' f1 f2
end
end DL
set_option Elab.async false
set_option linter.all false
set_option maxRecDepth 100000
set_option maxHeartbeats 1000000
namespace DL
open PySem PySem.Spec PyProof.Rows L2
/-! ### where one stands -/
structure Sx where
  N : List Str
  sc : Scope
  fn : Str → Bool
  P : Program
  w : World
  K : PySem.W.Frag
  mg : Str → Option Value
  base : Heap
  k : Nat
structure Ctx (S : Sx) (X : Cx) : Prop where
  N : X.N = S.N
  sc : X.env.scope = S.sc
  fn : X.fn = S.fn
  P : X.prog = S.P
  w : X.w = S.w
  K : X.K = S.K
  mg : X.mg = S.mg
  base : X.base = S.base
  calm : X.calm = true
  xe : X.xe = fun _ _ => False
  nd : S.N.Nodup
  hr : Room S.k X.A
  gd : X.A.guards = some []
  cd : PySem.W.kdsCode S.K X.env.code = true
abbrev TD := Env → (EV → Prop) → Prop
abbrev TB := Env → (Bool → Prop) → Prop
abbrev TAd := Env → (List EV → Prop) → Prop
/-- behind an expression -/
def Kn (S : Sx) (G : Gp) (F H : Hp) (Q : EV → Prop) (C : VK) : Prop := ∀ r v F' H', Ext G F H F' H' → Rep S.K S.w G H F' H' v r → Q r → C v H'
def KnB (G : Gp) (F H : Hp) (Q : Bool → Prop) (C : Bool → Hp → Prop) : Prop := ∀ b F' H', Ext G F H F' H' → Q b → C b H'
/-- values beside one another -/
inductive Reps (K : PySem.W.Frag) (w : World) (G : Gp) (H0 F H : Hp) : List V → List EV → Prop
  | nil : Reps K w G H0 F H [] []
  | cons {v : V} {vs : List V} {r : EV} {rs : List EV} (h : Rep K w G H0 F H v r) (t : Reps K w G H0 F H vs rs)
      (ap : own r = true → ∀ (j : Nat) (u : V) (y : EV), vs[j]? = some u → rs[j]? = some y → own y = true → u ≠ v) : Reps K w G H0 F H (v :: vs) (r :: rs)
def KnA (S : Sx) (G : Gp) (F H : Hp) (n : Nat) (Q : List EV → Prop) (C : List V → Hp → Prop) : Prop := ∀ rs vs F' H', Ext G F H F' H' → Reps S.K S.w G H F' H' vs rs → rs.length = n → Q rs → C vs H'
/-- an expression, on data -/
def DE (S : Sx) (e : Expr) (t : TD) : Prop := ∃ te : TE, (∀ X, Ctx S X → PE X e te) ∧ ∀ (G : Gp) (H0 F H : Hp) (σ : L2.St) (ρ : Env) (Q : EV → Prop) (C : VK),
  Wd G F H → Sta S.K S.w G H0 F H σ ρ → t ρ Q → Kn S G F H Q C → te σ H C
def DT (S : Sx) (e : Expr) (t : TB) : Prop := ∃ te : TT, (∀ X, Ctx S X → PT X e te) ∧ ∀ (G : Gp) (H0 F H : Hp) (σ : L2.St) (ρ : Env) (Q : Bool → Prop) (C : Bool → Hp → Prop),
  Wd G F H → Sta S.K S.w G H0 F H σ ρ → t ρ Q → KnB G F H Q C → te σ H C
def DW (S : Sx) (e : Expr) (t : TB) : Prop := ∃ te : TT, (∀ X, Ctx S X → PW X e te) ∧ ∀ (G : Gp) (H0 F H : Hp) (σ : L2.St) (ρ : Env) (Q : Bool → Prop) (C : Bool → Hp → Prop),
  Wd G F H → Sta S.K S.w G H0 F H σ ρ → t ρ Q → KnB G F H Q C → te σ H C
def DA (S : Sx) (es : List Expr) (t : TAd) : Prop := ∃ te : TA, (∀ X, Ctx S X → PA X es te) ∧ ∀ (G : Gp) (H0 F H : Hp) (σ : L2.St) (ρ : Env) (Q : List EV → Prop) (C : List V → Hp → Prop),
  Wd G F H → Sta S.K S.w G H0 F H σ ρ → t ρ Q → KnA S G F H es.length Q C → te σ H C

section
variable {S : Sx} {e a b : Expr} {es : List Expr} {pos : Pos} {ta tb : TD}
/-! ### names, constants -/
def rd : EV → EV
  | .o xs => .l xs
  | .s ns => .rs ns
  | r => r
theorem Rep.rd {K : PySem.W.Frag} {w : World} {G : Gp} {H0 H1 F H : Hp} {v : V} {r : EV} (h : Rep K w G H0 F H v r) : Rep K w G H1 F H v (rd r) := by
  cases r with
  | o xs => obtain ⟨p, vs, e, g, a, b, c, d⟩ := h; exact ⟨p, vs, e, g, a, b⟩
  | s ns => obtain ⟨p, e, g, a, b, c, d⟩ := h; exact ⟨p, e, g, a, b⟩
  | _ => exact h
def eVar (i : Nat) : TD := fun ρ Q => match ρ[i]? with
  | some (some ev) => Q (rd ev)
  | _ => False
theorem de_var {x : Str} (i : Nat) (hN : S.N[i]? = some x) (hv : Vis S.sc x) (hd : (x == ("__debug__" : Str)) = false := by decide) (hcd : (x == ("__classdict__" : Str)) = false := by decide) : DE S (.Name x pos) (eVar i) := by
  refine ⟨tVar i, fun X c => pe_var (by rw [c.N]; exact hN) (by rw [c.sc]; exact hv) hd hcd, fun G H0 F H σ ρ Q C W s h k => ?_⟩
  unfold eVar at h
  split at h
  · rename_i ev e
    obtain ⟨v, ev', r⟩ := s.at_ i ev e
    exact ⟨v, ev', k _ v F H (Ext.rfl' W) r.rd h⟩
  · cases h
def eC (r : EV) : TD := fun _ Q => Q r
theorem de_c {v : V} {r : EV} (hp : ∀ X, Ctx S X → PE X e (tC v)) (hr : ∀ (G : Gp) (H0 F H : Hp), Rep S.K S.w G H0 F H v r) : DE S e (eC r) :=
  ⟨tC v, hp, fun G H0 F H σ ρ Q C W s h k => k r v F H (Ext.rfl' W) (hr G H F H) h⟩
theorem de_int {i j} : DE S (.Constant (.int i) j pos) (eC (.d (.int i))) := de_c (fun X c => pe_int) fun _ _ _ _ => Df.int i
theorem de_bl {i j} : DE S (.Constant (.bool i) j pos) (eC (.d (.bool i))) := de_c (fun X c => pe_bl) fun _ _ _ _ => Df.bl i
theorem de_non {j} : DE S (.Constant .none j pos) (eC (.d .none)) := de_c (fun X c => pe_non) fun _ _ _ _ => Df.non
theorem de_str {i j} : DE S (.Constant (.str i) j pos) (eC (.d (.str i))) := de_c (fun X c => pe_str) fun _ _ _ _ => Df.str i
theorem ctx_gl {X : Cx} {x : Str} (c : Ctx S X) (h : S.sc.names.lookup x = some .globalImplicit) : Gl X x := by
  show X.env.scope.names.lookup x = _
  rw [c.sc]; exact h
/-- a text or a number of the module's -/
theorem de_gstr {x z : Str} {t : Tok} (hg : S.sc.names.lookup x = some .globalImplicit) (hm : S.mg x = some (.str z t)) (hd : (x == ("__debug__" : Str)) = false := by decide) : DE S (.Name x pos) (eC (.d (.str z))) :=
  de_c (v := .str z) (fun X c => pe_glob (ctx_gl c hg) (by rw [c.mg]; exact hm) ⟨t, rfl⟩ hd) fun _ _ _ _ => Df.str z
theorem de_gint {x : Str} {i : Int} {t : Tok} (hg : S.sc.names.lookup x = some .globalImplicit) (hm : S.mg x = some (.int i t)) (hd : (x == ("__debug__" : Str)) = false := by decide) : DE S (.Name x pos) (eC (.d (.int i))) :=
  de_c (v := .int i) (fun X c => pe_glob (ctx_gl c hg) (by rw [c.mg]; exact hm) ⟨t, rfl⟩ hd) fun _ _ _ _ => Df.int i
theorem de_gtup {x : Str} {a : Addr} {vs : List V} {ds : List PyData} (hg : S.sc.names.lookup x = some .globalImplicit) (hm : S.mg x = some (.ref a)) (ht : ∀ H : Hp, SqT S.K H a vs) (hd : ∀ H : Hp, DpAll S.K H vs ds) (hdb : (x == ("__debug__" : Str)) = false := by decide) :
    DE S (.Name x pos) (eC (.k (.tuple ds))) := de_c (v := .ref a) (fun X c => pe_glob (ctx_gl c hg) (by rw [c.mg]; exact hm) rfl hdb) fun _ _ _ _ H' => Dp.tup (ht H') (hd H')

/-! ### two in a row -/
theorem Kn.then {G : Gp} {F H F1 H1 : Hp} {Q : EV → Prop} {C : VK} (x : Ext G F H F1 H1) (k : Kn S G F H Q C) : Kn S G F1 H1 Q C :=
  fun r v F' H' y h q => k r v F' H' (x.trans y) (h.back x) q
theorem KnB.then {G : Gp} {F H F1 H1 : Hp} {Q : Bool → Prop} {C : Bool → Hp → Prop} (x : Ext G F H F1 H1) (k : KnB G F H Q C) : KnB G F1 H1 Q C :=
  fun b F' H' y q => k b F' H' (x.trans y) q
/-- an operator by values -/
def R2Ok (S : Sx) (r : R2) (f : EV → EV → (EV → Prop) → Prop) : Prop := ∀ (G : Gp) (H0 H0' F H : Hp) (u v : V) (x y : EV) (Q : EV → Prop) (C : VK), Wd G F H → Rep S.K S.w G H0 F H u x → Rep S.K S.w G H0' F H v y → f x y Q → Kn S G F H Q C → r u v H C
def e2 (f : EV → EV → (EV → Prop) → Prop) (ta tb : TD) : TD := fun ρ Q => ta ρ fun x => tb ρ fun y => f x y Q
def Op2 (S : Sx) (te ta tb : TE) (f : EV → EV → (EV → Prop) → Prop) (t1 t2 : TD) : Prop := True
theorem snd2 {r : R2} {f : EV → EV → (EV → Prop) → Prop} {u1 u2 : TE} (hf : R2Ok S r f)
    (h1 : ∀ (G : Gp) (H0 F H : Hp) (σ : L2.St) (ρ : Env) (Q : EV → Prop) (C : VK), Wd G F H → Sta S.K S.w G H0 F H σ ρ → ta ρ Q → Kn S G F H Q C → u1 σ H C)
    (h2 : ∀ (G : Gp) (H0 F H : Hp) (σ : L2.St) (ρ : Env) (Q : EV → Prop) (C : VK), Wd G F H → Sta S.K S.w G H0 F H σ ρ → tb ρ Q → Kn S G F H Q C → u2 σ H C)
    (G : Gp) (H0 F H : Hp) (σ : L2.St) (ρ : Env) (Q : EV → Prop) (C : VK) (W : Wd G F H) (s : Sta S.K S.w G H0 F H σ ρ) (h : e2 f ta tb ρ Q) (k : Kn S G F H Q C) : tOp r u1 u2 σ H C :=
  h1 G H0 F H σ ρ _ _ W s h fun x u F1 H1 x1 r1 q1 => h2 G H0 F1 H1 σ ρ _ _ x1.w (s.ext x1) q1 fun y v F2 H2 x2 r2 q2 =>
    hf G H H1 F2 H2 u v x y Q C x2.w (r1.ext x2) r2 q2 ((k.then x1).then x2)
theorem de_op {op : Operator} {r : R2} {f : EV → EV → (EV → Prop) → Prop} (ho : ∀ X, Ctx S X → OpR X (binaryOp op) r) (hf : R2Ok S r f) (ha : DE S a ta) (hb : DE S b tb) : DE S (.BinOp a op b pos) (e2 f ta tb) := by
  obtain ⟨u1, p1, h1⟩ := ha
  obtain ⟨u2, p2, h2⟩ := hb
  exact ⟨tOp r u1 u2, fun X c => pe_op (ho X c) (p1 X c) (p2 X c), snd2 hf h1 h2⟩
theorem de_cmp {op : CmpOp} {r : R2} {f : EV → EV → (EV → Prop) → Prop} (ho : ∀ X, Ctx S X → OpR X (compareOp op) r) (hf : R2Ok S r f) (ha : DE S a ta) (hb : DE S b tb) (hm : behindInMarks op b = false) : DE S (.Compare a [op] [b] pos) (e2 f ta tb) := by
  obtain ⟨u1, p1, h1⟩ := ha
  obtain ⟨u2, p2, h2⟩ := hb
  exact ⟨tOp r u1 u2, fun X c => pe_cmpR (ho X c) (p1 X c) (p2 X c) hm, snd2 hf h1 h2⟩
/-- a bool as a test -/
def eT (t : TD) : TB := fun ρ Q => t ρ fun x => match x with
  | .d (.bool b) => Q b
  | _ => False
theorem snd_T {u1 : TE} (h1 : ∀ (G : Gp) (H0 F H : Hp) (σ : L2.St) (ρ : Env) (Q : EV → Prop) (C : VK), Wd G F H → Sta S.K S.w G H0 F H σ ρ → ta ρ Q → Kn S G F H Q C → u1 σ H C)
    (G : Gp) (H0 F H : Hp) (σ : L2.St) (ρ : Env) (Q : Bool → Prop) (C : Bool → Hp → Prop) (W : Wd G F H) (s : Sta S.K S.w G H0 F H σ ρ) (h : eT ta ρ Q) (k : KnB G F H Q C) : tTest u1 σ H C :=
  h1 G H0 F H σ ρ _ _ W s h fun x u F1 H1 x1 r1 q1 => by
    split at q1
    · rename_i b
      cases r1
      exact ⟨b, rfl, k b F1 H1 x1 q1⟩
    · cases q1
theorem dt_cmp {op : CmpOp} {r : R2} {f : EV → EV → (EV → Prop) → Prop} (ho : ∀ X, Ctx S X → OpR X (compareOp op) r) (hf : R2Ok S r f) (ha : DE S a ta) (hb : DE S b tb) (hm : behindInMarks op b = false) : DT S (.Compare a [op] [b] pos) (eT (e2 f ta tb)) := by
  obtain ⟨u1, p1, h1⟩ := ha
  obtain ⟨u2, p2, h2⟩ := hb
  exact ⟨tTest (tOp r u1 u2), fun X c => pt_cmpR (ho X c) (p1 X c) (p2 X c) hm, snd_T (snd2 hf h1 h2)⟩
theorem dt_val (ha : DE S e ta) (he : ∀ (env : PySem.Env) (whole : Sem Value), isTrue e env whole = (do let v ← whole; standAt e.pos; holding [v] (truthy v)) := by intro _ _; rfl) : DT S e (eT ta) := by
  obtain ⟨u1, p1, h1⟩ := ha
  exact ⟨tB u1, fun X c => pt_val (p1 X c) (he X.env), snd_T h1⟩
def bAnd (t u : TB) : TB := fun ρ Q => t ρ fun c => match c with
  | true => u ρ Q
  | false => Q false
def bOr (t u : TB) : TB := fun ρ Q => t ρ fun c => match c with
  | true => Q true
  | false => u ρ Q
def bNot (t : TB) : TB := fun ρ Q => t ρ fun c => Q (!c)
variable {t u : TB} {rest : List Expr}
theorem dw_and1 (h : DT S a t) : DW S (.BoolOp .And [a] pos) t := let ⟨x, p, q⟩ := h; ⟨x, fun X c => pw_and1 (p X c), q⟩
theorem dw_or1 (h : DT S a t) : DW S (.BoolOp .Or [a] pos) t := let ⟨x, p, q⟩ := h; ⟨x, fun X c => pw_or1 (p X c), q⟩
theorem dw_and (h : DT S a t) (h' : DW S (.BoolOp .And (b :: rest) pos) u) : DW S (.BoolOp .And (a :: b :: rest) pos) (bAnd t u) := by
  obtain ⟨x, p, q⟩ := h
  obtain ⟨y, p', q'⟩ := h'
  refine ⟨tAnd x y, fun X c => pw_and (p X c) (p' X c), fun G H0 F H σ ρ Q C W s h k => q G H0 F H σ ρ _ _ W s h fun c F1 H1 x1 q1 => ?_⟩
  cases c with
  | true => exact (if_pos rfl).mpr (q' G H0 F1 H1 σ ρ Q C x1.w (s.ext x1) q1 (k.then x1))
  | false => exact (if_neg Bool.false_ne_true).mpr (k false F1 H1 x1 q1)
theorem dw_or (h : DT S a t) (h' : DW S (.BoolOp .Or (b :: rest) pos) u) : DW S (.BoolOp .Or (a :: b :: rest) pos) (bOr t u) := by
  obtain ⟨x, p, q⟩ := h
  obtain ⟨y, p', q'⟩ := h'
  refine ⟨tOr x y, fun X c => pw_or (p X c) (p' X c), fun G H0 F H σ ρ Q C W s h k => q G H0 F H σ ρ _ _ W s h fun c F1 H1 x1 q1 => ?_⟩
  cases c with
  | true => exact (if_pos rfl).mpr (k true F1 H1 x1 q1)
  | false => exact (if_neg Bool.false_ne_true).mpr (q' G H0 F1 H1 σ ρ Q C x1.w (s.ext x1) q1 (k.then x1))
theorem dt_w (h : DW S a t) : DT S a t := let ⟨x, p, q⟩ := h; ⟨x, fun X c => (p X c).pt, q⟩
theorem dt_not (h : DT S a t) : DT S (.UnaryOp .Not a pos) (bNot t) := let ⟨x, p, q⟩ := h; ⟨tNot x, fun X c => pt_not (p X c), fun G H0 F H σ ρ Q C W s h k => q G H0 F H σ ρ _ _ W s h fun c F1 H1 x1 q1 => k (!c) F1 H1 x1 q1⟩
/-! ### .. as values -/
def eAnd (ta tb : TD) : TD := fun ρ Q => ta ρ fun x => match x with
  | .d (.bool true) => tb ρ Q
  | .d (.bool false) => Q (.d (.bool false))
  | _ => False
def eOr (ta tb : TD) : TD := fun ρ Q => ta ρ fun x => match x with
  | .d (.bool true) => Q (.d (.bool true))
  | .d (.bool false) => tb ρ Q
  | _ => False
def eNot (ta : TD) : TD := fun ρ Q => ta ρ fun x => match x with
  | .d (.bool b) => Q (.d (.bool (!b)))
  | _ => False
theorem de_one {op} (h : DE S a ta) : DE S (.BoolOp op [a] pos) ta := let ⟨x, p, q⟩ := h; ⟨x, fun X c => pe_one (p X c), q⟩
theorem de_and (ha : DE S a ta) (hb : DE S (.BoolOp .And (b :: rest) pos) tb) : DE S (.BoolOp .And (a :: b :: rest) pos) (eAnd ta tb) := by
  obtain ⟨x, p, q⟩ := ha
  obtain ⟨y, p', q'⟩ := hb
  refine ⟨tAndV x y, fun X c => pe_and (p X c) (p' X c), fun G H0 F H σ ρ Q C W s h k => q G H0 F H σ ρ _ _ W s h fun z v F1 H1 x1 r1 q1 => ?_⟩
  split at q1
  · cases r1
    exact ⟨true, rfl, (if_pos rfl).mpr (q' G H0 F1 H1 σ ρ Q C x1.w (s.ext x1) q1 (k.then x1))⟩
  · cases r1
    exact ⟨false, rfl, (if_neg Bool.false_ne_true).mpr (k (.d (.bool false)) _ F1 H1 x1 (Df.bl false) q1)⟩
  · cases q1
theorem de_or (ha : DE S a ta) (hb : DE S (.BoolOp .Or (b :: rest) pos) tb) : DE S (.BoolOp .Or (a :: b :: rest) pos) (eOr ta tb) := by
  obtain ⟨x, p, q⟩ := ha
  obtain ⟨y, p', q'⟩ := hb
  refine ⟨tOrV x y, fun X c => pe_or (p X c) (p' X c), fun G H0 F H σ ρ Q C W s h k => q G H0 F H σ ρ _ _ W s h fun z v F1 H1 x1 r1 q1 => ?_⟩
  split at q1
  · cases r1
    exact ⟨true, rfl, (if_pos rfl).mpr (k (.d (.bool true)) _ F1 H1 x1 (Df.bl true) q1)⟩
  · cases r1
    exact ⟨false, rfl, (if_neg Bool.false_ne_true).mpr (q' G H0 F1 H1 σ ρ Q C x1.w (s.ext x1) q1 (k.then x1))⟩
  · cases q1
theorem de_not (ha : DE S a ta) : DE S (.UnaryOp .Not a pos) (eNot ta) := by
  obtain ⟨x, p, q⟩ := ha
  refine ⟨tNotV x, fun X c => pe_not (p X c), fun G H0 F H σ ρ Q C W s h k => q G H0 F H σ ρ _ _ W s h fun z v F1 H1 x1 r1 q1 => ?_⟩
  split at q1
  · rename_i b
    cases r1
    exact ⟨b, rfl, k (.d (.bool (!b))) _ F1 H1 x1 (Df.bl (!b)) q1⟩
  · cases q1
def eIf (t : TB) (ta tb : TD) : TD := fun ρ Q => t ρ fun c => match c with
  | true => ta ρ Q
  | false => tb ρ Q
theorem de_if {c : Expr} (hc : DT S c t) (ha : DE S a ta) (hb : DE S b tb) : DE S (.IfExp c a b pos) (eIf t ta tb) := by
  obtain ⟨z, p0, q0⟩ := hc
  obtain ⟨x, p, q⟩ := ha
  obtain ⟨y, p', q'⟩ := hb
  refine ⟨tIf z x y, fun X c => pe_ifExp (p0 X c) (p X c) (p' X c), fun G H0 F H σ ρ Q C W s h k => q0 G H0 F H σ ρ _ _ W s h fun c F1 H1 x1 q1 => ?_⟩
  cases c with
  | true => exact (if_pos rfl).mpr (q G H0 F1 H1 σ ρ Q C x1.w (s.ext x1) q1 (k.then x1))
  | false => exact (if_neg Bool.false_ne_true).mpr (q' G H0 F1 H1 σ ρ Q C x1.w (s.ext x1) q1 (k.then x1))
/-! ### arguments -/
theorem Reps.ext {K : PySem.W.Frag} {w : World} {G : Gp} {H0 F H F' H' : Hp} (x : Ext G F H F' H') : ∀ {vs : List V} {rs : List EV}, Reps K w G H0 F H vs rs → Reps K w G H0 F' H' vs rs
  | _, _, .nil => .nil
  | _, _, .cons h t ap => .cons (h.ext x) (Reps.ext x t) ap
theorem Reps.start {K : PySem.W.Frag} {w : World} {G : Gp} {H0 H00 F H : Hp} (hs : ∀ a, H0 a = none → H00 a = none) : ∀ {vs : List V} {rs : List EV}, Reps K w G H0 F H vs rs → Reps K w G H00 F H vs rs
  | _, _, .nil => .nil
  | _, _, .cons h t ap => .cons (h.start hs) (Reps.start hs t) ap
theorem Reps.get {K : PySem.W.Frag} {w : World} {G : Gp} {H0 F H : Hp} : ∀ {vs : List V} {rs : List EV} {j : Nat} {u : V} {y : EV}, Reps K w G H0 F H vs rs → vs[j]? = some u → rs[j]? = some y → Rep K w G H0 F H u y
  | _, _, _, _, _, .nil, e, _ => by simp at e
  | _, _, 0, _, _, .cons h _ _, e, e' => by
    simp at e e'; subst e; subst e'; exact h
  | _, _, j + 1, _, _, .cons _ t _, e, e' => Reps.get (j := j) t (by simpa using e) (by simpa using e')
theorem Reps.length {K : PySem.W.Frag} {w : World} {G : Gp} {H0 F H : Hp} : ∀ {vs : List V} {rs : List EV}, Reps K w G H0 F H vs rs → vs.length = rs.length
  | _, _, .nil => rfl
  | _, _, .cons _ t _ => by rw [List.length_cons, List.length_cons, Reps.length t]
def aNil : TAd := fun _ Q => Q []
def aCons (ta : TD) (tr : TAd) : TAd := fun ρ Q => ta ρ fun x => tr ρ fun xs => Q (x :: xs)
theorem da_nil : DA S [] aNil := ⟨tNil, fun X c => pa_nil, fun G H0 F H σ ρ Q C W s h k => k [] [] F H (Ext.rfl' W) .nil rfl h⟩
theorem da_cons {tr : TAd} (ha : DE S e ta) (hr : DA S es tr) (hs : ∀ env : PySem.Env, starEach (e :: es) env = (false, eval e env) :: starEach es env := by intro _; rfl) : DA S (e :: es) (aCons ta tr) := by
  obtain ⟨x, p, q⟩ := ha
  obtain ⟨y, p', q'⟩ := hr
  refine ⟨tCons x y, fun X c => pa_cons (p X c) (p' X c) (hs X.env), fun G H0 F H σ ρ Q C W s h k => q G H0 F H σ ρ _ _ W s h fun r v F1 H1 x1 r1 q1 => ?_⟩
  refine q' G H0 F1 H1 σ ρ _ _ x1.w (s.ext x1) q1 fun rs vs F2 H2 x2 r2 l2 q2 => ?_
  refine k _ _ F2 H2 (x1.trans x2) (.cons (r1.ext x2) (r2.start fun a => x1.fresh) fun ho j u z e1 e2 o2 en => ?_) (by rw [List.length_cons, List.length_cons, l2]) q2
  subst en
  obtain ⟨p1, ev1, hn1, _⟩ := r1.own_at ho
  obtain ⟨p2, ev2, _, hn2⟩ := (r2.get e1 e2).own_at o2
  rw [ev1] at ev2
  cases ev2
  exact hn1 hn2
end
end DL
set_option Elab.async false
set_option linter.all false
set_option maxRecDepth 100000
set_option maxHeartbeats 1000000
namespace DL
open PySem PySem.Spec PyProof.Rows L2
/-! ### views -/
def dt : EV → Option PyData
  | .d x => some x
  | .l xs => some (.list xs)
  | .o xs => some (.list xs)
  | .k x => some x
  | .dn x => some x
  | _ => none
def asL : EV → Option (List PyData)
  | .d (.list xs) => some xs
  | .l xs => some xs
  | .o xs => some xs
  | _ => none
def asSeq : EV → Option (List PyData)
  | .d (.list xs) => some xs
  | .d (.tuple xs) => some xs
  | .dn (.tuple xs) => some xs
  | .l xs => some xs
  | .o xs => some xs
  | _ => none
def asT : EV → Option (List PyData)
  | .d (.tuple xs) => some xs
  | .dn (.tuple xs) => some xs
  | _ => none
section
variable {K : PySem.W.Frag} {w : World} {G : Gp} {H0 F H : Hp} {v : V} {r : EV}
theorem Rep.dp {x : PyData} (W : Wd G F H) (h : Rep K w G H0 F H v r) (e : dt r = some x) : Dp K H v x := by
  cases r with
  | d y => cases e; exact Df.dp W.sub h
  | l xs => cases e; obtain ⟨p, vs, rfl, g, a, b⟩ := h; exact .lst (SqL.of a) (DfA.dp W.sub b)
  | o xs => cases e; obtain ⟨p, vs, rfl, g, a, b, _⟩ := h; exact .lst (SqL.of a) (DfA.dp W.sub b)
  | k y => cases e; exact h H
  | dn y => cases e; exact Df.dp W.sub h.1
  | _ => cases e
theorem Rep.lst {xs : List PyData} (W : Wd G F H) (h : Rep K w G H0 F H v r) (e : asL r = some xs) : ∃ p vs, v = .ref p ∧ H p = some (.lst vs) ∧ DfA F vs xs := by
  cases r with
  | d y =>
    cases y with
    | list ys => cases e; cases h with
      | lst a b => exact ⟨_, _, rfl, W.sub _ _ a, b⟩
    | _ => cases e
  | l xs => cases e; obtain ⟨p, vs, rfl, g, a, b⟩ := h; exact ⟨p, vs, rfl, a, b⟩
  | o xs => cases e; obtain ⟨p, vs, rfl, g, a, b, _⟩ := h; exact ⟨p, vs, rfl, a, b⟩
  | _ => cases e
theorem Rep.tup {xs : List PyData} (W : Wd G F H) (h : Rep K w G H0 F H v r) (e : asT r = some xs) : ∃ p vs, v = .ref p ∧ Tp F p vs ∧ DfA F vs xs := by
  cases r with
  | d y =>
    cases y with
    | tuple ys => cases e; cases h with
      | tup a b => exact ⟨_, _, rfl, a, b⟩
    | _ => cases e
  | dn y =>
    cases y with
    | tuple ys => cases e; cases h.1 with
      | tup a b => exact ⟨_, _, rfl, a, b⟩
    | _ => cases e
  | _ => cases e
theorem Rep.seq {xs : List PyData} (W : Wd G F H) (h : Rep K w G H0 F H v r) (e : asSeq r = some xs) : ∃ p vs, v = .ref p ∧ (SqL K H p vs ∨ SqT K H p vs) ∧ DfA F vs xs := by
  cases r with
  | d y =>
    cases y with
    | list ys => cases e; cases h with
      | lst a b => exact ⟨_, _, rfl, .inl (SqL.of (W.sub _ _ a)), b⟩
    | tuple ys => cases e; cases h with
      | tup a b => exact ⟨_, _, rfl, .inr (a.sq W.sub), b⟩
    | _ => cases e
  | dn y =>
    cases y with
    | tuple ys => cases e; cases h.1 with
      | tup a b => exact ⟨_, _, rfl, .inr (a.sq W.sub), b⟩
    | _ => cases e
  | l xs => cases e; obtain ⟨p, vs, rfl, g, a, b⟩ := h; exact ⟨p, vs, rfl, .inl (SqL.of a), b⟩
  | o xs => cases e; obtain ⟨p, vs, rfl, g, a, b, _⟩ := h; exact ⟨p, vs, rfl, .inl (SqL.of a), b⟩
  | _ => cases e
/-! ### flat data -/
def fl : PyData → Bool
  | .none => true
  | .bool _ => true
  | .int _ => true
  | .str _ => true
  | _ => false
theorem Df.flat {x : PyData} (h : Df F v x) (e : fl x = true) : flatV v = true := by
  cases h <;> first | rfl | cases e
theorem DfA.flat : ∀ {vs : List V} {xs : List PyData}, DfA F vs xs → xs.all fl = true → vs.all flatV = true
  | _, _, .nil, _ => rfl
  | _, _, .cons h r, e => by
    simp only [List.all_cons, Bool.and_eq_true] at e ⊢
    exact ⟨h.flat e.1, DfA.flat r e.2⟩
theorem eqV_eqv {u : V} {x y : PyData} (h : Df F v x) (h' : Df F u y) (e : fl x = true) (e' : fl y = true) : eqV v u = PyData.eqv x y := by
  cases h <;> first | (cases e; done) | skip
  all_goals (cases h' <;> first | (cases e'; done) | skip)
  all_goals first | rfl | simp [eqV, PyData.eqv]
theorem inV_eqv {u : V} {y : PyData} (h' : Df F u y) (e' : fl y = true) : ∀ {vs : List V} {xs : List PyData}, DfA F vs xs → xs.all fl = true → inV u vs = xs.any fun x => PyData.eqv x y
  | _, _, .nil, _ => rfl
  | v :: vs, x :: xs, .cons h r, e => by
    simp only [List.all_cons, Bool.and_eq_true] at e
    have ih := inV_eqv h' e' r e.2
    unfold inV at ih ⊢
    rw [List.any_cons, List.any_cons, ih, eqV_eqv h h' e.1 e']
end
section
variable {S : Sx}
/-! ### operators -/
def fII (f : Int → Int → PyData) : EV → EV → (EV → Prop) → Prop
  | .d (.int i), .d (.int j), Q => Q (.d (f i j))
  | _, _, _ => False
def fIC (C : Int → Int → Prop) (f : Int → Int → PyData) : EV → EV → (EV → Prop) → Prop
  | .d (.int i), .d (.int j), Q => C i j ∧ Q (.d (f i j))
  | _, _, _ => False
theorem r2_II {g : Int → Int → V} {f : Int → Int → PyData} (h : ∀ (F : Hp) i j, Df F (g i j) (f i j)) : R2Ok S (rI0 g) (fII f) := by
  intro G H0 H0' F H u v x y Q C W hx hy hf k
  unfold fII at hf
  split at hf
  · cases hx; cases hy
    exact ⟨_, _, rfl, rfl, k (.d (f _ _)) _ F H (Ext.rfl' W) (h F _ _) hf⟩
  · cases hf
theorem r2_IC {g : Int → Int → V} {D : Int → Int → Prop} {f : Int → Int → PyData} (h : ∀ (F : Hp) i j, Df F (g i j) (f i j)) : R2Ok S (rI D g) (fIC D f) := by
  intro G H0 H0' F H u v x y Q C W hx hy hf k
  unfold fIC at hf
  split at hf
  · cases hx; cases hy
    exact ⟨_, _, rfl, rfl, hf.1, k (.d (f _ _)) _ F H (Ext.rfl' W) (h F _ _) hf.2⟩
  · cases hf
variable {a b : Expr} {pos : Pos} {ta tb : TD}
abbrev fAdd := fII fun i j => .int (i + j)
abbrev fSub := fII fun i j => .int (i - j)
abbrev fMul := fIC CMul fun i j => .int (i * j)
abbrev fDiv := fIC CDiv fun i j => .int (i / j)
abbrev fMod := fIC (fun _ j => 0 < j) fun i j => .int (i % j)
abbrev fPow := fIC CPow fun i j => .int (i ^ j.toNat)
theorem de_add (ha : DE S a ta) (hb : DE S b tb) : DE S (.BinOp a .Add b pos) (e2 fAdd ta tb) := de_op (fun _ _ => op_add) (r2_II fun F i j => Df.int _) ha hb
theorem de_sub (ha : DE S a ta) (hb : DE S b tb) : DE S (.BinOp a .Sub b pos) (e2 fSub ta tb) := de_op (fun _ _ => op_sub) (r2_II fun F i j => Df.int _) ha hb
theorem de_mul (ha : DE S a ta) (hb : DE S b tb) : DE S (.BinOp a .Mult b pos) (e2 fMul ta tb) := de_op (fun _ _ => op_mul) (r2_IC fun F i j => Df.int _) ha hb
theorem de_div (ha : DE S a ta) (hb : DE S b tb) : DE S (.BinOp a .FloorDiv b pos) (e2 fDiv ta tb) := de_op (fun _ _ => op_fdiv) (r2_IC fun F i j => Df.int _) ha hb
theorem de_mod (ha : DE S a ta) (hb : DE S b tb) : DE S (.BinOp a .Mod b pos) (e2 fMod ta tb) := de_op (fun _ _ => op_mod) (r2_IC fun F i j => Df.int _) ha hb
/-! ### + of texts, tuples, lists -/
def fAddS : EV → EV → (EV → Prop) → Prop
  | .d (.str i), .d (.str j), Q => i.length + j.length ≤ sizeLine ∧ Q (.d (.str (i ++ j)))
  | _, _, _ => False
theorem de_addS (ha : DE S a ta) (hb : DE S b tb) : DE S (.BinOp a .Add b pos) (e2 fAddS ta tb) := de_op (fun _ _ => op_add_str) (by
  intro G H0 H0' F H u v x y Q C W hx hy hf k
  unfold fAddS at hf
  split at hf
  · cases hx; cases hy
    exact ⟨_, _, rfl, rfl, hf.1, k (.d (.str _)) _ F H (Ext.rfl' W) (Df.str _) hf.2⟩
  · cases hf) ha hb
def fAddT (x y : EV) (Q : EV → Prop) : Prop := match asT x, asT y with
  | some xs, some ys => xs.length + ys.length ≤ sizeLine ∧ Q (.d (.tuple (xs ++ ys)))
  | _, _ => False
theorem nil_of_len {α β : Type} {xs : List α} {ys : List β} (h : xs.length = ys.length) (e : xs = []) : ys = [] := by
  subst e; exact List.length_eq_zero_iff.mp h.symm
theorem de_addT (ha : DE S a ta) (hb : DE S b tb) : DE S (.BinOp a .Add b pos) (e2 fAddT ta tb) := de_op (fun X c => by have := @op_catA X; rw [c.K] at this; exact this) (by
  intro G H0 H0' F H u v x y Q C W hx hy hf k
  unfold fAddT at hf
  split at hf
  · rename_i xs ys e1 e2
    obtain ⟨p, vs, rfl, hp, rp⟩ := hx.tup W e1
    obtain ⟨q, ws, rfl, hq, rq⟩ := hy.tup W e2
    have l1 := rp.length
    have l2 := rq.length
    refine ⟨p, q, vs, ws, rfl, rfl, hp.sq W.sub, hq.sq W.sub, by omega, fun e => ?_, fun _ e => ?_, fun _ _ t ht => ?_⟩
    · have e' := nil_of_len l1 e
      subst e'
      exact k (.d (.tuple _)) _ F H (Ext.rfl' W) (Df.tup hq rq) hf.2
    · have e' := nil_of_len l2 e
      subst e'
      have h2 := hf.2
      rw [List.append_nil] at h2
      exact k (.d (.tuple _)) _ F H (Ext.rfl' W) (Df.tup hp rp) h2
    · exact k (.d (.tuple (xs ++ ys))) _ _ _ (Ext.newF W ht _) (Df.tup Tp.here (DfA.mono (sub_upd (W.nf ht)) (rp.append rq))) hf.2
  · cases hf) ha hb
def fAddL (x y : EV) (Q : EV → Prop) : Prop := match asL x, asL y with
  | some xs, some ys => xs.length + ys.length ≤ sizeLine ∧ Q (.o (xs ++ ys))
  | _, _ => False
theorem new_o {K : PySem.W.Frag} {w : World} {G : Gp} {F H : Hp} {p : Addr} {vs : List V} {xs : List PyData} (W : Wd G F H) (h : H p = none) (r : DfA F vs xs) : Rep K w G H F (upd H p (.lst vs)) (.ref p) (.o xs) :=
  ⟨p, vs, rfl, W.fresh h, upd_same, r, h, W.nf h⟩
theorem de_addL (ha : DE S a ta) (hb : DE S b tb) : DE S (.BinOp a .Add b pos) (e2 fAddL ta tb) := de_op (fun _ _ => op_cat) (by
  intro G H0 H0' F H u v x y Q C W hx hy hf k
  unfold fAddL at hf
  split at hf
  · rename_i xs ys e1 e2
    obtain ⟨p, vs, rfl, hp, rp⟩ := hx.lst W e1
    obtain ⟨q, ws, rfl, hq, rq⟩ := hy.lst W e2
    have l1 := rp.length
    have l2 := rq.length
    exact ⟨p, q, vs, ws, rfl, rfl, hp, hq, by omega, fun t ht => k (.o (xs ++ ys)) _ _ _ (Ext.new W ht _) (new_o W ht (rp.append rq)) hf.2⟩
  · cases hf) ha hb
/-- t * n, n from 2 on -/
def fRepT : EV → EV → (EV → Prop) → Prop
  | .d (.tuple xs), .d (.int n), Q => xs ≠ [] ∧ 2 ≤ n ∧ n ≤ 1000 ∧ xs.length ≤ 1000 ∧ Q (.d (.tuple (List.replicate n.toNat xs).flatten))
  | _, _, _ => False
theorem DfA.rep {F : Hp} {vs : List V} {xs : List PyData} (h : DfA F vs xs) : ∀ n : Nat, DfA F (List.replicate n vs).flatten (List.replicate n xs).flatten
  | 0 => .nil
  | n + 1 => by
    rw [List.replicate_succ, List.replicate_succ, List.flatten_cons, List.flatten_cons]
    exact h.append (DfA.rep h n)
theorem de_repT (ha : DE S a ta) (hb : DE S b tb) : DE S (.BinOp a .Mult b pos) (e2 fRepT ta tb) := de_op (fun X c => by have := @op_repT X; rw [c.K] at this; exact this) (by
  intro G H0 H0' F H u v x y Q C W hx hy hf k
  unfold fRepT at hf
  split at hf
  · rename_i xs n
    obtain ⟨p, vs, rfl, hp, rp⟩ := hx.tup W rfl
    cases hy
    have l1 := rp.length
    obtain ⟨f1, f2, f3, f4, f5⟩ := hf
    refine ⟨p, n, vs, rfl, rfl, hp.sq W.sub, fun e => f1 (nil_of_len l1 e), f2, f3, by omega, fun t ht => ?_⟩
    exact k (.d (.tuple (List.replicate n.toNat xs).flatten)) _ _ _ (Ext.newF W ht _) (Df.tup Tp.here (DfA.mono (sub_upd (W.nf ht)) (rp.rep _))) f5
  · cases hf) ha hb
/-! ### comparisons -/
def fEq (x y : EV) (Q : EV → Prop) : Prop := match dt x, dt y with
  | some d, some e => SeqAt.shaped d = true ∧ SeqAt.shaped e = true ∧ Q (.d (.bool (PyData.eqv d e)))
  | _, _ => False
def fNe (x y : EV) (Q : EV → Prop) : Prop := match dt x, dt y with
  | some d, some e => SeqAt.shaped d = true ∧ SeqAt.shaped e = true ∧ Q (.d (.bool (!PyData.eqv d e)))
  | _, _ => False
theorem r2_Eq : R2Ok S (rEqD S.K) fEq := by
  intro G H0 H0' F H u v x y Q C W hx hy hf k
  unfold fEq at hf
  split at hf
  · rename_i d e e1 e2
    exact ⟨d, e, hx.dp W e1, hy.dp W e2, hf.1, hf.2.1, k (.d (.bool _)) _ F H (Ext.rfl' W) (Df.bl _) hf.2.2⟩
  · cases hf
theorem r2_Ne : R2Ok S (rNeD S.K) fNe := by
  intro G H0 H0' F H u v x y Q C W hx hy hf k
  unfold fNe at hf
  split at hf
  · rename_i d e e1 e2
    exact ⟨d, e, hx.dp W e1, hy.dp W e2, hf.1, hf.2.1, k (.d (.bool _)) _ F H (Ext.rfl' W) (Df.bl _) hf.2.2⟩
  · cases hf
theorem o_eq (X : Cx) (c : Ctx S X) : OpR X (compareOp .Eq) (rEqD S.K) := by have := @op_eqD X c.hr.units; rw [c.K] at this; exact this
theorem o_ne (X : Cx) (c : Ctx S X) : OpR X (compareOp .NotEq) (rNeD S.K) := by have := @op_neD X c.hr.units; rw [c.K] at this; exact this
theorem de_eq (ha : DE S a ta) (hb : DE S b tb) : DE S (.Compare a [.Eq] [b] pos) (e2 fEq ta tb) := de_cmp o_eq r2_Eq ha hb (nomark _)
theorem de_ne (ha : DE S a ta) (hb : DE S b tb) : DE S (.Compare a [.NotEq] [b] pos) (e2 fNe ta tb) := de_cmp o_ne r2_Ne ha hb (nomark _)
theorem dt_eq (ha : DE S a ta) (hb : DE S b tb) : DT S (.Compare a [.Eq] [b] pos) (eT (e2 fEq ta tb)) := dt_cmp o_eq r2_Eq ha hb (nomark _)
theorem dt_ne (ha : DE S a ta) (hb : DE S b tb) : DT S (.Compare a [.NotEq] [b] pos) (eT (e2 fNe ta tb)) := dt_cmp o_ne r2_Ne ha hb (nomark _)
abbrev fLt := fII fun i j => .bool (decide (i < j))
abbrev fLe := fII fun i j => .bool (decide (i ≤ j))
abbrev fGt := fII fun i j => .bool (decide (j < i))
abbrev fGe := fII fun i j => .bool (decide (j ≤ i))
theorem r2_cmp {p : Int → Int → Bool} : R2Ok S (rI0 fun i j => .bl (p i j)) (fII fun i j => .bool (p i j)) := r2_II fun F i j => Df.bl _
theorem de_lt (ha : DE S a ta) (hb : DE S b tb) : DE S (.Compare a [.Lt] [b] pos) (e2 fLt ta tb) := de_cmp (fun _ _ => op_lt) r2_cmp ha hb (nomark _)
theorem de_le (ha : DE S a ta) (hb : DE S b tb) : DE S (.Compare a [.LtE] [b] pos) (e2 fLe ta tb) := de_cmp (fun _ _ => op_le) r2_cmp ha hb (nomark _)
theorem de_gt (ha : DE S a ta) (hb : DE S b tb) : DE S (.Compare a [.Gt] [b] pos) (e2 fGt ta tb) := de_cmp (fun _ _ => op_gt) r2_cmp ha hb (nomark _)
theorem de_ge (ha : DE S a ta) (hb : DE S b tb) : DE S (.Compare a [.GtE] [b] pos) (e2 fGe ta tb) := de_cmp (fun _ _ => op_ge) r2_cmp ha hb (nomark _)
theorem dt_lt (ha : DE S a ta) (hb : DE S b tb) : DT S (.Compare a [.Lt] [b] pos) (eT (e2 fLt ta tb)) := dt_cmp (fun _ _ => op_lt) r2_cmp ha hb (nomark _)
theorem dt_le (ha : DE S a ta) (hb : DE S b tb) : DT S (.Compare a [.LtE] [b] pos) (eT (e2 fLe ta tb)) := dt_cmp (fun _ _ => op_le) r2_cmp ha hb (nomark _)
theorem dt_gt (ha : DE S a ta) (hb : DE S b tb) : DT S (.Compare a [.Gt] [b] pos) (eT (e2 fGt ta tb)) := dt_cmp (fun _ _ => op_gt) r2_cmp ha hb (nomark _)
theorem dt_ge (ha : DE S a ta) (hb : DE S b tb) : DT S (.Compare a [.GtE] [b] pos) (eT (e2 fGe ta tb)) := dt_cmp (fun _ _ => op_ge) r2_cmp ha hb (nomark _)
/-- tuples of ints, by place -/
def intsOf : List PyData → Option (List Int)
  | [] => some []
  | .int i :: r => (intsOf r).map (i :: ·)
  | _ => none
theorem intsOf_eq : ∀ {xs : List PyData} {ns : List Int}, intsOf xs = some ns → xs = ns.map .int
  | [], ns, h => by cases h; rfl
  | .int i :: r, ns, h => by
    unfold intsOf at h
    cases e : intsOf r with
    | none => rw [e] at h; cases h
    | some ms => rw [e] at h; cases h; rw [intsOf_eq e]; rfl
  | .none :: _, _, h => by simp [intsOf] at h
  | .bool _ :: _, _, h => by simp [intsOf] at h
  | .str _ :: _, _, h => by simp [intsOf] at h
  | .list _ :: _, _, h => by simp [intsOf] at h
  | .tuple _ :: _, _, h => by simp [intsOf] at h
  | .dict _ :: _, _, h => by simp [intsOf] at h
@[simp] theorem intsOf_map : ∀ ns : List Int, intsOf (ns.map .int) = some ns
  | [] => rfl
  | n :: ns => by
    show (intsOf (ns.map .int)).map (n :: ·) = _
    rw [intsOf_map ns]; rfl
def fLtT (x y : EV) (Q : EV → Prop) : Prop := match asT x, asT y with
  | some xs, some ys => ∃ ns ms, intsOf xs = some ns ∧ intsOf ys = some ms ∧ Q (.d (.bool (HT.lexLt ns ms)))
  | _, _ => False
theorem r2_LtT : R2Ok S (rLtT S.K) fLtT := by
  intro G H0 H0' F H u v x y Q C W hx hy hf k
  unfold fLtT at hf
  split at hf
  · rename_i xs ys t1 t2
    obtain ⟨ns, ms, e1, e2, q⟩ := hf
    have e1 := intsOf_eq e1
    have e2 := intsOf_eq e2
    subst e1 e2
    obtain ⟨p, vs, rfl, hp, rp⟩ := hx.tup W t1
    obtain ⟨p', ws, rfl, hq, rq⟩ := hy.tup W t2
    have e1 := rp.ints
    have e2 := rq.ints
    subst e1 e2
    exact ⟨p, p', ns, ms, rfl, rfl, hp.sq W.sub, hq.sq W.sub, k (.d (.bool _)) _ F H (Ext.rfl' W) (Df.bl _) q⟩
  · cases hf
theorem dt_ltT (ha : DE S a ta) (hb : DE S b tb) : DT S (.Compare a [.Lt] [b] pos) (eT (e2 fLtT ta tb)) := dt_cmp (fun X c => by have := @op_ltT X c.hr.units0; rw [c.K] at this; exact this) r2_LtT ha hb (nomark _)
/-! ### in -/
def fIn (neg : Bool) (x y : EV) (Q : EV → Prop) : Prop := match dt x, asSeq y with
  | some d, some xs => fl d = true ∧ xs.all fl = true ∧ Q (.d (.bool (if neg then !(xs.any fun z => PyData.eqv z d) else xs.any fun z => PyData.eqv z d)))
  | _, _ => False
theorem flat_of {K : PySem.W.Frag} {w : World} {G : Gp} {H0 F H : Hp} {v : V} {r : EV} {x : PyData} (h : Rep K w G H0 F H v r) (e : dt r = some x) (f : fl x = true) : Df F v x := by
  cases r with
  | d y => cases e; exact h
  | l xs => cases e; cases f
  | o xs => cases e; cases f
  | k y =>
    cases e
    have h' := h fun _ => none
    cases h' with
    | non => exact .non
    | bl b => exact .bl b
    | int i => exact .int i
    | str z => exact .str z
    | lst _ _ => cases f
    | tup _ _ => cases f
  | dn y => cases e; exact h.1
  | _ => cases e
theorem r2_In {neg : Bool} : R2Ok S (rIn S.K neg) (fIn neg) := by
  intro G H0 H0' F H u v x y Q C W hx hy hf k
  unfold fIn at hf
  split at hf
  · rename_i d xs e1 e2
    obtain ⟨f1, f2, q⟩ := hf
    have dx := flat_of hx e1 f1
    obtain ⟨p, vs, rfl, hp, rp⟩ := hy.seq (K := S.K) W e2
    refine ⟨p, vs, rfl, hp, dx.flat f1, rp.flat f2, ?_⟩
    rw [inV_eqv dx f1 rp f2]
    exact k (.d (.bool _)) _ F H (Ext.rfl' W) (Df.bl _) q
  · cases hf
theorem o_in (X : Cx) (c : Ctx S X) : OpR X (compareOp .In) (rIn S.K false) := by have := @op_in_seq X; rw [c.K] at this; exact this
theorem o_nin (X : Cx) (c : Ctx S X) : OpR X (compareOp .NotIn) (rIn S.K true) := by have := @op_notIn_seq X; rw [c.K] at this; exact this
theorem de_in (ha : DE S a ta) (hb : DE S b tb) (hm : behindInMarks .In b = false := by rfl) : DE S (.Compare a [.In] [b] pos) (e2 (fIn false) ta tb) := de_cmp o_in r2_In ha hb hm
theorem de_nin (ha : DE S a ta) (hb : DE S b tb) (hm : behindInMarks .NotIn b = false := by rfl) : DE S (.Compare a [.NotIn] [b] pos) (e2 (fIn true) ta tb) := de_cmp o_nin r2_In ha hb hm
theorem dt_in (ha : DE S a ta) (hb : DE S b tb) (hm : behindInMarks .In b = false := by rfl) : DT S (.Compare a [.In] [b] pos) (eT (e2 (fIn false) ta tb)) := dt_cmp o_in r2_In ha hb hm
theorem dt_nin (ha : DE S a ta) (hb : DE S b tb) (hm : behindInMarks .NotIn b = false := by rfl) : DT S (.Compare a [.NotIn] [b] pos) (eT (e2 (fIn true) ta tb)) := dt_cmp o_nin r2_In ha hb hm
/-- one sign in a text -/
def fInS : EV → EV → (EV → Prop) → Prop
  | .d (.str c), .d (.str z), Q => ∃ n : Nat, c = ⟨#[n]⟩ ∧ Q (.d (.bool (decide (n ∈ z.cps.toList))))
  | _, _, _ => False
theorem de_inS (ha : DE S a ta) (hb : DE S b tb) (hm : behindInMarks .In b = false := by rfl) : DE S (.Compare a [.In] [b] pos) (e2 fInS ta tb) := de_cmp (fun _ _ => op_in_sign) (by
  intro G H0 H0' F H u v x y Q C W hx hy hf k
  unfold fInS at hf
  split at hf
  · obtain ⟨n, rfl, q⟩ := hf
    cases hx; cases hy
    exact ⟨n, _, rfl, rfl, k (.d (.bool _)) _ F H (Ext.rfl' W) (Df.bl _) q⟩
  · cases hf) ha hb hm
/-- not in a set -/
def fNinSet : EV → EV → (EV → Prop) → Prop
  | .d (.int i), .rs ns, Q => Q (.d (.bool (!decide (i ∈ ns))))
  | _, _, _ => False
theorem dt_ninSet (ha : DE S a ta) (hb : DE S b tb) (hm : behindInMarks .NotIn b = false := by rfl) : DT S (.Compare a [.NotIn] [b] pos) (eT (e2 fNinSet ta tb)) := dt_cmp (fun X c => by have := @or_snotin X; rw [c.w] at this; exact this) (by
  intro G H0 H0' F H u v x y Q C W hx hy hf k
  unfold fNinSet at hf
  split at hf
  · obtain ⟨p, rfl, g, hp, nd⟩ := hy
    cases hx
    exact ⟨_, p, _, _, rfl, rfl, hp, k (.d (.bool _)) _ F H (Ext.rfl' W) (Df.bl _) hf⟩
  · cases hf) ha hb hm
/-! ### is -/
def fIsN (x y : EV) (Q : EV → Prop) : Prop := match x, y with
  | .d .none, .d .none => Q (.d (.bool true))
  | .d (.int _), .d .none => Q (.d (.bool false))
  | _, _ => False
theorem de_isN (ha : DE S a ta) (hb : DE S b tb) : DE S (.Compare a [.Is] [b] pos) (e2 fIsN ta tb) := de_cmp (fun _ _ => op_isN) (by
  intro G H0 H0' F H u v x y Q C W hx hy hf k
  unfold fIsN at hf
  split at hf
  · cases hx; cases hy
    exact ⟨rfl, k (.d (.bool _)) _ F H (Ext.rfl' W) (Df.bl _) hf⟩
  · cases hx; cases hy
    exact ⟨rfl, k (.d (.bool _)) _ F H (Ext.rfl' W) (Df.bl _) hf⟩
  · cases hf) ha hb (nomark _)
def fIsB (x y : EV) (Q : EV → Prop) : Prop := match x, y with
  | .d (.bool i), .d (.bool j) => Q (.d (.bool (decide (i = j))))
  | _, _ => False
theorem de_isB (ha : DE S a ta) (hb : DE S b tb) : DE S (.Compare a [.Is] [b] pos) (e2 fIsB ta tb) := de_cmp (fun _ _ => op_isBl) (by
  intro G H0 H0' F H u v x y Q C W hx hy hf k
  unfold fIsB at hf
  split at hf
  · cases hx; cases hy
    exact ⟨_, _, rfl, rfl, k (.d (.bool _)) _ F H (Ext.rfl' W) (Df.bl _) hf⟩
  · cases hf) ha hb (nomark _)
/-- lo <= x <= hi of ints -/
def eChain (ta tb tc : TD) : TB := fun ρ Q => ta ρ fun x => tb ρ fun y => match x, y with
  | .d (.int i), .d (.int j) => (match decide (i ≤ j) with
    | true => tc ρ fun z => match z with
      | .d (.int l) => Q (decide (j ≤ l))
      | _ => False
    | false => Q false)
  | _, _ => False
theorem dt_chain {c : Expr} {tc : TD} (ha : DE S a ta) (hb : DE S b tb) (hc : DE S c tc) (hm : lastMarks [.LtE, .LtE] [b, c] = false := by rfl) : DT S (.Compare a [.LtE, .LtE] [b, c] pos) (eChain ta tb tc) := by
  obtain ⟨u1, p1, h1⟩ := ha
  obtain ⟨u2, p2, h2⟩ := hb
  obtain ⟨u3, p3, h3⟩ := hc
  refine ⟨_, fun X cx => pt_chain op_le op_le (p1 X cx) (p2 X cx) (p3 X cx) (hm := hm), fun G H0 F H σ ρ Q C W s h k => ?_⟩
  refine h1 G H0 F H σ ρ _ _ W s h fun x u F1 H1 x1 r1 q1 => ?_
  refine h2 G H0 F1 H1 σ ρ _ _ x1.w (s.ext x1) q1 fun y v F2 H2 x2 r2 q2 => ?_
  split at q2
  · rename_i i j
    cases r1; cases r2
    refine ⟨i, j, rfl, rfl, _, rfl, ?_⟩
    cases e : decide (i ≤ j) with
    | true =>
      rw [e] at q2
      refine (if_pos rfl).mpr (h3 G H0 F2 H2 σ ρ _ _ x2.w ((s.ext x1).ext x2) q2 fun z t F3 H3 x3 r3 q3 => ?_)
      split at q3
      · cases r3
        exact ⟨_, _, rfl, rfl, _, rfl, k _ F3 H3 ((x1.trans x2).trans x3) q3⟩
      · cases q3
    | false =>
      rw [e] at q2
      refine (if_neg Bool.false_ne_true).mpr ?_
      exact ⟨false, rfl, k _ F2 H2 (x1.trans x2) q2⟩
  · cases q2
end
end DL
set_option Elab.async false
set_option linter.all false
set_option maxRecDepth 100000
set_option maxHeartbeats 1000000
namespace CR
open PySem PySem.Spec PyProof.Rows L2 PySem.W PySem.Calls
section
variable {prog : Program} {w : World} {A : Around} {E : Value → Shared → Prop} {s : Shared}
/-- the heap behind collecting so many items -/
def colH (h : Heap) (items : Array Value) : Heap := (h.push { cls := .type "list", data := .seq ([] : List Value).toArray }).update h.objs.size (Obj.mapSeq (· ++ items))
theorem colH_keep {h : Heap} {items : Array Value} {b : Addr} {o : Obj} (e : h.get? b = some o) : (colH h items).get? b = some o :=
  (Heap.get?_update_other _ _ (Nat.ne_of_gt (Heap.lt_size e))).trans (Heap.get?_push_of_some _ e)
theorem colH_size (h : Heap) (items : Array Value) : (colH h items).objs.size = h.objs.size + 1 := by
  unfold colH
  rw [Heap.size_update, size_push']
theorem collect_tupE {t : Addr} {items : Array Value} {Q : List Value → Shared → Prop} (ht : IsTup s.heap t items) (hsz : items.size ≤ sizeLine) (hQ : Q items.toList { s with heap := colH s.heap items }) :
    wpAny (model prog w) A (collect (.ref t)) Q E s := by
  obtain ⟨o, ho, hc, n, hd⟩ := ht
  unfold collect
  refine wpAny_bind (wpAny_runValue (codeAny_builtin F.entry_proto_collect ?_))
  rw [Around.under_plainId F.plain_proto_collect _]
  refine wpAny_bind (wpAny_newObj_type (wpAny_pure ⟨plainId_quiet F.plain_list_iadd _, codeAny_builtin F.entry_list_iadd ?_⟩))
  rw [Around.under_plainId F.plain_list_iadd _]
  have hS : (s.heap.push { cls := .type "list", data := .seq ([] : List Value).toArray }).get? s.heap.objs.size = some { cls := .type "list", data := .seq #[] 0 } := Heap.get?_push_size _ rfl
  have hS2 := Heap.get?_update_self (Obj.mapSeq (· ++ items)) hS rfl
  have last : wpAny (model prog w) A (match Value.ref s.heap.objs.size with
      | Value.ref a => do
        match (← load a).data with
          | Data.seq xs _ => pure xs.toList
          | _ => unsupported "internal:collect"
      | _ => unsupported "internal:collect") Q E { s with heap := colH s.heap items } := by
    refine wpAny_bind (wpAny_load (show (colH s.heap items).get? _ = _ from hS2) ?_)
    refine wpAny_pure ?_
    rw [show ((#[] : Array Value) ++ items).toList = items.toList by simp]
    exact hQ
  refine wpAny_mono (wpAny_extend_seq (hsz := hsz) (A := A) (R := fun r s' => r = .ok (.ret (.ref s.heap.objs.size)) ∧ s' = { s with heap := colH s.heap items })
    (s := { s with heap := s.heap.push { cls := .type "list", data := .seq ([] : List Value).toArray } }) _ t _ 0 (.inr rfl) hS (Heap.get?_push_of_some _ ho) hc hd ⟨rfl, rfl⟩) (fun fin s' h => ?_) (fun e s' h => ?_)
  · cases fin with
    | done f =>
      obtain ⟨e, rfl⟩ := h
      cases e
      exact last
    | again c' => exact ⟨h.1, codeAny_mono h.2 fun r s'' hr => by obtain ⟨rfl, rfl⟩ := hr; exact last⟩
  · exact absurd h.1 (by simp)
end
section
variable {X : Cx}
/-! ### sorted of a tuple of ints -/
def rSortTup (K : PySem.W.Frag) : List V → Hp → VK → Prop := fun vs H Q => ∃ (a : Addr) (ns : List Int), vs = [V.ref a] ∧ SqT K H a (ns.map V.int) ∧ ns.length < 64 ∧
  ∀ (ms : List Int) (p : Addr), ms.Perm ns → ms.Pairwise (· ≤ ·) → H p = none → Q (.ref p) (upd H p (.lst (ms.map V.int)))
theorem cr_sortTup : CallR X (.builtin "sorted") (rSortTup X.K) := by
  intro pins s σ H vs us Q I r h
  obtain ⟨a, ns, rfl, hs, h64, q⟩ := h
  obtain ⟨its, rv, ht, hz⟩ := I.tuple hs
  rw [Vals.ref1 r]
  have hi : IntsAre its ns := rv.ints
  have h64' : its.length < 64 := by rw [← rv.length, List.length_map]; exact h64
  refine Calls.call_function_entry kind_sorted plain_sorted entry_sorted (args_sorted1 _) ?_
  unfold Builtin.«sorted»
  refine wpAny_bind (m := checkCount "sorted" 1 1 _) (wpAny_pure ?_)
  refine wpAny_bind (collect_tupE (A := X.A.in1) ht (by rw [List.size_toArray, ← rv.length]; exact hz) ?_)
  refine wpAny_bind (wpAny_newList ?_ (by show its.length ≤ _; rw [← rv.length]; exact hz))
  have hoL : ((colH s.heap its.toArray).push (seqObj "list" its.toArray 0)).get? (colH s.heap its.toArray).objs.size = some (seqObj "list" its.toArray 0) := Heap.get?_push_size _ rfl
  refine wpAny_bind (wpAny_holding (wpAny_call_entry slot_list_sort ⟨_, hoL, rfl⟩ entry_list_sort (list_sort_tree hoL hi h64' fun out ms a1 a2 a3 => ⟨_, rfl, ?_⟩) (args_list_sort _)))
  obtain ⟨c, hc2⟩ := sortedHeap_at (vs := its) (out := out) hoL
  have sz : s.heap.objs.size ≤ (colH s.heap its.toArray).objs.size := by rw [colH_size]; exact Nat.le_succ _
  refine wpAny_pure ⟨_, rfl, .ref _, upd H (colH s.heap its.toArray).objs.size (.lst (ms.map V.int)), I.laid (t' := s.toks) (fun b u e => ?_) sz ⟨?_, out.toList, c, vals_of_ints a1, hc2⟩, rfl, q _ _ a2 a3 (I.hok.fresh sz)⟩
  · have q1 := colH_keep (items := its.toArray) e
    have hlt := Heap.lt_size q1
    rw [sortedHeap_old (Nat.ne_of_lt hlt) (by rw [size_push']; exact Nat.lt_succ_of_lt hlt)]
    exact Heap.get?_push_of_some _ q1
  · rw [List.length_map, a2.length_eq, sizeLine_eq]; omega
/-! ### tuple.index of ints -/
theorem mt_tidx : MtR X "tuple.index" (fun x xs H Q => ∃ (p : Addr) (ns : List Int) (k : Int), x = .ref p ∧ xs = [.int k] ∧ SqT X.K H p (ns.map V.int) ∧ k ∈ ns ∧ Q (.int (ns.idxOf k : Nat)) H) := by
  intro pins s σ H x xs v us Q I rx rs h
  obtain ⟨p, ns, k, rfl, rfl, hq, hk, q⟩ := h
  cases rx
  obtain ⟨u, rfl, t, rfl⟩ := vals1 rs
  obtain ⟨its, r, pl, hz⟩ := I.tuple hq
  exact PySem.SeqAt.tuple_index_ints (vs := its) pl r.ints hk ⟨.int _, H, I.tok _, ⟨_, rfl⟩, q⟩
/-! ### min of a list of alike data: one of its items -/
theorem reads_at {h : Heap} : ∀ {vs : List Value} {ds : List PyData} {as : List Addr} {i : Nat} {v : Value}, ReadsAll h vs ds as → vs[i]? = some v → ∃ d bs, ds[i]? = some d ∧ Reads h v d bs
  | _, _, _, _, _, .nil, e => by simp at e
  | _, _, _, 0, _, .cons r rs, e => by
    simp at e; subst e; exact ⟨_, _, rfl, r⟩
  | _, _, _, i + 1, v, .cons r rs, e => by
    obtain ⟨d, bs, a, b⟩ := reads_at (i := i) (v := v) rs (by simpa using e)
    exact ⟨d, bs, by simpa using a, b⟩
def rMinD (K : PySem.W.Frag) : List V → Hp → VK → Prop := fun vs H Q => ∃ (a : Addr) (ws : List V) (x : PyData) (xs : List PyData), vs = [V.ref a] ∧ SqL K H a ws ∧ DpAll K H ws (x :: xs) ∧ AlikeAll (x :: xs) ∧ PyData.depthAll (x :: xs) ≤ 32 ∧
  ∀ (i : Nat) (v : V), ws[i]? = some v → (x :: xs)[i]? = some (minD x xs) → Q v H
theorem cr_minD {k : Nat} (hr : Room k X.A) : CallR X (.builtin "min") (rMinD X.K) := by
  intro pins s σ H vs us Q I r h
  obtain ⟨a, ws, x, xs, rfl, hs, hd, al, dp, q⟩ := h
  obtain ⟨its, rv, hl, hz⟩ := I.list hs
  rw [Vals.ref1 r]
  obtain ⟨as, ra⟩ := Dp.readsAll I _ _ _ hd rv
  refine min_list_data (hr.hd) hl.isList (by simpa using ra) al (by have := hr.units; omega) fun i v h' tk bs hv rd hk => ?_
  have hv' : its[i]? = some v := by simpa using hv
  obtain ⟨d, cs, e1, e2⟩ := reads_at ra hv'
  have e3 := (Reads.unique rd _ _ (reads_keeps hk e2)).1
  obtain ⟨y, hy⟩ : ∃ y, ws[i]? = some y := by
    have hi := (List.getElem?_eq_some_iff.mp hv').1
    rw [← rv.length] at hi
    exact ⟨_, List.getElem?_eq_getElem hi⟩
  obtain ⟨u, hu, ry⟩ := rv.get hy
  rw [hv'] at hu
  cases hu
  exact ⟨y, H, I.kept hk, ry, q i y hy (by rw [e1, ← e3])⟩
/-! ### max of a tuple of ints -/
def rMaxT (K : PySem.W.Frag) : List V → Hp → VK → Prop := fun vs H Q => ∃ (a : Addr) (n : Int) (ns : List Int), vs = [V.ref a] ∧ SqT K H a ((n :: ns).map V.int) ∧ Q (.int (ns.foldl max n)) H
theorem alike_ints (ns : List Int) : AlikeAll (ns.map PyData.int) := by
  refine ⟨fun x hx y hy => ?_, fun x hx => ?_⟩
  · obtain ⟨a, _, rfl⟩ := List.mem_map.mp hx
    obtain ⟨b, _, rfl⟩ := List.mem_map.mp hy
    rfl
  · obtain ⟨a, _, rfl⟩ := List.mem_map.mp hx
    intro z; cases z
theorem depth_ints : ∀ ns : List Int, PyData.depthAll (ns.map PyData.int) = 0
  | [] => rfl
  | n :: ns => by
    show max (PyData.depth (.int n)) (PyData.depthAll (ns.map PyData.int)) = 0
    rw [depth_ints ns]; rfl
theorem dp_ints {K : PySem.W.Frag} {H : Hp} : ∀ ns : List Int, DpAll K H (ns.map V.int) (ns.map PyData.int)
  | [] => .nil
  | n :: ns => .cons (.int n) (dp_ints ns)
theorem cr_maxT {k : Nat} (hr : Room k X.A) : CallR X (.builtin "max") (rMaxT X.K) := by
  intro pins s σ H vs us Q I r h
  obtain ⟨a, n, ns, rfl, hs, q⟩ := h
  obtain ⟨its, rv, hl, hz⟩ := I.tuple hs
  rw [Vals.ref1 r]
  obtain ⟨as, ra⟩ := Dp.readsAll I _ _ _ (dp_ints (n :: ns)) rv
  refine max_tuple_data (hr.hd) hl (x := .int n) (xs := ns.map .int) (by simpa using ra) (alike_ints (n :: ns)) (by have := hr.units; have e := depth_ints (n :: ns); rw [List.map_cons] at e; rw [e]; omega) fun i v h' tk bs hv rd hk => ?_
  rw [maxD_ints] at rd
  cases rd
  exact ⟨.int _, H, I.kept hk, ⟨_, rfl⟩, q⟩
/-! ### repr -/
def rRepr (K : PySem.W.Frag) : List V → Hp → VK → Prop := fun vs H Q => ∃ (v : V) (d : PyData), vs = [v] ∧ Dp K H v d ∧ d.showable = true ∧ d.hasDict = false ∧ d.depth ≤ 32 ∧ d.shown.length ≤ sizeLine ∧ Q (.str d.shown) H
theorem cr_repr {k : Nat} (hr : Room k X.A) (hg : X.A.guards = some []) : CallR X (.builtin "repr") (rRepr X.K) := by
  intro pins s σ H vs us Q I r h
  obtain ⟨v, d, rfl, hd, sh, nd, dp, sz, q⟩ := h
  obtain ⟨u, rfl, ru⟩ := vals1 r
  have hu := hr.units
  obtain ⟨as, rd⟩ := Dp.reads I d v u hd ru
  cases hd with
  | non => cases ru; exact P.repr_of_none ⟨.str _, H, I.tok _, ⟨_, rfl⟩, q⟩
  | bl b => cases ru; exact P.repr_of_bool ⟨.str _, H, I.tok _, ⟨_, rfl⟩, by cases b <;> exact q⟩
  | int i =>
    obtain ⟨t, rfl⟩ := ru
    exact P.repr_of_int (of_decide_eq_true sh) ⟨.str _, H, I.tok _, ⟨_, rfl⟩, q⟩
  | str x =>
    obtain ⟨t, rfl⟩ := ru
    exact P.repr_of_str ⟨.str _, H, I.tok _, ⟨_, rfl⟩, q⟩ sz
  | lst a b =>
    cases ru
    exact repr_of_reads' rd sh (PyData.noDict_hsm nd) hg (by omega) (fun _ _ e => e) (fun h' u tk hk => ⟨.str _, H, I.kept hk, ⟨_, rfl⟩, q⟩) sz
  | tup a b =>
    cases ru
    exact repr_of_reads' rd sh (PyData.noDict_hsm nd) hg (by omega) (fun _ _ e => e) (fun h' u tk hk => ⟨.str _, H, I.kept hk, ⟨_, rfl⟩, q⟩) sz
/-! ### sum of a tuple of ints -/
def rSumT (K : PySem.W.Frag) : List V → Hp → VK → Prop := fun vs H Q => ∃ (a : Addr) (ns : List Int), vs = [V.ref a] ∧ SqT K H a (ns.map V.int) ∧ Q (.int ns.sum) H
theorem preSum_list (ns : List Int) : ∀ j, j ≤ ns.length → preSum (fun i => ns.getD i 0) j = (ns.take j).sum
  | 0, _ => by simp [preSum]
  | j + 1, h => by
    have hj : j < ns.length := h
    rw [preSum, preSum_list ns j (Nat.le_of_lt hj), List.take_succ, List.getElem?_eq_getElem hj, List.sum_append]
    simp [List.getD_eq_getElem?_getD, List.getElem?_eq_getElem hj]
theorem cr_sumT (hc : X.calm = true) : CallR X (.builtin "sum") (rSumT X.K) := by
  intro pins s σ H vs us Q I r h
  obtain ⟨a, ns, rfl, hs, q⟩ := h
  obtain ⟨its, rv, hl, hz⟩ := I.tuple hs
  rw [Vals.ref1 r]
  have hh : X.A.in1.handled = none := I.ok.hd hc
  have hlt : a < s.heap.objs.size := hl.lt
  have hn : its.toArray.size = ns.length := by rw [List.size_toArray, ← rv.length, List.length_map]
  refine call_sum_walkG (wpAny_pyIter_tuple (show s.heap.IsTuple a its.toArray from hl) ?_)
  refine ⟨_, _, _, _, _, _, fun i => ns.getD i 0, rfl, Walks.tuple (A := X.A.in1) hh _ a (Nat.ne_of_lt hlt) its.toArray, ⟨⟨_, Heap.get?_push_size _ rfl, rfl, rfl⟩, hl.push _⟩, fun b hb => ?_, fun i v hv => ?_, fun h' tk t' hk => ?_⟩
  · rw [Heap.size_push]
    rcases List.mem_cons.mp hb with e | hb
    · rw [e]; exact Nat.lt_succ_self _
    · have e : b = a := by simpa using hb
      rw [e]; exact Nat.lt_succ_of_lt hlt
  · have hv' : its[i]? = some v := by simpa using hv
    have hi : i < ns.length := by
      have := (List.getElem?_eq_some_iff.mp hv').1
      rw [← rv.length, List.length_map] at this
      exact this
    obtain ⟨u, hu, t, e⟩ := rv.get (i := i) (x := .int ns[i]) (by simp [hi])
    rw [hv'] at hu
    cases hu
    exact ⟨t, by rw [e]; simp [List.getD_eq_getElem?_getD, List.getElem?_eq_getElem hi]⟩
  · rw [hn, preSum_list ns _ (Nat.le_refl _), List.take_length]
    refine ⟨.int _, H, I.kept (fun b o e => hk b o (fun z => ?_) (Heap.get?_push_of_some _ e)), ⟨_, rfl⟩, q⟩
    have e1 : b = s.heap.objs.size := by simpa using z
    exact absurd (e1 ▸ Heap.lt_size e) (Nat.lt_irrefl _)
/-! ### t[::-1] -/
def rRevT (K : PySem.W.Frag) (te : TE) : TE := fun σ H Q => te σ H fun x H1 => ∃ a xs, x = .ref a ∧ SqT K H1 a xs ∧ (xs = [] → Q (.ref a) H1) ∧ ∀ p, H1 p = none → Q (.ref p) (upd H1 p (.tup xs.reverse))
end
end CR
set_option Elab.async false
set_option linter.all false
set_option maxRecDepth 100000
set_option maxHeartbeats 1000000
namespace CR
open PySem PySem.Spec PyProof.Rows L2 PySem.W PySem.Calls
/-! ### t[::-1] -/
theorem places_back (n : Nat) : Builtin.Slice.slicePlaces ((n : Int) - 1) (-1) (-1) = n := by
  unfold Builtin.Slice.slicePlaces
  rw [if_neg (by decide)]
  by_cases h : (n : Int) - 1 > -1
  · rw [if_pos h]
    have e : ((n : Int) - 1 - -1 - 1) / (- -1) = (n : Int) - 1 := by
      rw [show (- -1 : Int) = 1 from rfl, Int.ediv_one]; omega
    rw [e]; omega
  · rw [if_neg h]
    omega
theorem adjust_back (n : Nat) : Builtin.Slice.sliceAdjust none none (-1) (n : Int) = ((n : Int) - 1, -1) := rfl
theorem filterMap_get (xs : List Value) (f : Nat → Nat) : ∀ k, (∀ m, m < k → f m < xs.length) → ((List.range k).filterMap fun m => xs.toArray[f m]?) = (List.range k).map fun m => xs.getD (f m) .none
  | 0, _ => rfl
  | k + 1, h => by
    rw [List.range_succ, List.filterMap_append, List.map_append, filterMap_get xs f k fun m hm => h m (Nat.lt_succ_of_lt hm)]
    have hk := h k (Nat.lt_succ_self k)
    simp [List.getD_eq_getElem?_getD, List.getElem?_eq_getElem hk]
theorem back_pick (xs : List Value) : ((List.range xs.length).filterMap fun (k : Nat) => xs.toArray[(((xs.length : Int) - 1) + (k : Int) * (-1)).toNat]?) = xs.reverse := by
  rw [filterMap_get xs (fun k => (((xs.length : Int) - 1) + (k : Int) * (-1)).toNat) xs.length fun m hm => by omega]
  apply List.ext_getElem
  · simp
  · intro i h1 h2
    have hi : i < xs.length := by simpa using h2
    have e : (((xs.length : Int) - 1) + (i : Int) * (-1)).toNat = xs.length - 1 - i := by omega
    rw [List.getElem_map, List.getElem_range, e, List.getElem_reverse, List.getD_eq_getElem?_getD, List.getElem?_eq_getElem (by omega)]
    rfl
section
variable {prog : Program} {w : World} {A : Around} {E : Value → Shared → Prop} {s : Shared}
theorem sliceApplied_back {sl : Addr} {n : Nat} {vs : Value} {Q : Int × Int × Nat → Shared → Prop} (hs : s.heap.IsSliceOf sl .none .none vs) (ps : IsPart vs (some (-1))) (h : Q ((n : Int) - 1, -1, n) s) :
    wpAny (model prog w) A (Builtin.Slice.sliceApplied (.ref sl) (pure (n : Int))) Q E s := by
  obtain ⟨os, hos, hcs, hds⟩ := id hs
  unfold Builtin.Slice.sliceApplied Builtin.Slice.sliceFields
  refine wpAny_bind (wpAny_bind (wpAny_field hos hds (x := .none) rfl (wpAny_bind (wpAny_field hos hds (x := .none) rfl (wpAny_bind (wpAny_field hos hds (x := vs) rfl (wpAny_pure ?_)))))))
  refine wpAny_bind (HT.slicePart_ ps ?_)
  show wpAny _ _ (if ((-1 : Int) == 0) = true then _ else _) _ _ s
  rw [if_neg (by decide)]
  refine wpAny_bind (slicePart_none (wpAny_bind (slicePart_none (wpAny_bind (wpAny_pure ?_)))))
  show wpAny _ _ (match Builtin.Slice.sliceAdjust none none (-1) (n : Int) with | (lo, hi) => pure (lo, (-1 : Int), Builtin.Slice.slicePlaces lo hi (-1))) _ _ s
  rw [adjust_back]
  show wpAny _ _ (pure ((n : Int) - 1, (-1 : Int), Builtin.Slice.slicePlaces ((n : Int) - 1) (-1) (-1))) _ _ s
  rw [places_back]
  exact wpAny_pure h
theorem getItem_tuple_back {t sl : Addr} {xs : List Value} {vs : Value} {Q : Value → Shared → Prop} (ht : IsTup s.heap t xs.toArray) (hs : s.heap.IsSliceOf sl .none .none vs) (ps : IsPart vs (some (-1)))
    (h : Q (.ref s.heap.objs.size) { s with heap := s.heap.push { cls := .type "tuple", data := .seq xs.reverse.toArray } }) (hsz : xs.length ≤ sizeLine) : wpAny (model prog w) A (getItem (.ref t) (.ref sl)) Q E s := by
  have big : sizeOk (.seq xs.reverse.toArray) := by
    show xs.reverse.toArray.size ≤ sizeLine
    rw [List.size_toArray, List.length_reverse]; exact hsz
  obtain ⟨os, hos, hcs, hds⟩ := id hs
  have hTs : s.TypeIs (.ref sl) "slice" := ⟨os, hos, hcs⟩
  unfold getItem
  try with_reducible refine wpAny_holding ?_
  first | refine wpAny_bind (wpAny_pure ?_) | skip
  refine wpAny_bind (wpAny_sequenceKey ht.typeIs (by decide) ?_)
  refine wpAny_bind (wpAny_callSpecial?_slot (name := Str.ofString "__getitem__") ht.typeIs PyProof.Rows.slot_tuple_getitem
    (wpAny_call_entry PyProof.Rows.slot_tuple_getitem ht.typeIs entry_tuple_getitem ?_ (args_tuple_getitem _ _)))
  show wpAny _ _ (Builtin.Tuple.tupleItemsOf (.ref t) >>= _) _ _ s
  refine wpAny_bind (tupleItemsOf_ ht (wpAny_bind (wpAny_typeOf hTs ?_)))
  rw [if_pos (by decide)]
  have el : xs.toArray.size = xs.length := List.size_toArray ..
  rw [el]
  refine wpAny_bind (sliceApplied_back hs ps ?_)
  have no1 : ¬ ((((xs.length : Int) - 1) == 0 && (-1 : Int) == 1 && xs.length == xs.length) = true) := by
    intro q
    rw [Bool.and_eq_true, Bool.and_eq_true] at q
    exact absurd q.1.2 (by decide)
  show wpAny _ _ (if ((((xs.length : Int) - 1) == 0 && (-1 : Int) == 1 && xs.length == xs.length) = true) then _ else _) _ _ s
  rw [if_neg no1, back_pick]
  first
    | exact wpAny_bind (m := Builtin.Tuple.tupleExact _) (wpAny_newObj_type (wpAny_pure ⟨_, rfl, wpAny_pure h⟩) big)
    | exact wpAny_bind (m := Builtin.Tuple.tupleExact _) (wpAny_newObj_type (wpAny_bind (wpAny_pure (wpAny_pure ⟨_, rfl, wpAny_pure h⟩))) big)
    | exact wpAny_bind (wpAny_bind (m := Builtin.Tuple.tupleExact _) (wpAny_newObj_type (wpAny_pure (wpAny_pure ⟨_, rfl, wpAny_pure h⟩)) big))
    | exact wpAny_bind (wpAny_bind (m := Builtin.Tuple.tupleExact _) (wpAny_newObj_type (wpAny_pure ⟨_, rfl, wpAny_pure h⟩) big))
end
section
variable {X : Cx}
def rBackT (K : PySem.W.Frag) (te : TE) : TE := fun σ H Q => te σ H fun x H1 => ∃ a xs, x = .ref a ∧ SqT K H1 a xs ∧ ∀ p, H1 p = none → Q (.ref p) (upd H1 p (.tup xs.reverse))
theorem pe_backT {e : Expr} {te : TE} {k : Nat} {p1 p2 p3 pos : Pos} (he : PE X e te) : PE X (.Subscript e (.Slice none none (some (.UnaryOp .USub (.Constant (.int 1) k p1) p2)) p3) pos) (rBackT X.K te) := by
  refine ⟨fun pins s σ H Q I h => ?_⟩
  refine Subscript_ (thn (he.run pins s σ H _ I h) fun v s1 ⟨x, H1, I1, r1, a, xs, ex, hx, q⟩ => ?_)
  subst ex
  cases r1
  have hm : PO X (some (.UnaryOp .USub (.Constant (.int 1) k p1) p2)) (tPart (tUn (rU fun i => .int (-i)) (tC (.int 1)))) := po_some (pe_un un_neg pe_int)
  refine wpAny_Slice ?_
  rw [evalPart_none]
  refine wpAny_pure (wpAny_pure ?_)
  refine thn (hm.run pins s1 σ H1 (fun o H4 => o = some (-1) ∧ H4 = H1) I1 ⟨1, rfl, -1, rfl, rfl, rfl⟩) fun vs s4 ⟨o, H4, I4, ps, eo, e4⟩ => ?_
  subst eo e4
  have I5 : Inv X pins σ H4 { s4 with heap := s4.heap.push { cls := .type "slice", data := .fields #[.none, .none, vs] } } := I4.kept (t' := s4.toks) fun b ob q => Heap.get?_push_of_some _ q
  obtain ⟨its, r, ht, hz⟩ := I5.tuple hx
  refine tail_any (s := { s4 with heap := s4.heap.push { cls := .type "slice", data := .fields #[.none, .none, vs] } }) (ops := [.ref a, .ref s4.heap.objs.size]) ht.typeIs (PyProof.Rows.slot_tuple_getitem.lookup) ?_ (by with_unfolding_all rfl)
  refine getItem_tuple_back ht (Heap.IsSliceOf.new _ .none .none vs) ps ?_ (by rw [← r.length]; exact hz)
  refine ⟨.ref _, _, I5.laid (t' := s4.toks) (o := .tup xs.reverse) (fun b ob q => Heap.get?_push_of_some _ q) (Nat.le_refl _) ?_, rfl, q _ (I5.hok.fresh (Nat.le_refl _))⟩
  exact ⟨by rw [List.length_reverse]; exact hz, _, r.reverse, IsTup.new _ _⟩
end
end CR
set_option Elab.async false
set_option linter.all false
set_option maxRecDepth 100000
set_option maxHeartbeats 1000000
namespace CR
open PySem PySem.Spec PyProof.Rows L2 PySem.W PySem.Calls PpSet
/-! ### sets of ints: {e}, {e for t in it if ..} -/
theorem setO_fresh {P : Program} {w : World} {H : Hp} (h : Heap) : ObjOk P w H (h.push { cls := .type "set", dict := none, data := .set #[] 0 (.fresh 0 0 (!w.params.followText "set-order")) }) h.objs.size (SetO w h.objs.size (fun _ => false) 0) :=
  setO_new (setR_fresh w)
section
variable {X : Cx}
theorem addI_ok {pins : List (Addr × Obj)} {σ : L2.St} {H : Hp} {s : Shared} {E : Value → Shared → Prop} {D : Addr} {S : Int → Bool} {n : Nat} {y : Int} {t : Tok} {Q : Value → Shared → Prop} (I : Inv X pins σ H s) (hD : H D = some (SetO X.w D S n)) (room : n + 1 < scanBound)
    (k : ∀ s', Inv X pins σ (upd H D (SetO X.w D (fun j => S j || decide (j = y)) (if S y = true then n else n + 1))) s' → Q .none s') : wpAny (model X.prog X.w) X.A (call (.builtin "set.add") [.ref D, .int y t]) Q E s :=
  setR_add (setO_get I hD) room fun h' sb new => k _ (I.write (e := D) (t' := s.toks + 1) (by rw [hD]; trivial) (.inl rfl) (fun b u hb hu => (sb.2 b hb).trans hu) (let ⟨o, _, _, _, ho, _⟩ := id new; ⟨o, ho⟩) (setO_new new))
/-- one turn's promise -/
def ScTurn (w : World) (J : It) (g : TG) (tt : TT) (te : TE) (vs : List Nat) (σ : L2.St) (D : Addr) (Qd : Hp → Prop) (W : Nat → Nat → Hp → Prop) : Prop := ∀ i m H, W i m H →
  (J.stop i H ∧ Qd H) ∨ (J.go i H ∧ ∃ Nx : Hp → Prop, (∀ H', Nx H' → ∃ m', m' < m ∧ W (i + 1) m' H') ∧ ∀ x H', J.yld i H x H' → g x (wipe σ vs) H' fun σ2 H2 => wipe σ2 vs = wipe σ vs ∧ tt σ2 H2 fun b H3 =>
    if b = true then te σ2 H3 fun y H4 => ∃ (c : Int) (S : Int → Bool) (n : Nat), y = .int c ∧ H4 D = some (SetO w D S n) ∧ n + 1 < scanBound ∧ Nx (upd H4 D (SetO w D (fun j => S j || decide (j = c)) (if S c = true then n else n + 1))) else Nx H3)
def tSci (w : World) (wi : TI) (g : TG) (tt : TT) (te : TE) (vs : List Nat) : TE := fun σ H Q => wi σ H fun J H1 => ∀ D, H1 D = none →
  ∃ W : Nat → Nat → Hp → Prop, (∃ m, W 0 m (upd H1 D (SetO w D (fun _ => false) 0))) ∧ ScTurn w J g tt te vs σ D (Q (.ref D)) W
theorem sci_core {pins : List (Addr × Obj)} {s : Shared} {σ : L2.St} {H : Hp} {Q : VK} {elt tg iter : Expr} {ifs : List Expr} {scope : Scope} {own : List (PySem.Str × Nat)} {pos : Pos} {wi : TI} {g : TG} {tt : TT} {te : TE} {pos' : Pos} {use : Option (Value → Sem Unit)} {Qf : Value → Shared → Prop} (hc : X.calm = true) (hN : X.N.Nodup) (hi : PI X tg iter wi) (ok : BlkOk X.N X.env.scope scope own)
    (hg : ∀ s H C cl fp, PG (X.blk s H scope (compEnvC scope cl C X.env) fp) tg g) (ht : ∀ s H C cl fp, PTs (X.blk s H scope (compEnvC scope cl C X.env) fp) ifs tt) (he : ∀ s H C cl fp, PE (X.blk s H scope (compEnvC scope cl C X.env) fp) elt te)
    (hs : ∀ x, foldedSetIterable iter X.env x = pure x) (I : Inv X pins σ H s) (h : tSci X.w wi g tt te (own.map (·.2)) σ H Q)
    (hRR : ∀ D C s' m H', Inv X pins σ H' s' → Q (.ref D) H' → s'.heap.Ns C m → FpOk X pins H' C → compPost (model X.prog X.w) X.A X.xe use Qf (.ref D) C (.ok .next) s') :
    wpAny (model X.prog X.w) X.A (comprehension (.SetComp elt [⟨tg, iter, ifs, 0⟩] scope pos) scope X.env pos' (newSet (.type "set")) false (eval iter X.env) use) Qf X.xe s := by
  refine wpAny_comprehension_free (use := use) rfl hs (closure_ok fun y hy e => (ok.free y hy e).elim (fun k => I.ok.has _ (.inl k)) fun k => I.ok.has _ (.inr k)) ok.kind (fun y hy e => by rw [ok.uniq y hy, e]) ?_
  refine thn (hi.run pins s σ H _ I h) fun xv s1 hx => thn hx fun itv s2 ⟨it, fp, tn, J, H2, e, I2, T, st2, f2, q⟩ => ?_
  subst e
  refine newSet_ok (newEnv_comp ?_)
  have fr2 : H2 s2.heap.objs.size = none := I2.hok.fresh (Nat.le_refl _)
  have K3 := I2.laid (t' := s2.toks) (fun b o e => Heap.get?_push_of_some _ e) (Nat.le_refl _) (setO_fresh (P := X.prog) (w := X.w) s2.heap)
  obtain ⟨W, ⟨m0, w0⟩, turn⟩ := q _ fr2
  generalize hD : s2.heap.objs.size = D at *
  have low : ∀ b ∈ fp, b < D := fun b hb => by
    obtain ⟨o, e, _⟩ := T.obj _ _ st2 b hb
    rw [← hD]; exact Heap.lt_size e
  generalize hs3 : ({ s2 with heap := s2.heap.push { cls := .type "set", dict := none, data := .set #[] 0 (.fresh 0 0 (!X.w.params.followText "set-order")) } } : Shared) = s3 at *
  have h3 : s3.heap = s2.heap.push { cls := .type "set", dict := none, data := .set #[] 0 (.fresh 0 0 (!X.w.params.followText "set-order")) } := by rw [← hs3]
  have I3 : Inv X pins σ (upd H2 D (SetO X.w D (fun _ => false) 0)) s3 := K3
  generalize hH3 : upd H2 D (SetO X.w D (fun _ => false) 0) = H3 at *
  have nfp : ∀ b ∈ fp, H3 b = none := fun b hb => by rw [← hH3, upd_ne (Nat.ne_of_lt (low b hb))]; exact (f2 b hb).1
  have f3 : ∀ b ∈ fp, FpOk X pins H3 b ∧ b < s3.heap.objs.size := fun b hb => ⟨⟨nfp b hb, (f2 b hb).2⟩, by rw [h3, Heap.size_push, hD]; exact Nat.lt_succ_of_lt (low b hb)⟩
  have I4 := block_start I3 ok hN f3
  have h3' : s2.heap.push { cls := .type "set", dict := none, data := .set #[] 0 (.fresh 0 0 (!X.w.params.followText "set-order")) } = s3.heap := h3.symm
  have st3 : tn 0 s3.heap := T.keep _ _ _ st2 fun b _ o e => by rw [h3]; exact Heap.get?_push_of_some _ e
  simp only [h3'] at *
  generalize hcl : cellsFrom (s3.heap.objs.size + 1) scope.names (cloFrom X.env.cells scope.names []) = cl at *
  have pg := hg s3 H3 s3.heap.objs.size cl fp
  have pt := ht s3 H3 s3.heap.objs.size cl fp
  have pe := he s3 H3 s3.heap.objs.size cl fp
  show codeAny _ _ (.compStart _ 0 (.ref it) (.ref D) (compEnvC scope cl s3.heap.objs.size X.env)) _ _
  generalize hce : compEnvC scope cl s3.heap.objs.size X.env = ce at pg pt pe I4 ⊢
  have cL : ce.locals = s3.heap.objs.size := by rw [← hce]; rfl
  have hs4 : ∀ b o, s3.heap.get? b = some o → (pushCells (s3.heap.push { cls := .type "dict", data := .dict #[] }) scope.names).get? b = some o := fun b o e => pushCells_keeps _ _ _ _ (Heap.get?_push_of_some _ e)
  have st4 : tn 0 (pushCells (s3.heap.push { cls := .type "dict", data := .dict #[] }) scope.names) := T.keep _ _ _ st3 fun b _ o e => hs4 b o e
  let Y : Cx := X.blk s3 H3 scope ce fp
  have foot : ∀ {τ : L2.St} {H' : Hp} {s' : Shared}, Inv Y [] τ H' s' → (∀ b ∈ fp, H' b = none) → ∀ b ∈ fp, FpOk Y [] H' b := fun {τ H' s'} J hn b hb =>
    ⟨hn b hb, (J.ok.exf b hb).1, J.ok.exfs b hb, .inl hb, (J.ok.exf b hb).2, fun p hp => nomatch (show p ∈ ([] : List (Addr × Obj)) ++ [] from hp)⟩
  let At : Nat → Nat → Shared → Prop := fun n i s' => ∃ H', Inv Y [] (wipe σ (own.map (·.2))) H' s' ∧ tn i s'.heap ∧ (∀ b ∈ fp, H' b = none) ∧ W i n H'
  have out : ∀ (s6 : Shared) (H5 : Hp) (τ : L2.St), Inv Y [] τ H5 s6 → Q (.ref D) H5 → compPost (model X.prog X.w) X.A X.xe use Qf (.ref D) s3.heap.objs.size (.ok .next) s6 := fun s6 H5 τ I6 q6 => by
    have I7 : Inv X pins σ H5 s6 := I3.call' (ch := fp) I6.os I6.base I6.hok I6.bare fun b hb => ⟨(f3 b hb).1.2.2.2.1, (f3 b hb).1.2.1, (f3 b hb).1.2.2.2.2.1, (f3 b hb).1.2.2.2.2.2⟩
    have nC : H5 s3.heap.objs.size = none := by rw [← cL]; exact I6.free
    obtain ⟨m, hn, _⟩ := I6.loc
    have hn : s6.heap.Ns ce.locals m := hn
    rw [cL] at hn
    exact hRR D s3.heap.objs.size s6 m H5 I7 q6 hn (I3.fpOk (Nat.le_refl _) nC)
  refine codeAny_compStart_set (?loop) (T.self X.A 0 _ _ _ st4 ?loop)
  refine compLoopS_any (fun n s' => ∃ i, At n i s') ?_ m0 ⟨0, H3, I4, st4, nfp, w0⟩
  rintro n s5 ⟨i, H5, I5, st5, n5, w5⟩
  rcases turn i n H5 w5 with ⟨stop, qq⟩ | ⟨go, Nx, hNx, step⟩
  · refine thnF (T.done Y rfl rfl rfl hc i [] s5 _ H5 (fun _ _ => False) I5 (foot I5 n5) st5 stop) fun r s6 ⟨hr, I6⟩ => ?_
    subst hr
    exact out s6 H5 _ I6 qq
  · refine thnF (T.item Y rfl rfl rfl hc i [] s5 _ H5 (fun _ _ => False) I5 (foot I5 n5) st5 go) fun r s6 ⟨u, hr, h6⟩ => ?_
    subst hr
    refine thnF h6 fun _ s7 ⟨x, H7, I7, r7, y7, st7, n7⟩ => ?_
    have P7 := I7.pinned (foot I7 n7) (T.obj _ _ st7)
    refine thnF (pg.run _ s7 _ H7 x u _ P7 r7 (step x H7 y7)) fun _ s8 ⟨σ8, H8, I8, hw8, q8⟩ => ?_
    refine thnF (pt.run _ s8 σ8 H8 _ I8 q8) fun b s9 ⟨H9, I9, q9⟩ => ?_
    have fin : ∀ {s' : Shared} {H' : Hp}, Inv Y ([] ++ pinsAt fp s7.heap) σ8 H' s' → Nx H' → ∃ m, m < n ∧ ∃ i, At m i s' := fun {s' H'} I' nx => by
      obtain ⟨m', hm, w'⟩ := hNx H' nx
      have pins' : ∀ b ∈ fp, ∀ o, s7.heap.get? b = some o → s'.heap.get? b = some o ∧ H' b = none := fun b hb o e =>
        let z := I'.pin (b, o) (List.mem_append_right _ (List.mem_append_right _ (mem_pinsAt hb e)))
        ⟨z.1, z.2.1⟩
      have hl : (wipe σ (own.map (·.2))).length = σ8.length := by rw [← hw8, wipe_length]
      refine ⟨m', hm, i + 1, H', (I'.unpinned (pins := [])).weak hl (fun j v e => ?_), T.keep _ _ _ st7 fun b hb o e => (pins' b hb o e).1, fun b hb => ?_, w'⟩
      · rw [← hw8] at e
        exact (wipe_some e).1
      · obtain ⟨o, e, _⟩ := T.obj _ _ st7 b hb
        exact (pins' b hb o e).2
    cases b with
    | false =>
      simp only [Bool.false_eq_true, if_false] at q9 ⊢
      exact fin I9 q9
    | true =>
      simp only [if_true] at q9 ⊢
      refine thnF (pe.run _ s9 σ8 H9 _ I9 q9) fun z s10 ⟨yv, H10, I10, r10, c, S0, n0, ey, hD10, room, nx⟩ => ?_
      subst ey
      obtain ⟨t, rfl⟩ : ∃ t, z = Value.int c t := r10
      exact addI_ok (X := Y) I10 hD10 room fun s11 I11 => fin I11 nx
theorem pe_sci {elt tg iter : Expr} {ifs : List Expr} {scope : Scope} {own : List (PySem.Str × Nat)} {pos : Pos} {wi : TI} {g : TG} {tt : TT} {te : TE} (hc : X.calm = true) (hN : X.N.Nodup) (hi : PI X tg iter wi) (ok : BlkOk X.N X.env.scope scope own)
    (hg : ∀ s H C cl fp, PG (X.blk s H scope (compEnvC scope cl C X.env) fp) tg g) (ht : ∀ s H C cl fp, PTs (X.blk s H scope (compEnvC scope cl C X.env) fp) ifs tt) (he : ∀ s H C cl fp, PE (X.blk s H scope (compEnvC scope cl C X.env) fp) elt te)
    (hs : ∀ x, foldedSetIterable iter X.env x = pure x := by intro _; rfl) : PE X (.SetComp elt [⟨tg, iter, ifs, 0⟩] scope pos) (tSci X.w wi g tt te (own.map (·.2))) := by
  refine ⟨fun pins s σ H Q I h => ?_⟩
  rw [eval_SetComp]
  refine sci_core hc hN hi ok hg ht he hs I h fun D C s' m H' I' q hn f => ⟨m, hn, fun h2 sb => ?_⟩
  obtain ⟨a0, a1, a2, a3, a4, a5⟩ := f
  exact ⟨.ref D, H', I'.turned (t' := s'.toks) (fun b o hb e => (sb.2 b hb).trans e) a0 a1 a3 a4 a5, rfl, q⟩
/-- y = {.. for ..} on one line, y a local -/
theorem ps_setSci {i : Nat} {y : PySem.Str} {py spos : Pos} {elt tg iter : Expr} {ifs : List Expr} {scope : Scope} {own : List (PySem.Str × Nat)} {pos : Pos} {wi : TI} {g : TG} {tt : TT} {te : TE} (hc : X.calm = true) (hN : X.N.Nodup) (hi : PI X tg iter wi) (ok : BlkOk X.N X.env.scope scope own)
    (hg : ∀ s H C cl fp, PG (X.blk s H scope (compEnvC scope cl C X.env) fp) tg g) (ht : ∀ s H C cl fp, PTs (X.blk s H scope (compEnvC scope cl C X.env) fp) ifs tt) (he : ∀ s H C cl fp, PE (X.blk s H scope (compEnvC scope cl C X.env) fp) elt te) (hy : X.N[i]? = some y) (hyl : X.env.scope.names.lookup y = some .local)
    (hsw : swapsWith (.SetComp elt [⟨tg, iter, ifs, 0⟩] scope pos) (some (.Name y py)) spos.line X.env = pure true) (hs : ∀ x, foldedSetIterable iter X.env x = pure x) :
    PS X (.Assign [.Name y py] (.SetComp elt [⟨tg, iter, ifs, 0⟩] scope pos) spos) (tAsg (tSci X.w wi g tt te (own.map (·.2))) (gName i)) := by
  refine ⟨fun pins s σ H D I h => ?_⟩
  rw [exec_Assign_Name_used _ _ _ _ hsw]
  refine wpAny_bind (wpAny_standAt (wpAny_bind ?_))
  show wpAny _ X.A (do let _ ← comprehension (.SetComp elt [⟨tg, iter, ifs, 0⟩] scope pos) scope X.env (firstIterPos [⟨tg, iter, ifs, 0⟩] pos) (newSet (.type "set")) false (eval iter X.env) (some (assign (.Name y py) X.env))) _ _ s
  have h : tSci X.w wi g tt te (own.map (·.2)) σ H (fun x H1 => gName i x σ H1 D.nx) := h
  refine wpAny_bind (thn (sci_core (Qf := fun _ s' => SP X pins D .next s') hc hN hi ok hg ht he hs I h fun L C s' m H' I' q hn f => ?_) fun _ s' hq => wpAny_pure (wpAny_pure hq))
  show wpAny _ _ (assign (.Name y py) X.env (.ref L)) _ _ _
  refine wpAny_assign_Name (store_ok2 (v := V.ref L) I' hN hy (.inl hyl) rfl (fun s2 I2 ⟨a, sb, ha⟩ => ?_) (.inr hyl))
  obtain ⟨f0, f1, f2, f3, f4, f5⟩ := f
  have haC : C ≠ a := by
    rcases ha with z | z
    · rw [z]; exact f1
    · exact fun e => f4 y a z e.symm
  refine ⟨m, hn.sameBut sb haC, fun h3 sb3 => ?_⟩
  exact ⟨_, H', I2.turned (t' := s2.toks) (fun b o hb e => (sb3.2 b hb).trans e) f0 f1 f3 f4 f5, q⟩
/-- {e} -/
def tSet1 (w : World) (te : TE) : TE := fun σ H Q => ∀ p, H p = none → te σ (upd H p (SetO w p (fun _ => false) 0)) fun x H1 => ∃ i, x = .int i ∧ H1 p = some (SetO w p (fun _ => false) 0) ∧ Q (.ref p) (upd H1 p (SetO w p (fun j => false || decide (j = i)) 1))
theorem pe_set1 {e : Expr} {te : TE} {pos : Pos} (hcd : kdsCode X.K X.env.code = true) (he : PE X e te) (hs : starEach [e] X.env = [(false, eval e X.env)] := by rfl) : PE X (.Set [e] 0 pos) (tSet1 X.w te) := by
  refine ⟨fun pins s σ H Q I h => ?_⟩
  rw [arm_eval_Set, hs]
  refine wpAny_bind (wpAny_standAt (wpAny_bind (kds_main I.kIn hcd fun b => ?_)))
  unfold setDisplay
  show wpAny _ _ (if (DisplayRoad.oneByOne == DisplayRoad.constants) = true then _ else _) _ _ s
  rw [if_neg (by decide)]
  refine wpAny_bind (newSet_ok ?_)
  have fr : H s.heap.objs.size = none := I.hok.fresh (Nat.le_refl _)
  have I1 := I.laid (t' := s.toks) (fun b o e => Heap.get?_push_of_some _ e) (Nat.le_refl _) (setO_fresh (P := X.prog) (w := X.w) s.heap)
  have h1 := h _ fr
  generalize s.heap.objs.size = D at *
  have hroad : (displayRoad 0 [e] == DisplayRoad.unsure) = false := rfl
  dsimp only
  rw [hroad]
  simp only [Bool.false_eq_true, if_false, List.map_cons, List.map_nil, List.length_singleton, List.findIdx?_cons, List.findIdx?_nil, Option.map_none, Option.getD_none, show ¬ (1 > 30) by decide, List.take_succ_cons, List.take_nil, List.drop_succ_cons, List.drop_nil, List.take_zero, List.drop_zero]
  refine wpAny_bind (wpAny_holding (wpAny_bind ?_))
  refine wpAny_evalAll_cons (wpAny_bind (thn (he.run pins _ σ _ _ I1 h1) fun v s1 ⟨x, H1, J1, r1, i, ex, hp, q⟩ => wpAny_bind (wpAny_standAt (wpAny_pure (wpAny_evalAll_nil ?_)))))
  subst ex
  obtain ⟨t, rfl⟩ : ∃ t, v = Value.int i t := r1
  refine wpAny_bind (wpAny_holding (wpAny_bind ?_))
  rw [List.forIn_cons]
  refine wpAny_bind (wpAny_bind ?_)
  unfold setAdd
  refine wpAny_holding (wpAny_bind ((intKind X.prog X.w).pyHash (intKind_is X.prog X.w i t) ?_))
  refine setR_add_hashed (s := { s1 with toks := s1.toks + 1 }) (setO_get (J1.tok _) hp) (by decide) fun h' sb new => ?_
  refine wpAny_pure ?_
  show wpAny _ _ (forIn [] PUnit.unit _) _ _ _
  rw [List.forIn_nil]
  refine wpAny_pure (wpAny_pure ?_)
  rw [List.forIn_nil]
  refine wpAny_pure (wpAny_pure ?_)
  have he' : ∃ u, h'.get? D = some u := let ⟨o, _, _, _, ho, _⟩ := id new; ⟨o, ho⟩
  exact ⟨.ref D, _, J1.write (e := D) (t' := s1.toks + 1) (by rw [hp]; trivial) (.inl rfl) (fun b u hb hu => (sb.2 b hb).trans hu) he' (setO_new new), rfl, q⟩
end
end CR
set_option Elab.async false
set_option linter.all false
set_option maxRecDepth 100000
set_option maxHeartbeats 1000000
namespace DL
open PySem PySem.Spec PyProof.Rows L2
/-! ### displays -/
def frz : EV → Option PyData
  | .d x => some x
  | .dn x => some x
  | .o xs => some (.list xs)
  | _ => none
def frzA : List EV → Option (List PyData)
  | [] => some []
  | r :: rs => match frz r, frzA rs with
    | some d, some ds => some (d :: ds)
    | _, _ => none
section
variable {K : PySem.W.Frag} {w : World} {G : Gp} {H0 F H F' H' : Hp}
theorem Rep.frzStep {p : Addr} {o : HO} {u : V} {y : EV} (s : Sub F' (upd F' p o)) (h : Rep K w G H0 F' H' u y) (hu : own y = true → u ≠ .ref p) : Rep K w G H0 (upd F' p o) H' u y := by
  cases y with
  | d x => exact Df.mono s h
  | l xs => obtain ⟨q, vs, e, g, a, b⟩ := h; exact ⟨q, vs, e, g, a, DfA.mono s b⟩
  | o xs => obtain ⟨q, vs, e, g, a, b, c, d⟩ := h; exact ⟨q, vs, e, g, a, DfA.mono s b, c, by rw [upd_ne (fun z => hu rfl (by rw [e, z]))]; exact d⟩
  | s ns => obtain ⟨q, e, g, a, b, c, d⟩ := h; exact ⟨q, e, g, a, b, c, by rw [upd_ne (fun z => hu rfl (by rw [e, z]))]; exact d⟩
  | dic kvs => obtain ⟨q, ks, e, g, a, b⟩ := h; exact ⟨q, ks, e, g, a, Paired.mapP b fun _ _ z => ⟨z.1, Df.mono s z.2⟩⟩
  | net x => obtain ⟨q, C, dx, v, e, g, a, b, c⟩ := h; exact ⟨q, C, dx, v, e, g, a, Df.mono s b, c⟩
  | hp => exact h
  | scr ns => exact h
  | rs ns => exact h
  | k x => exact h
  | dn x => obtain ⟨h, a, ob, v, e, f, d⟩ := h; exact ⟨Df.mono s h, a, ob, v, e, s _ _ f, d⟩
  | ty n => exact h
theorem Reps.frzStep {p : Addr} {o : HO} (s : Sub F' (upd F' p o)) : ∀ {vs : List V} {rs : List EV}, Reps K w G H0 F' H' vs rs → (∀ (j : Nat) (u : V) (y : EV), vs[j]? = some u → rs[j]? = some y → own y = true → u ≠ .ref p) → Reps K w G H0 (upd F' p o) H' vs rs
  | _, _, .nil, _ => .nil
  | _, _, .cons h t ap, hu => .cons (h.frzStep s (hu 0 _ _ rfl rfl)) (Reps.frzStep s t fun j u y e1 e2 => hu (j + 1) u y (by simpa using e1) (by simpa using e2)) ap
/-- what may be kept for good -/
theorem Reps.freeze : ∀ {vs : List V} {rs : List EV} {ds : List PyData} {F' : Hp}, Ext G F H F' H' → Reps K w G H F' H' vs rs → frzA rs = some ds → ∃ F2, Ext G F H F2 H' ∧ Sub F' F2 ∧ DfA F2 vs ds
  | _, _, ds, F', x, .nil, e => by
    cases e
    exact ⟨F', x, Sub.rfl', .nil⟩
  | _, _, ds, F', x, .cons (v := v) (vs := vs) (r := r) (rs := rs) h t ap, e => by
    unfold frzA at e
    split at e
    · rename_i d ds' e1 e2
      cases e
      cases r with
      | d y =>
        cases e1
        obtain ⟨F2, x2, s2, r2⟩ := Reps.freeze x t e2
        exact ⟨F2, x2, s2, .cons (Df.mono s2 h) r2⟩
      | dn y =>
        cases e1
        obtain ⟨F2, x2, s2, r2⟩ := Reps.freeze x t e2
        exact ⟨F2, x2, s2, .cons (Df.mono s2 h.1) r2⟩
      | o ys =>
        cases e1
        obtain ⟨p, ws, rfl, g, a, b, c, d⟩ := h
        have s1 : Sub F' (upd F' p (.lst ws)) := sub_upd d
        have x1 : Ext G F H (upd F' p (.lst ws)) H' := x.frz c a g
        obtain ⟨F2, x2, s2, r2⟩ := Reps.freeze x1 (t.frzStep s1 fun j u y e1 e2 o2 => ap rfl j u y e1 e2 o2) e2
        exact ⟨F2, x2, s1.trans s2, .cons (Df.mono s2 (Df.lst upd_same (DfA.mono s1 b))) r2⟩
      | _ => cases e1
    · cases e
end
section
variable {S : Sx} {e a b : Expr} {es : List Expr} {pos : Pos} {ta tb : TD} {tA : TAd}
def eTup (tA : TAd) : TD := fun ρ Q => tA ρ fun rs => match frzA rs with
  | some ds => Q (.d (.tuple ds))
  | none => False
def eLst (tA : TAd) : TD := fun ρ Q => tA ρ fun rs => match frzA rs with
  | some ds => Q (.o ds)
  | none => False
theorem few {n : Nat} (h : n ≤ 1000) : n ≤ sizeLine := Nat.le_trans h (by decide)
theorem de_tup {x1} (h : DA S es tA) (hl : es.length ≤ 1000 := by simp) : DE S (.Tuple es x1 pos) (eTup tA) := by
  obtain ⟨t, p, q⟩ := h
  refine ⟨tTup t, fun X c => pe_tup (p X c), fun G H0 F H σ ρ Q C W s h k => q G H0 F H σ ρ _ _ W s h fun rs vs F1 H1 x1 r1 l1 q1 => ?_⟩
  split at q1
  · rename_i ds e
    obtain ⟨F2, x2, s2, r2⟩ := r1.freeze x1 e
    refine ⟨few (by rw [r1.length, l1]; exact hl), fun p hp => ?_⟩
    exact k (.d (.tuple ds)) _ _ _ (x2.trans (Ext.newF x2.w hp _)) (Df.tup Tp.here (DfA.mono (sub_upd (x2.w.nf hp)) r2)) q1
  · cases q1
theorem de_lst (h : DA S es tA) (hl : es.length ≤ 1000 := by simp) : DE S (.List es pos) (eLst tA) := by
  obtain ⟨t, p, q⟩ := h
  refine ⟨tLst t, fun X c => pe_lst (p X c), fun G H0 F H σ ρ Q C W s h k => q G H0 F H σ ρ _ _ W s h fun rs vs F1 H1 x1 r1 l1 q1 => ?_⟩
  split at q1
  · rename_i ds e
    obtain ⟨F2, x2, s2, r2⟩ := r1.freeze x1 e
    refine ⟨few (by rw [r1.length, l1]; exact hl), fun p hp => ?_⟩
    exact k (.o ds) _ _ _ (x2.trans (Ext.new x2.w hp _)) ((new_o (K := S.K) (w := S.w) x2.w hp r2).back x2) q1
  · cases q1
/-! ### subscripts -/
theorem DfA.atI {F : Hp} {vs : List V} {ds : List PyData} {i : Int} {d : PyData} (h : DfA F vs ds) (e : L2.atI ds i = some d) : ∃ v, L2.atI vs i = some v ∧ Df F v d := by
  unfold L2.atI at e ⊢
  rw [h.length]
  cases q : ixN ds.length i with
  | none => rw [q] at e; cases e
  | some j =>
    rw [q] at e
    exact h.get (i := j) e
def fIx (x y : EV) (Q : EV → Prop) : Prop := match asSeq x, y with
  | some xs, .d (.int i) => (match L2.atI xs i with
    | some d => Q (.d d)
    | none => False)
  | _, _ => False
theorem r2_Ix : R2Ok S (fun x y H Q => rIxL S.K x y H Q ∨ rIxT S.K x y H Q) fIx := by
  intro G H0 H0' F H u v x y Q C W hx hy hf k
  unfold fIx at hf
  split at hf
  · rename_i xs i e1
    split at hf
    · rename_i d ed
      obtain ⟨p, vs, rfl, hp, rp⟩ := hx.seq (K := S.K) W e1
      cases hy
      obtain ⟨z, ez, rz⟩ := rp.atI ed
      rcases hp with hp | hp
      · exact .inl ⟨p, vs, i, z, rfl, rfl, hp, ez, k (.d d) _ F H (Ext.rfl' W) rz hf⟩
      · exact .inr ⟨p, vs, i, z, rfl, rfl, hp, ez, k (.d d) _ F H (Ext.rfl' W) rz hf⟩
    · cases hf
  · cases hf
theorem IxR.or2 {X : Cx} {r r' : R2} (h : IxR X r) (h' : IxR X r') : IxR X (fun x y H Q => r x y H Q ∨ r' x y H Q) := fun value slice pins s σ H x y v u Q I rx ry q hs => by
  rcases q with q | q
  · exact h value slice pins s σ H x y v u Q I rx ry q hs
  · exact h' value slice pins s σ H x y v u Q I rx ry q hs
theorem de_ix (ha : DE S a ta) (hb : DE S b tb) (hs : PlainIx b := by intro _ _; rfl) : DE S (.Subscript a b pos) (e2 fIx ta tb) := by
  obtain ⟨u1, p1, h1⟩ := ha
  obtain ⟨u2, p2, h2⟩ := hb
  refine ⟨_, fun X c => pe_ix (r := fun x y H Q => rIxL S.K x y H Q ∨ rIxT S.K x y H Q) (IxR.or2 (by have := @ix_list X; rw [c.K] at this; exact this) (by have := @ix_tup X; rw [c.K] at this; exact this)) (p1 X c) (p2 X c) hs, snd2 r2_Ix h1 h2⟩
def fIxS (x y : EV) (Q : EV → Prop) : Prop := match x, y with
  | .d (.str z), .d (.int i) => z.length ≤ sizeLine ∧ ∃ c, L2.atI z.cps.toList i = some c ∧ Q (.d (.str ⟨#[c]⟩))
  | _, _ => False
theorem de_ixS (ha : DE S a ta) (hb : DE S b tb) (hs : PlainIx b := by intro _ _; rfl) : DE S (.Subscript a b pos) (e2 fIxS ta tb) := by
  obtain ⟨u1, p1, h1⟩ := ha
  obtain ⟨u2, p2, h2⟩ := hb
  refine ⟨_, fun X c => pe_ix ix_str (p1 X c) (p2 X c) hs, snd2 (S := S) (by
    intro G H0 H0' F H u v x y Q C W hx hy hf k
    unfold fIxS at hf
    split at hf
    · obtain ⟨l, c, e, q⟩ := hf
      cases hx; cases hy
      exact ⟨_, _, c, rfl, rfl, l, e, k (.d (.str _)) _ F H (Ext.rfl' W) (Df.str _) q⟩
    · cases hf) h1 h2⟩
/-- a dict of one's own, by an int -/
def fIxD (x y : EV) (Q : EV → Prop) : Prop := match x, y with
  | .dic kvs, .d (.int i) => (match kvs.find? fun e => decide (e.1 = i) with
    | some e => Q (.d e.2)
    | none => False)
  | _, _ => False
theorem find_paired {F : Hp} {i : Int} {e : Int × PyData} : ∀ {ks : List (Key × V)} {kvs : List (Int × PyData)}, Paired (fun (q : Key × V) (e : Int × PyData) => q.1 = .inl e.1 ∧ Df F q.2 e.2) ks kvs → (kvs.find? fun e => decide (e.1 = i)) = some e → ∃ v, valV ks (.inl i) = some v ∧ Df F v e.2
  | _, _, .nil, h => by cases h
  | q :: ks, f :: kvs, .cons r t, h => by
    rw [List.find?_cons] at h
    unfold valV
    rw [List.find?_cons]
    obtain ⟨r1, r2⟩ := r
    by_cases z : f.1 = i
    · have e1 : decide (f.1 = i) = true := decide_eq_true z
      rw [e1] at h
      cases h
      have e2 : decide (q.1 = Sum.inl i) = true := decide_eq_true (by rw [r1, z])
      rw [e2]
      exact ⟨_, rfl, r2⟩
    · have e1 : decide (f.1 = i) = false := decide_eq_false z
      rw [e1] at h
      have e2 : decide (q.1 = Sum.inl i) = false := decide_eq_false (fun y => z (by rw [r1] at y; exact Sum.inl.inj y))
      rw [e2]
      exact find_paired t h
theorem de_ixD (ha : DE S a ta) (hb : DE S b tb) (hs : NoSl b := by intro _ _; rfl) : DE S (.Subscript a b pos) (e2 fIxD ta tb) := by
  obtain ⟨u1, p1, h1⟩ := ha
  obtain ⟨u2, p2, h2⟩ := hb
  refine ⟨tDGet u1 u2, fun X c => pe_dget (hu_of c.hr) (p1 X c) (p2 X c) hs, fun G H0 F H σ ρ Q C W s h k => ?_⟩
  refine h1 G H0 F H σ ρ _ _ W s h fun x u F1 H1 x1 r1 q1 => h2 G H0 F1 H1 σ ρ _ _ x1.w (s.ext x1) q1 fun y v F2 H2 x2 r2 q2 => ?_
  unfold fIxD at q2
  split at q2
  · rename_i kvs i
    split at q2
    · rename_i e ee
      obtain ⟨p, ks, rfl, g, hp, pr⟩ := r1.ext x2
      cases r2
      obtain ⟨z, ez, rz⟩ := find_paired pr ee
      refine ⟨p, z, rfl, ?_, k (.d e.2) _ F2 H2 (x1.trans x2) rz q2⟩
      rw [← ez]
      exact DGet.k (k := Sum.inl i) hp
    · cases q2
  · cases q2
/-! ### slices of tuples -/
abbrev TOd := Env → (Option Int → Prop) → Prop
def DO (S : Sx) (e : Option Expr) (t : TOd) : Prop := ∃ te : TO, (∀ X, Ctx S X → PO X e te) ∧ ∀ (G : Gp) (H0 F H : Hp) (σ : L2.St) (ρ : Env) (Q : Option Int → Prop) (C : Option Int → Hp → Prop),
  Wd G F H → Sta S.K S.w G H0 F H σ ρ → t ρ Q → (∀ o F' H', Ext G F H F' H' → Q o → C o H') → te σ H C
def oNone : TOd := fun _ Q => Q none
def oSome (t : TD) : TOd := fun ρ Q => t ρ fun x => match x with
  | .d (.int i) => Q (some i)
  | _ => False
theorem do_none : DO S none oNone := ⟨tNoPart, fun X c => po_none, fun G H0 F H σ ρ Q C W s h k => k none F H (Ext.rfl' W) h⟩
theorem do_some (ha : DE S a ta) : DO S (some a) (oSome ta) := by
  obtain ⟨u1, p1, h1⟩ := ha
  refine ⟨tPart u1, fun X c => po_some (p1 X c), fun G H0 F H σ ρ Q C W s h k => h1 G H0 F H σ ρ _ _ W s h fun x u F1 H1 x1 r1 q1 => ?_⟩
  split at q1
  · rename_i i
    cases r1
    exact ⟨i, rfl, k (some i) F1 H1 x1 q1⟩
  · cases q1
def cut {α : Type} (xs : List α) (lo hi : Option Int) : List α := (xs.drop (HT.sIx xs.length 0 lo)).take (HT.sIx xs.length xs.length hi - HT.sIx xs.length 0 lo)
theorem DfA.cut {F : Hp} {vs : List V} {ds : List PyData} (h : DfA F vs ds) (lo hi : Option Int) : DfA F (cutV vs lo hi) (DL.cut ds lo hi) := by
  unfold cutV DL.cut
  rw [h.length]
  exact (h.drop _).take _
theorem cut_all {α : Type} (xs : List α) (lo hi : Option Int) (h : HT.sIx xs.length 0 lo = 0 ∧ HT.sIx xs.length xs.length hi = xs.length) : cut xs lo hi = xs := by
  unfold cut
  rw [h.1, h.2]
  simp
def eSlT (ta : TD) (tl th : TOd) : TD := fun ρ Q => ta ρ fun x => tl ρ fun lo => th ρ fun hi => match asT x with
  | some xs => Q (.d (.tuple (cut xs lo hi)))
  | none => False
theorem de_slT {lo hi : Option Expr} {tl th : TOd} {p2 : Pos} (ha : DE S a ta) (hl : DO S lo tl) (hh : DO S hi th) : DE S (.Subscript a (.Slice lo hi none p2) pos) (eSlT ta tl th) := by
  obtain ⟨u1, p1, h1⟩ := ha
  obtain ⟨u2, p2, h2⟩ := hl
  obtain ⟨u3, p3, h3⟩ := hh
  refine ⟨tSl (rSlA S.K) u1 u2 u3, fun X c => pe_slice (by have := @sl_tupA X; rw [c.K] at this; exact this) (p1 X c) (p2 X c) (p3 X c), fun G H0 F H σ ρ Q C W s h k => ?_⟩
  refine h1 G H0 F H σ ρ _ _ W s h fun x u F1 H1 x1 r1 q1 => h2 G H0 F1 H1 σ ρ _ _ x1.w (s.ext x1) q1 fun l F2 H2 x2 q2 => h3 G H0 F2 H2 σ ρ _ _ x2.w ((s.ext x1).ext x2) q2 fun hi' F3 H3 x3 q3 => ?_
  split at q3
  · rename_i xs ex
    obtain ⟨p, vs, rfl, hp, rp⟩ := ((r1.ext x2).ext x3).tup x3.w ex
    have xa := (x1.trans x2).trans x3
    have hlen := rp.length
    refine ⟨p, vs, rfl, hp.sq x3.w.sub, fun hw => ?_, fun _ q hq => ?_⟩
    · rw [hlen] at hw
      rw [cut_all xs l hi' hw] at q3
      exact k (.d (.tuple xs)) _ F3 H3 xa (Df.tup hp rp) q3
    · exact k (.d (.tuple (cut xs l hi'))) _ _ _ (xa.trans (Ext.newF x3.w hq _)) (Df.tup Tp.here (DfA.mono (sub_upd (x3.w.nf hq)) (rp.cut l hi'))) q3
  · cases q3
/-- t[::-1] -/
def eBackT (ta : TD) : TD := fun ρ Q => ta ρ fun x => match asT x with
  | some xs => Q (.d (.tuple xs.reverse))
  | none => False
theorem de_backT {k : Nat} {p1 p2 p3 : Pos} (ha : DE S a ta) : DE S (.Subscript a (.Slice none none (some (.UnaryOp .USub (.Constant (.int 1) k p1) p2)) p3) pos) (eBackT ta) := by
  obtain ⟨u1, p1, h1⟩ := ha
  refine ⟨CR.rBackT S.K u1, fun X c => by rw [← c.K]; exact CR.pe_backT (p1 X c), fun G H0 F H σ ρ Q C W s h k => h1 G H0 F H σ ρ _ _ W s h fun x u F1 H1 x1 r1 q1 => ?_⟩
  split at q1
  · rename_i xs ex
    obtain ⟨p, vs, rfl, hp, rp⟩ := r1.tup x1.w ex
    exact ⟨p, vs, rfl, hp.sq x1.w.sub, fun q hq => k (.d (.tuple xs.reverse)) _ _ _ (x1.trans (Ext.newF x1.w hq _)) (Df.tup Tp.here (DfA.mono (sub_upd (x1.w.nf hq)) rp.rev)) q1⟩
  · cases q1
/-! ### an attribute of a net -/
def eThings (ta : TD) : TD := fun ρ Q => ta ρ fun x => match x with
  | .net d => Q (.d d)
  | _ => False
theorem de_things (ha : DE S a ta) (hb : ∀ env : PySem.Env, attributeBase a "things" env (eval a env) = eval a env := by intro _; rfl) : DE S (.Attribute a "things" pos) (eThings ta) := by
  obtain ⟨u1, p1, h1⟩ := ha
  refine ⟨tFld S.K u1 "things", fun X c => by have := @pe_fld X a "things" pos u1 (p1 X c) (hb X.env); rw [c.K] at this; exact this, fun G H0 F H σ ρ Q C W s h k => h1 G H0 F H σ ρ _ _ W s h fun x u F1 H1 x1 r1 q1 => ?_⟩
  split at q1
  · rename_i d
    obtain ⟨p, Cl, dx, v, rfl, g, hp, rv, c1, c2⟩ := r1
    exact ⟨p, Cl, dx, _, v, rfl, hp, c1, c2, rfl, k (.d d) _ F1 H1 x1 rv q1⟩
  · cases q1
end
end DL
set_option Elab.async false
set_option linter.all false
set_option maxRecDepth 100000
set_option maxHeartbeats 1000000
namespace DL
open PySem PySem.Spec PyProof.Rows L2
/-! ### calls of built-ins -/
/-- a call on values -/
def RcOk (S : Sx) (r : List V → Hp → VK → Prop) (f : List EV → (EV → Prop) → Prop) : Prop := ∀ (G : Gp) (H0 F H : Hp) (vs : List V) (rs : List EV) (Q : EV → Prop) (C : VK), Wd G F H → Reps S.K S.w G H0 F H vs rs → f rs Q → Kn S G F H Q C → r vs H C
def eCB (f : List EV → (EV → Prop) → Prop) (tA : TAd) : TD := fun ρ Q => tA ρ fun rs => f rs Q
def f1 (f : EV → (EV → Prop) → Prop) : List EV → (EV → Prop) → Prop := fun rs Q => match rs with
  | [x] => f x Q
  | _ => False
section
variable {S : Sx} {e a b : Expr} {es : List Expr} {p pos : Pos} {ta tb : TD} {tA : TAd} {x : Str} {r : List V → Hp → VK → Prop} {f : List EV → (EV → Prop) → Prop}
theorem snd_CB {t : TA} (hf : RcOk S r f) (h1 : ∀ (G : Gp) (H0 F H : Hp) (σ : L2.St) (ρ : Env) (Q : List EV → Prop) (C : List V → Hp → Prop), Wd G F H → Sta S.K S.w G H0 F H σ ρ → tA ρ Q → KnA S G F H es.length Q C → t σ H C)
    (G : Gp) (H0 F H : Hp) (σ : L2.St) (ρ : Env) (Q : EV → Prop) (C : VK) (W : Wd G F H) (s : Sta S.K S.w G H0 F H σ ρ) (h : eCB f tA ρ Q) (k : Kn S G F H Q C) : tCB r t σ H C :=
  h1 G H0 F H σ ρ _ _ W s h fun rs vs F1 H1 x1 r1 l1 q1 => hf G H F1 H1 vs rs Q C x1.w r1 q1 (k.then x1)
theorem de_callB {id : String} (hc : ∀ X, Ctx S X → CallR X (.builtin id) r) (hf : RcOk S r f) (hg : S.sc.names.lookup x = some .globalImplicit) (hm : S.mg x = none) (hv : bootBuiltins x = some (.builtin id)) (ha : DA S (e :: es) tA)
    (hn : x ≠ "__name__" := by decide) (hdb : (x == ("__debug__" : Str)) = false := by decide) (hs : ∀ env : PySem.Env, starEach (e :: es) env = (false, eval e env) :: starEach es env := by intro _; rfl)
    (hpl : ∀ env : PySem.Env, (backTo pos (starEach es env)).any (·.1) = false := by intro _; rfl) : DE S (.Call (.Name x p) (e :: es) [] pos) (eCB f tA) := by
  obtain ⟨t, p, q⟩ := ha
  exact ⟨tCB r t, fun X c => pe_callB (hc X c) (ctx_gl c hg) (by rw [c.mg]; exact hm) hv (p X c) hn hdb (hs X.env) (hpl X.env), snd_CB hf q⟩
theorem de_callTy {T : String} (hc : ∀ X, Ctx S X → CallR X (.type T) r) (hf : RcOk S r f) (hg : S.sc.names.lookup x = some .globalImplicit) (hm : S.mg x = none) (hv : bootBuiltins x = some (.type T)) (ha : DA S (e :: es) tA)
    (hn : x ≠ "__name__" := by decide) (hdb : (x == ("__debug__" : Str)) = false := by decide) (hs : ∀ env : PySem.Env, starEach (e :: es) env = (false, eval e env) :: starEach es env := by intro _; rfl)
    (hpl : ∀ env : PySem.Env, (backTo pos (starEach es env)).any (·.1) = false := by intro _; rfl) : DE S (.Call (.Name x p) (e :: es) [] pos) (eCB f tA) := by
  obtain ⟨t, p, q⟩ := ha
  exact ⟨tCB r t, fun X c => pe_callTy (hc X c) (ctx_gl c hg) (by rw [c.mg]; exact hm) hv (p X c) hn hdb (hs X.env) (hpl X.env), snd_CB hf q⟩
/-- a built-in class as a value -/
theorem de_cls {T : String} (hg : S.sc.names.lookup x = some .globalImplicit) (hm : S.mg x = none) (hv : bootBuiltins x = some (.type T)) (hn : x ≠ "__name__" := by decide) (hdb : (x == ("__debug__" : Str)) = false := by decide) : DE S (.Name x p) (eC (.ty T)) :=
  de_c (v := .ty T) (fun X c => pe_bltn (ctx_gl c hg) (by rw [c.mg]; exact hm) hv rfl hn hdb) fun _ _ _ _ => rfl
/-- one value -/
theorem rc1 {g : EV → (EV → Prop) → Prop} (h : ∀ (G : Gp) (H0 F H : Hp) (v : V) (y : EV) (Q : EV → Prop) (C : VK), Wd G F H → Rep S.K S.w G H0 F H v y → g y Q → Kn S G F H Q C → r [v] H C) : RcOk S r (f1 g) := by
  intro G H0 F H vs rs Q C W hr hf k
  unfold f1 at hf
  split at hf
  · cases hr with
    | cons h1 t ap =>
      cases t
      exact h G H0 F H _ _ Q C W h1 hf k
  · cases hf
theorem kd {G : Gp} {F H : Hp} {Q : EV → Prop} {C : VK} {d : PyData} {v : V} (W : Wd G F H) (k : Kn S G F H Q C) (h : Df F v d) (q : Q (.d d)) : C v H := k (.d d) v F H (Ext.rfl' W) h q
theorem ko {G : Gp} {F H : Hp} {Q : EV → Prop} {C : VK} {xs : List PyData} {vs : List V} {l : Addr} (W : Wd G F H) (k : Kn S G F H Q C) (h : DfA F vs xs) (hl : H l = none) (q : Q (.o xs)) : C (.ref l) (upd H l (.lst vs)) :=
  k (.o xs) _ _ _ (Ext.new W hl _) (new_o W hl h) q
theorem kt {G : Gp} {F H : Hp} {Q : EV → Prop} {C : VK} {xs : List PyData} {vs : List V} {l : Addr} (W : Wd G F H) (k : Kn S G F H Q C) (h : DfA F vs xs) (hl : H l = none) (q : Q (.d (.tuple xs))) : C (.ref l) (upd H l (.tup vs)) :=
  k (.d (.tuple xs)) _ _ _ (Ext.newF W hl _) (Df.tup Tp.here (DfA.mono (sub_upd (W.nf hl)) h)) q
/-! len -/
def fLen (y : EV) (Q : EV → Prop) : Prop := match asSeq y with
  | some xs => Q (.d (.int xs.length))
  | none => match y with
    | .d (.str z) => z.length ≤ sizeLine ∧ Q (.d (.int z.length))
    | .scr ns => Q (.d (.int ns.length))
    | _ => False
theorem rc_len : RcOk S (fun xs H Q => ∃ x n, xs = [x] ∧ LenV S.K x H n ∧ Q (.int n) H) (f1 fLen) := rc1 fun G H0 F H v y Q C W hr hf k => by
  unfold fLen at hf
  split at hf
  · rename_i xs e1
    obtain ⟨p, vs, rfl, hp, rp⟩ := hr.seq (K := S.K) W e1
    rw [← rp.length] at hf
    rcases hp with hp | hp
    · exact ⟨_, vs.length, rfl, .inl ⟨vs, hp, rfl⟩, kd W k (.int _) hf⟩
    · exact ⟨_, vs.length, rfl, .inr ⟨vs, hp, rfl⟩, kd W k (.int _) hf⟩
  · split at hf
    · cases hr
      exact ⟨_, _, rfl, ⟨hf.1, rfl⟩, kd W k (.int _) hf.2⟩
    · rename_i ns _
      obtain ⟨a, rfl, z⟩ := hr
      have hs : SqL S.K H a (ns.map V.int) := by
        rcases z with ⟨_, o, z⟩ | z
        · exact .inl (.inr ⟨o, z⟩)
        · exact z H
      exact ⟨_, _, rfl, .inl ⟨_, hs, rfl⟩, by rw [List.length_map]; exact kd W k (.int _) hf⟩
    · cases hf
/-! lists of bools, of ints -/
def fAll (y : EV) (Q : EV → Prop) : Prop := ∃ bs : List Bool, asL y = some (bs.map .bool) ∧ Q (.d (.bool (bs.all id)))
def fAny (y : EV) (Q : EV → Prop) : Prop := ∃ bs : List Bool, asL y = some (bs.map .bool) ∧ Q (.d (.bool (bs.any id)))
theorem rc_all : RcOk S (rAll S.K) (f1 fAll) := rc1 fun G H0 F H v y Q C W hr ⟨bs, e, q⟩ k => by
  obtain ⟨p, vs, rfl, hp, rp⟩ := hr.lst W e
  have e1 := rp.bools
  subst e1
  exact ⟨p, bs, rfl, SqL.of hp, kd W k (.bl _) q⟩
theorem rc_any : RcOk S (rAny S.K) (f1 fAny) := rc1 fun G H0 F H v y Q C W hr ⟨bs, e, q⟩ k => by
  obtain ⟨p, vs, rfl, hp, rp⟩ := hr.lst W e
  have e1 := rp.bools
  subst e1
  exact ⟨p, bs, rfl, SqL.of hp, kd W k (.bl _) q⟩
def fSum (y : EV) (Q : EV → Prop) : Prop := ∃ ns : List Int, asL y = some (ns.map .int) ∧ Q (.d (.int ns.sum))
theorem rc_sum : RcOk S (rSum S.K) (f1 fSum) := rc1 fun G H0 F H v y Q C W hr ⟨ns, e, q⟩ k => by
  obtain ⟨p, vs, rfl, hp, rp⟩ := hr.lst W e
  have e1 := rp.ints
  subst e1
  exact ⟨p, ns, rfl, SqL.of hp, kd W k (.int _) q⟩
def fSumT (y : EV) (Q : EV → Prop) : Prop := ∃ ns : List Int, asT y = some (ns.map .int) ∧ Q (.d (.int ns.sum))
theorem rc_sumT : RcOk S (CR.rSumT S.K) (f1 fSumT) := rc1 fun G H0 F H v y Q C W hr ⟨ns, e, q⟩ k => by
  obtain ⟨p, vs, rfl, hp, rp⟩ := hr.tup W e
  have e1 := rp.ints
  subst e1
  exact ⟨p, ns, rfl, hp.sq W.sub, kd W k (.int _) q⟩
def fMaxT (y : EV) (Q : EV → Prop) : Prop := ∃ (n : Int) (ns : List Int), asT y = some ((n :: ns).map .int) ∧ Q (.d (.int (ns.foldl max n)))
theorem rc_maxT : RcOk S (CR.rMaxT S.K) (f1 fMaxT) := rc1 fun G H0 F H v y Q C W hr ⟨n, ns, e, q⟩ k => by
  obtain ⟨p, vs, rfl, hp, rp⟩ := hr.tup W e
  have e1 := rp.ints
  subst e1
  exact ⟨p, n, ns, rfl, hp.sq W.sub, kd W k (.int _) q⟩
def fMinI (y : EV) (Q : EV → Prop) : Prop := ∃ ns : List Int, asL y = some (ns.map .int) ∧ 0 < ns.length ∧ ∀ m, m ∈ ns → (∀ z, z ∈ ns → m ≤ z) → Q (.d (.int m))
theorem rc_minI : RcOk S (rMin S.K) (f1 fMinI) := rc1 fun G H0 F H v y Q C W hr ⟨ns, e, l, q⟩ k => by
  obtain ⟨p, vs, rfl, hp, rp⟩ := hr.lst W e
  have e1 := rp.ints
  subst e1
  exact ⟨p, ns, rfl, SqL.of hp, l, fun m h1 h2 => kd W k (.int _) (q m h1 h2)⟩
def fMinD (y : EV) (Q : EV → Prop) : Prop := ∃ (x : PyData) (xs : List PyData), asL y = some (x :: xs) ∧ PySem.W.AlikeAll (x :: xs) ∧ PyData.depthAll (x :: xs) ≤ 32 ∧ Q (.d (PySem.W.minD x xs))
theorem rc_minD : RcOk S (CR.rMinD S.K) (f1 fMinD) := rc1 fun G H0 F H v y Q C W hr ⟨x, xs, e, al, dp, q⟩ k => by
  obtain ⟨p, vs, rfl, hp, rp⟩ := hr.lst W e
  refine ⟨p, vs, x, xs, rfl, SqL.of hp, DfA.dp W.sub rp, al, dp, fun i v h1 h2 => ?_⟩
  obtain ⟨v', e1, e2⟩ := rp.get h2
  rw [h1] at e1
  cases e1
  exact kd W k e2 q
def fMax2 : List EV → (EV → Prop) → Prop := fun rs Q => match rs with
  | [.d (.int i), .d (.int j)] => Q (.d (.int (if j > i then j else i)))
  | _ => False
theorem rc_max2 : RcOk S (fun xs H Q => ∃ i j, xs = [.int i, .int j] ∧ Q (.int (if j > i then j else i)) H) fMax2 := by
  intro G H0 F H vs rs Q C W hr hf k
  unfold fMax2 at hf
  split at hf
  · cases hr with
    | cons h1 t ap =>
      cases t with
      | cons h2 t2 ap2 =>
        cases t2
        cases h1; cases h2
        exact ⟨_, _, rfl, kd W k (.int _) hf⟩
  · cases hf
def fAbs (y : EV) (Q : EV → Prop) : Prop := match y with
  | .d (.int i) => Q (.d (.int (if i < 0 then -i else i)))
  | _ => False
theorem rc_abs : RcOk S (fun xs H Q => ∃ i, xs = [.int i] ∧ Q (.int (if i < 0 then -i else i)) H) (f1 fAbs) := rc1 fun G H0 F H v y Q C W hr hf k => by
  unfold fAbs at hf
  split at hf
  · cases hr
    exact ⟨_, rfl, kd W k (.int _) hf⟩
  · cases hf
/-! sorted -/
def srt (ns : List Int) : List Int := ns.mergeSort fun a b => decide (a ≤ b)
theorem srt_perm (ns : List Int) : (srt ns).Perm ns := List.mergeSort_perm ns _
theorem srt_sorted (ns : List Int) : (srt ns).Pairwise (· ≤ ·) := by
  have := List.pairwise_mergeSort (le := fun a b : Int => decide (a ≤ b)) (fun a b c h1 h2 => by
    simp only [decide_eq_true_eq] at *; omega) (fun a b => by
    simp only [Bool.or_eq_true, decide_eq_true_eq]; omega) ns
  exact this.imp fun h => of_decide_eq_true h
theorem perm_sorted : ∀ {as bs : List Int}, as.Perm bs → as.Pairwise (· ≤ ·) → bs.Pairwise (· ≤ ·) → as = bs
  | [], bs, h, _, _ => (List.nil_perm.mp h).symm ▸ rfl
  | a :: as, [], h, _, _ => absurd h.length_eq (by simp)
  | a :: as, b :: bs, h, h1, h2 => by
    have e : a = b := by
      have ha : a ∈ b :: bs := h.mem_iff.mp List.mem_cons_self
      have hb : b ∈ a :: as := h.mem_iff.mpr List.mem_cons_self
      rcases List.mem_cons.mp ha with e | ha
      · exact e
      · rcases List.mem_cons.mp hb with e | hb
        · exact e.symm
        · have l1 := (List.pairwise_cons.mp h1).1 b hb
          have l2 := (List.pairwise_cons.mp h2).1 a ha
          omega
    subst e
    rw [perm_sorted (List.perm_cons a |>.mp h) (List.pairwise_cons.mp h1).2 (List.pairwise_cons.mp h2).2]
theorem srt_eq {as ns : List Int} (h : as.Perm ns) (h1 : as.Pairwise (· ≤ ·)) : as = srt ns := perm_sorted (h.trans (srt_perm ns).symm) h1 (srt_sorted ns)
def fSortL (y : EV) (Q : EV → Prop) : Prop := ∃ ns : List Int, asL y = some (ns.map .int) ∧ Q (.o ((srt ns).map .int))
theorem rc_sortL : RcOk S (rSortedI S.K) (f1 fSortL) := rc1 fun G H0 F H v y Q C W hr ⟨ns, e, q⟩ k => by
  obtain ⟨p, vs, rfl, hp, rp⟩ := hr.lst W e
  have e1 := rp.ints
  subst e1
  exact ⟨p, ns, rfl, SqL.of hp, fun ms l h1 h2 hl => by rw [srt_eq h1 h2]; exact ko W k (DfA.of_ints _) hl q⟩
def fSortT (y : EV) (Q : EV → Prop) : Prop := ∃ ns : List Int, asT y = some (ns.map .int) ∧ ns.length < 64 ∧ Q (.o ((srt ns).map .int))
theorem rc_sortT : RcOk S (CR.rSortTup S.K) (f1 fSortT) := rc1 fun G H0 F H v y Q C W hr ⟨ns, e, l, q⟩ k => by
  obtain ⟨p, vs, rfl, hp, rp⟩ := hr.tup W e
  have e1 := rp.ints
  subst e1
  exact ⟨p, ns, rfl, hp.sq W.sub, l, fun ms l h1 h2 hl => by rw [srt_eq h1 h2]; exact ko W k (DfA.of_ints _) hl q⟩
def fSortS (y : EV) (Q : EV → Prop) : Prop := match y with
  | .s ns => ns.length < 64 ∧ Q (.o ((srt ns).map .int))
  | .rs ns => ns.length < 64 ∧ Q (.o ((srt ns).map .int))
  | _ => False
theorem nodup_lt : ∀ {as : List Int}, as.Pairwise (· < ·) → as.Nodup
  | _, h => h.imp fun h => Int.ne_of_lt h
theorem perm_of_mem {as bs : List Int} (h1 : as.Nodup) (h2 : bs.Nodup) (h : ∀ k, k ∈ as ↔ k ∈ bs) : as.Perm bs := (List.perm_ext_iff_of_nodup h1 h2).mpr h
theorem rc_sortS : RcOk S (rSortedSet S.w) (f1 fSortS) := rc1 fun G H0 F H v y Q C W hr hf k => by
  have key : ∀ ns : List Int, (∃ p, v = .ref p ∧ H p = some (SetO S.w p (fun k => decide (k ∈ ns)) ns.length) ∧ ns.Nodup) → ns.length < 64 → Q (.o ((srt ns).map .int)) → rSortedSet S.w [v] H C := by
    rintro ns ⟨p, rfl, hp, nd⟩ l q
    refine ⟨p, _, _, rfl, hp, l, fun ms l h1 h2 h3 hl => ?_⟩
    have hm : ms.Perm ns := perm_of_mem (nodup_lt h1) nd fun k => (h2 k).trans decide_eq_true_iff
    rw [srt_eq hm (h1.imp fun h => Int.le_of_lt h)]
    exact ko W k (DfA.of_ints _) hl q
  unfold fSortS at hf
  split at hf
  · obtain ⟨p, e, g, hp, nd, _⟩ := hr
    exact key _ ⟨p, e, hp, nd⟩ hf.1 hf.2
  · obtain ⟨p, e, g, hp, nd⟩ := hr
    exact key _ ⟨p, e, hp, nd⟩ hf.1 hf.2
  · cases hf
/-! list, int, bool, str, isinstance, repr -/
def fList (y : EV) (Q : EV → Prop) : Prop := match asSeq y with
  | some xs => Q (.o xs)
  | none => False
theorem rc_list : RcOk S (fun xs H Q => ∃ p ys, xs = [.ref p] ∧ (SqL S.K H p ys ∨ SqT S.K H p ys) ∧ ∀ l, H l = none → Q (.ref l) (upd H l (.lst ys))) (f1 fList) := rc1 fun G H0 F H v y Q C W hr hf k => by
  unfold fList at hf
  split at hf
  · rename_i xs e1
    obtain ⟨p, vs, rfl, hp, rp⟩ := hr.seq (K := S.K) W e1
    exact ⟨p, vs, rfl, hp, fun l hl => ko W k rp hl hf⟩
  · cases hf
def fInt (y : EV) (Q : EV → Prop) : Prop := match y with
  | .d (.int i) => Q (.d (.int i))
  | .d (.bool b) => Q (.d (.int (if b then 1 else 0)))
  | _ => False
theorem rc_int : RcOk S (fun xs H Q => (∃ i, xs = [.int i] ∧ Q (.int i) H) ∨ ∃ k, xs = [.bl k] ∧ Q (.int (if k then 1 else 0)) H) (f1 fInt) := rc1 fun G H0 F H v y Q C W hr hf k => by
  unfold fInt at hf
  split at hf
  · cases hr
    exact .inl ⟨_, rfl, kd W k (.int _) hf⟩
  · cases hr
    exact .inr ⟨_, rfl, kd W k (.int _) hf⟩
  · cases hf
def fBool (y : EV) (Q : EV → Prop) : Prop := match y with
  | .d (.int i) => Q (.d (.bool (i != 0)))
  | _ => False
theorem rc_bool : RcOk S (fun xs H Q => (∃ i, xs = [.int i] ∧ Q (.bl (i != 0)) H) ∨ ∃ k, xs = [.bl k] ∧ Q (.bl k) H) (f1 fBool) := rc1 fun G H0 F H v y Q C W hr hf k => by
  unfold fBool at hf
  split at hf
  · cases hr
    exact .inl ⟨_, rfl, kd W k (.bl _) hf⟩
  · cases hf
def fStr (y : EV) (Q : EV → Prop) : Prop := match y with
  | .d (.int i) => i.natAbs.log2 < 1920 ∧ Q (.d (.str (toString i)))
  | _ => False
theorem rc_str : RcOk S (fun xs H Q => ∃ i, xs = [.int i] ∧ i.natAbs.log2 < 1920 ∧ Q (.str (toString i)) H) (f1 fStr) := rc1 fun G H0 F H v y Q C W hr hf k => by
  unfold fStr at hf
  split at hf
  · cases hr
    exact ⟨_, rfl, hf.1, kd W k (.str _) hf.2⟩
  · cases hf
/-- the name of a value's class -/
def tyN : PyData → String
  | .none => "NoneType"
  | .bool _ => "bool"
  | .int _ => "int"
  | .str _ => "str"
  | .list _ => "list"
  | .tuple _ => "tuple"
  | .dict _ => "dict"
def fIsi : List EV → (EV → Prop) → Prop := fun rs Q => match rs with
  | [x, .ty T] => (match dt x with
    | some d => ∃ b, kitB (tyN d) T = some b ∧ Q (.d (.bool b))
    | none => False)
  | _ => False
theorem tyx {K : PySem.W.Frag} {w : World} {G : Gp} {H0 F H : Hp} {v : V} {y : EV} {d : PyData} (W : Wd G F H) (h : Rep K w G H0 F H v y) (e : dt y = some d) (hk : ∀ x, y ≠ .k x) : TyX K H v (.type (tyN d)) := by
  have key : ∀ {v d}, Df F v d → TyX K H v (.type (tyN d)) := fun {v d} h => by
    cases h with
    | non => exact .base .non
    | bl b => exact .base (.bl b)
    | int i => exact .base (.int i)
    | str x => exact .base (.str x)
    | lst a b => exact .base (.lst (W.sub _ _ a))
    | tup a b =>
      rcases a with a | ⟨o, _, a⟩
      · exact .base (.tup (W.sub _ _ a))
      · exact .fTuple (W.sub _ _ a)
  cases y with
  | d x => cases e; exact key h
  | dn x => cases e; exact key h.1
  | l xs => cases e; obtain ⟨p, vs, rfl, g, a, b⟩ := h; exact .base (.lst a)
  | o xs => cases e; obtain ⟨p, vs, rfl, g, a, b, _⟩ := h; exact .base (.lst a)
  | k x => exact absurd rfl (hk x)
  | _ => cases e
def notK : EV → Bool
  | .k _ => false
  | _ => true
def fIsi' (rs : List EV) (Q : EV → Prop) : Prop := match rs with
  | [x, .ty T] => notK x = true ∧ (match dt x with
    | some d => ∃ b, kitB (tyN d) T = some b ∧ Q (.d (.bool b))
    | none => False)
  | _ => False
theorem rc_isi : RcOk S (rIsi S.K) fIsi' := by
  intro G H0 F H vs rs Q C W hr hf k
  unfold fIsi' at hf
  split at hf
  · obtain ⟨nk, hf⟩ := hf
    split at hf
    · rename_i d ed
      obtain ⟨b, eb, q⟩ := hf
      cases hr with
      | cons h1 t ap =>
        cases t with
        | cons h2 t2 ap2 =>
          cases t2
          have h2 : _ = V.ty _ := h2
          subst h2
          exact ⟨_, _, _, _, b, rfl, .ty _, tyx W h1 ed (fun x z => by subst z; cases nk), kit_ty eb, kd W k (.bl _) q⟩
    · cases hf
  · cases hf
def fRepr (y : EV) (Q : EV → Prop) : Prop := match dt y with
  | some d => d.showable = true ∧ d.hasDict = false ∧ d.depth ≤ 32 ∧ d.shown.length ≤ sizeLine ∧ Q (.d (.str d.shown))
  | none => False
theorem rc_repr : RcOk S (CR.rRepr S.K) (f1 fRepr) := rc1 fun G H0 F H v y Q C W hr hf k => by
  unfold fRepr at hf
  split at hf
  · rename_i d ed
    obtain ⟨a, b, c, l, q⟩ := hf
    exact ⟨v, d, rfl, hr.dp W ed, a, b, c, l, kd W k (.str _) q⟩
  · cases hf
/-! tuple -/
def eTuple (ta : TD) : TD := fun ρ Q => ta ρ fun x => match asL x, asT x with
  | some xs, _ => Q (.d (.tuple xs))
  | none, some xs => Q (.d (.tuple xs))
  | none, none => False
theorem de_tuple (hg : S.sc.names.lookup ("tuple" : Str) = some .globalImplicit) (hm : S.mg "tuple" = none) (ha : DE S a ta) (na : ∀ env : PySem.Env, starEach [a] env = (false, eval a env) :: starEach [] env := by intro _; rfl) : DE S (.Call (.Name "tuple" p) [a] [] pos) (eTuple ta) := by
  obtain ⟨u1, p1, h1⟩ := ha
  refine ⟨tThen u1 (kTup S.K), fun X c => by rw [← c.K]; exact pe_tupleOf (ctx_gl c hg) (by rw [c.mg]; exact hm) (p1 X c) (na X.env), fun G H0 F H σ ρ Q C W s h k => h1 G H0 F H σ ρ _ _ W s h fun x u F1 H1 x1 r1 q1 => ?_⟩
  split at q1
  · rename_i xs e1
    obtain ⟨p, vs, rfl, hp, rp⟩ := r1.lst x1.w e1
    exact .inl ⟨p, vs, rfl, SqL.of hp, fun q hq => kt x1.w (k.then x1) rp hq q1⟩
  · rename_i xs e1 e2
    obtain ⟨p, vs, rfl, hp, rp⟩ := r1.tup x1.w e2
    exact .inr ⟨p, vs, rfl, hp.sq x1.w.sub, kd x1.w (k.then x1) (.tup hp rp) q1⟩
  · cases q1
/-- tuple(a list), without a dict -/
def kTupN (K : PySem.W.Frag) (x : V) (H : Hp) (Q : VK) : Prop := ∃ p xs, x = .ref p ∧ SqL K H p xs ∧ ∀ (q : Addr) (o : Obj), H q = none → o.dict = none → Q (.ref q) (upd H q (.frz o (.tup xs)))
theorem pe_tupleN {X : Cx} {te : TE} (hg : Gl X "tuple") (hm : X.mg "tuple" = none) (ha : PE X a te) (na : starEach [a] X.env = (false, eval a X.env) :: starEach [] X.env := by rfl) : PE X (.Call (.Name "tuple" p) [a] [] pos) (tThen te (kTupN X.K)) := by
  refine ⟨fun pins s σ H Q I h => ?_⟩
  refine Call_ (ld_blt I hg hm boot_tuple (PyProof.Rows.callWith_type1 (one_arg ha I h (fun v s2 x H2 I2 r q => ?_) na) na))
  obtain ⟨p, xs, rfl, hs, q⟩ := q
  obtain rfl : v = .ref p := r
  obtain ⟨its, rv, pl, hz⟩ := I2.list hs
  refine call_tuple_list pl.isList (fun h' hk => ?_) (by rw [List.size_toArray, ← rv.length]; exact hz)
  have J : Inv X pins σ H2 { s2 with heap := h' } := I2.kept (t' := s2.toks) hk
  let ob : Obj := { cls := .type "tuple", data := .seq its.toArray }
  have new : ObjOk X.prog X.w (upd H2 h'.objs.size (.frz ob (.tup xs))) (h'.push ob) h'.objs.size (.frz ob (.tup xs)) := ⟨Heap.get?_push_size _ rfl, hz, its, rv, IsTup.new _ _⟩
  exact ⟨.ref h'.objs.size, _, J.laid (t' := s2.toks) (fun b o e => Heap.get?_push_of_some _ e) (Nat.le_refl _) new, rfl, q _ ob (J.hok.fresh (Nat.le_refl _)) rfl⟩
def eTupleN (ta : TD) : TD := fun ρ Q => ta ρ fun x => match asL x with
  | some xs => Q (.dn (.tuple xs))
  | none => False
theorem de_tupleN (hg : S.sc.names.lookup ("tuple" : Str) = some .globalImplicit) (hm : S.mg "tuple" = none) (ha : DE S a ta) (na : ∀ env : PySem.Env, starEach [a] env = (false, eval a env) :: starEach [] env := by intro _; rfl) : DE S (.Call (.Name "tuple" p) [a] [] pos) (eTupleN ta) := by
  obtain ⟨u1, p1, h1⟩ := ha
  refine ⟨tThen u1 (kTupN S.K), fun X c => by rw [← c.K]; exact pe_tupleN (ctx_gl c hg) (by rw [c.mg]; exact hm) (p1 X c) (na X.env), fun G H0 F H σ ρ Q C W s h k => h1 G H0 F H σ ρ _ _ W s h fun x u F1 H1 x1 r1 q1 => ?_⟩
  split at q1
  · rename_i xs e1
    obtain ⟨p, vs, rfl, hp, rp⟩ := r1.lst x1.w e1
    refine ⟨p, vs, rfl, SqL.of hp, fun q o hq ho => ?_⟩
    exact k (.dn (.tuple xs)) _ _ _ (x1.trans (Ext.newF x1.w hq _)) ⟨Df.tup (.inr ⟨o, ho, upd_same⟩) (DfA.mono (sub_upd (x1.w.nf hq)) rp), q, o, _, rfl, upd_same, ho⟩ q1
  · cases q1
/-- tuple(range(n)) -/
def eTupRg (ta : TD) : TD := fun ρ Q => ta ρ fun x => match x with
  | .d (.int n) => 0 ≤ n ∧ n ≤ 1000 ∧ Q (.d (.tuple ((List.range n.toNat).map fun (i : Nat) => .int (i : Int))))
  | _ => False
theorem DfA.range {F : Hp} : ∀ ns : List Nat, DfA F (ns.map fun i => V.int (0 + (i : Nat))) (ns.map fun (i : Nat) => PyData.int (i : Int))
  | [] => .nil
  | n :: ns => .cons (by show Df F (V.int (0 + (n : Int))) (.int n); rw [Int.zero_add]; exact .int _) (DfA.range ns)
theorem de_tupRg {p2 pos2 : Pos} (hg : S.sc.names.lookup ("tuple" : Str) = some .globalImplicit) (hm : S.mg "tuple" = none) (hg2 : S.sc.names.lookup ("range" : Str) = some .globalImplicit) (hm2 : S.mg "range" = none) (ha : DE S a ta)
    (na : ∀ env : PySem.Env, starEach [a] env = (false, eval a env) :: starEach [] env := by intro _; rfl) : DE S (.Call (.Name "tuple" p) [.Call (.Name "range" p2) [a] [] pos2] [] pos) (eTupRg ta) := by
  obtain ⟨u1, p1, h1⟩ := ha
  refine ⟨tTupRg (tRg1 u1), fun X c => pe_tupRg c.calm (ctx_gl c hg) (by rw [c.mg]; exact hm) (prg_1 (ctx_gl c hg2) (by rw [c.mg]; exact hm2) (p1 X c) (na X.env)), fun G H0 F H σ ρ Q C W s h k => h1 G H0 F H σ ρ _ _ W s h fun x u F1 H1 x1 r1 q1 => ?_⟩
  split at q1
  · rename_i n
    cases r1
    refine ⟨n, rfl, .of_le (Int.le_refl 0) (by omega) (by decide) q1.1, fun q hq => ?_⟩
    have e : rgV 0 n = (List.range n.toNat).map fun i => V.int (0 + (i : Nat)) := by unfold rgV; rw [Int.sub_zero]
    rw [e]
    exact kt x1.w (k.then x1) (DfA.range _) hq q1.2.2
  · cases q1
end
end DL
set_option Elab.async false
set_option linter.all false
set_option maxRecDepth 100000
set_option maxHeartbeats 1000000
namespace CR
open PySem PySem.Spec PyProof.Rows L2 PySem.W PySem.Calls
/-! ### walks over a list or a tuple; enumerate over either -/
theorem meets_enumerate_one {v : Value} {ob : Obj} {H : Heap → Prop} (B : Begins v ob H) :
    Meets (Builtin.«enumerate.__new__» ⟨[.type "enumerate", v], []⟩) (fun _ R s => H s.heap ∧
      R (.ok (.ret (.ref (s.heap.push ob).objs.size))) { s with heap := (s.heap.push ob).push { cls := .type "enumerate", data := .fields #[.none, .bool false, .ref s.heap.objs.size, rawInt 0, .none, .none] } }) :=
  .of_wp fun prog w A R s hh => by
    obtain ⟨hp, g, dd, tk, os⟩ := s
    obtain ⟨hin, hr⟩ := hh
    have hsub := sub_enumerate
    have step : ∀ {A2 : Around} {E2 : Value → Shared → Prop} {Q2 : Value → Shared → Prop}, Q2 (.ref hp.objs.size) ⟨hp.push ob, g, dd, tk, os⟩ → wpAny (model prog w) A2 (pyIter v) Q2 E2 ⟨hp, g, dd, tk, os⟩ :=
      fun q2 => B.iter prog w _ _ ⟨hp, g, dd, tk, os⟩ _ hin q2
    wp_walk using step
    refine wpAny_stack_any fun st2 => wpAny_pure ?_
    split
    · rename_i c _ _ _ _ _
      cases (c == Value.type "enumerate")
      · wp_walk using step
        exact ⟨_, rfl, hr⟩
      · wp_walk using step
        exact ⟨_, rfl, hr⟩
    · wp_walk using step
      exact ⟨_, rfl, hr⟩
section
variable {prog : Program} {w : World} {A : Around} {E : Value → Shared → Prop} {s : Shared}
theorem enum_begins_one {v : Value} {ob : Obj} {H : Heap → Prop} {Q : Value → Shared → Prop} (B : Begins v ob H) (hin : H s.heap)
    (hq : ∀ h2, IsEnum h2 (s.heap.objs.size + 1) s.heap.objs.size 0 .none → h2.get? s.heap.objs.size = some ob → (∀ b u, s.heap.get? b = some u → h2.get? b = some u) → Q (.ref (s.heap.objs.size + 1)) { s with heap := h2 }) :
    wpAny (model prog w) A (call (.type "enumerate") [v]) Q E s := by
  refine callType_new F.called_enumerate (by decide) (F.typeCall_enumerate_1 _) (F.newCall_enumerate_1 _) (fun obj => F.args_object_init_2 obj _) F.entry_enumerate_new
    (meets_enumerate_one B) ⟨hin, ?_⟩
  have sz : (s.heap.push ob).objs.size = s.heap.objs.size + 1 := Heap.size_push ..
  show _ ∧ _
  rw [sz]
  have isE : IsEnum ((s.heap.push ob).push { cls := .type "enumerate", data := .fields #[.none, .bool false, .ref s.heap.objs.size, rawInt 0, .none, .none] }) (s.heap.objs.size + 1) s.heap.objs.size 0 .none := by
    have z := Heap.get?_push_size (s.heap.push ob) (o := { cls := .type "enumerate", data := .fields #[.none, .bool false, .ref s.heap.objs.size, rawInt 0, .none, .none] }) rfl
    rw [sz] at z; exact z
  exact ⟨⟨_, isE, rfl⟩, hq _ isE (Heap.get?_push_of_some _ (Heap.get?_push_size _ B.free)) fun b u x => Heap.get?_push_of_some _ (Heap.get?_push_of_some _ x)⟩
end
/-- the tuple at a as it stands at each turn, its items with their number -/
def IteT (K : PySem.W.Frag) (a : Addr) : It :=
  ⟨fun i H => ∃ (xs : List V) (x : V), SqT K H a xs ∧ xs[i]? = some x,
   fun i H v H' => ∃ T x, v = .ref T ∧ H T = none ∧ H' = upd H T (.tup [.int (i : Nat), x]) ∧ ∀ xs, SqT K H a xs → xs[i]? = some x,
   fun i H => ∃ xs : List V, SqT K H a xs ∧ xs.length ≤ i⟩
theorem turn_enumT {P : Program} {w : World} {K : PySem.W.Frag} {elts : List Expr} {kk : Nat} {tpos : Pos} (a e it : Addr) :
    Turn P w K (.Tuple elts kk tpos) (IteT K a) [e, it] e (fun i h => (∃ old, IsEnum h e it ((i : Nat) : Int) old) ∧ h.IsTupleIter it a i ∧ e ≠ it) where
  mem := by simp
  obj := fun i h st b hb => by
    obtain ⟨⟨old, he⟩, ⟨ob, ho, hc, hd⟩, _⟩ := st
    rcases (show b = e ∨ b = it by simpa using hb) with z | z
    · subst z; exact ⟨_, he, fun v q => nomatch q⟩
    · subst z; exact ⟨ob, ho, fun v q => by rw [hd] at q; cases q⟩
  keep := fun i h h' st k => ⟨st.1.imp fun old he => k e (by simp) _ he, st.2.1.at fun o q => k it (by simp) o q, st.2.2⟩
  item := by
    intro X hP hw hK hc i pins s σ H E I hf st hg
    subst hP hw hK
    obtain ⟨⟨old, he⟩, hit, hne⟩ := st
    obtain ⟨xs, x, hq, hx⟩ := hg
    obtain ⟨its, rv, p, hz⟩ := I.tuple hq
    obtain ⟨u, hu, ru⟩ := rv.get hx
    have hel : e < s.heap.objs.size := Heap.lt_size he
    have hil : it < s.heap.objs.size := by obtain ⟨_, q, _⟩ := hit; exact Heap.lt_size q
    have hea : a ≠ it := by
      intro z
      subst z
      obtain ⟨o1, g1, c1, _⟩ := hit
      obtain ⟨o2, g2, c2, _⟩ := p
      rw [g1] at g2
      cases g2
      rw [c1] at c2
      exact absurd c2 (by simp)
    have hea2 : a ≠ e := by
      intro z
      subst z
      obtain ⟨o2, g2, c2, _⟩ := p
      have he' : s.heap.get? a = some _ := he
      rw [he'] at g2
      cases g2
      exact absurd c2 (by simp)
    have hef : e ∉ [it, a] := by simp [hne, Ne.symm hea2]
    have hi : i < its.toArray.size := by
      have := (List.getElem?_eq_some_iff.mp hu).1
      simpa using this
    refine wpAny_pyNext_enum_itemD (Draws.tuple (A := X.A.in1) (I.ok.hd hc) it a hea its.toArray) he ⟨hit, p⟩ hi hne hef fun x' h' tk hP ho hs' hT hsz hk => ?_
    have ex : x' = u := by
      have : its[i]? = some x' := by simpa using hP
      rw [hu] at this
      exact (Option.some.inj this).symm
    subst ex
    refine ⟨_, rfl, wpAny_letOwnedTupleGo_enum (s := { s with heap := h', toks := tk + 1 }) ho fun h'' he' sb => ?_⟩
    have hT2 : h''.get? s.heap.objs.size = some { cls := .type "tuple", data := .seq #[.int i tk, x'] } := (sb.2 _ (Nat.ne_of_gt hel)).trans hT
    have new : ObjOk X.prog X.w (upd H s.heap.objs.size (.tup [.int (i : Nat), x])) h'' s.heap.objs.size (.tup [.int (i : Nat), x]) :=
      ⟨by show 2 ≤ sizeLine; decide, [.int i tk, x'], .cons ⟨_, rfl⟩ (.cons ru .nil), ⟨_, hT2, rfl, _, rfl⟩⟩
    have I1 : Inv X pins σ (upd H s.heap.objs.size (.tup [.int (i : Nat), x])) { s with heap := h'', toks := tk + 1 } :=
      I.turnedNew (ch := [e, it]) (fun b ob hb q => (sb.2 b (fun z => hb (by simp [z]))).trans (hk b ob (fun z => hb (by simp [z])) (fun z => hb (by simp [z])) q)) hf (Nat.le_refl _) new
    refine ⟨.ref s.heap.objs.size, _, I1, rfl, ⟨_, x, rfl, I.hok.fresh (Nat.le_refl _), rfl, fun ys hy => by rw [I.tuple_inj hy hq]; exact hx⟩, ⟨⟨x', ?_⟩, hs'.1.at fun o q => (sb.2 it (Ne.symm hne)).trans q, hne⟩, fun b hb => ?_⟩
    · rw [show ((i + 1 : Nat) : Int) = (i : Int) + 1 by omega]; exact he'
    · have hb' : b < s.heap.objs.size := by
        rcases (show b = e ∨ b = it by simpa using hb) with z | z
        · rw [z]; exact hel
        · rw [z]; exact hil
      rw [upd_ne (Nat.ne_of_lt hb')]
      exact (hf b hb).1
  done := by
    intro X hP hw hK hc i pins s σ H E I hf st hg
    subst hP hw hK
    obtain ⟨⟨old, he⟩, hit, hne⟩ := st
    obtain ⟨xs, hq, hx⟩ := hg
    obtain ⟨its, rv, p, hz⟩ := I.tuple hq
    obtain ⟨f0, f1, f2, f3, f4, f5⟩ := hf it (by simp)
    have hl := rv.length
    have hT : s.TypeIs (.ref e) "enumerate" := ⟨_, he, rfl⟩
    unfold pyNext
    refine wpAny_bind (wpAny_attempt (wpAny_callSpecial?_slot (name := Str.ofString "__next__") hT F.slot_enumerate_next
      (wpAny_call_entry F.slot_enumerate_next hT F.entry_enumerate_next ?_ (F.args_enumerate_next_1 _))))
    show wpAny _ _ (field (.ref e) 2 >>= _) _ _ _
    refine wpAny_bind (wpAny_field he rfl (x := .ref it) rfl ?_)
    refine wpAny_bind (wpAny_nextOf_tuple_end (I.ok.hd hc) hit p (by simp; omega) fun h' x he' hx' => ?_)
    obtain ⟨ob, ho, hcc⟩ := hx'
    refine wpAny_bind (wpAny_isInstance (T := "StopIteration") (b := true) ⟨ob, ho, hcc⟩ isSubtype_stop ?_)
    exact wpAny_pure ⟨rfl, I.turned (t' := s.toks) (fun b o hb q => he' b o hb q) f0 f1 f3 f4 f5⟩
  self := fun A i s Q E st h => let ⟨⟨_, he⟩, _⟩ := st; wpAny_pyIter_enum he h
section
variable {X : Cx}
/-- enumerate(a list or a tuple) -/
def iEnumA (K : PySem.W.Frag) (ta : TA) : TI := fun σ H R => ta σ H fun vs H1 => ∃ a xs, vs = [.ref a] ∧ ((SqL K H1 a xs ∧ R (Ite K a) H1) ∨ (SqT K H1 a xs ∧ R (IteT K a) H1))
theorem pi_enumA {e : Expr} {ta : TA} {p pos tpos : Pos} {elts : List Expr} {kk : Nat} (hg : Gl X "enumerate") (hm : X.mg "enumerate" = none) (ha : PA X [e] ta) (hs : starEach [e] X.env = [(false, eval e X.env)] := by rfl) :
    PI X (.Tuple elts kk tpos) (.Call (.Name "enumerate" p) [e] [] pos) (iEnumA X.K ta) := by
  refine ⟨fun pins s σ H R I h => ?_⟩
  refine Call_ (ld_blt I hg hm boot_enumerate (PyProof.Rows.callWith_type1 (thn (ha.run pos pins s σ H _ I h) fun us s1 ⟨vs, H1, I1, r1, a, xs, ex, q1⟩ => ?_) hs rfl))
  subst ex
  rw [Vals.ref1 r1]
  have low : ∀ b, b = s1.heap.objs.size + 1 ∨ b = s1.heap.objs.size → s1.heap.objs.size ≤ b := fun b z => by
    rcases z with z | z
    · rw [z]; exact Nat.le_add_right _ _
    · rw [z]; exact Nat.le_refl _
  rcases q1 with ⟨hq, q⟩ | ⟨hq, q⟩
  · obtain ⟨its, rv, p', hz⟩ := I1.list hq
    refine call_enumerate_list p'.isList fun h' he hit hsz hk => wpAny_pyIter_enum he ?_
    have I2 : Inv X pins σ H1 { s1 with heap := h' } := I1.kept (t' := s1.toks) hk
    exact ⟨_, [s1.heap.objs.size + 1, s1.heap.objs.size], _, _, H1, rfl, I2, turn_enum a (s1.heap.objs.size + 1) s1.heap.objs.size, ⟨⟨.none, he⟩, hit, Nat.succ_ne_self _⟩, fun b hb => I1.fpOk (low b (by simpa using hb)) (I1.hok.fresh (low b (by simpa using hb))), q⟩
  · obtain ⟨its, rv, p', hz⟩ := I1.tuple hq
    refine enum_begins_one (begins_tuple a its.toArray) p' fun h' he hit hk => wpAny_pyIter_enum he ?_
    have I2 : Inv X pins σ H1 { s1 with heap := h' } := I1.kept (t' := s1.toks) hk
    exact ⟨_, [s1.heap.objs.size + 1, s1.heap.objs.size], _, _, H1, rfl, I2, turn_enumT a (s1.heap.objs.size + 1) s1.heap.objs.size, ⟨⟨.none, he⟩, ⟨_, hit, rfl, rfl⟩, Nat.succ_ne_self _⟩, fun b hb => I1.fpOk (low b (by simpa using hb)) (I1.hok.fresh (low b (by simpa using hb))), q⟩
/-- a list or a tuple -/
def iSeq (K : PySem.W.Frag) (tl : TE) : TI := fun σ H R => tl σ H fun x H1 => ∃ a xs, x = .ref a ∧ ((SqL K H1 a xs ∧ R (Itl K a) H1) ∨ (SqT K H1 a xs ∧ R (Itt K a) H1))
theorem pi_seq {tg l : Expr} {tl : TE} (hl : PE X l tl) : PI X tg l (iSeq X.K tl) := by
  refine ⟨fun pins s σ H R I h => thn (hl.run pins s σ H _ I h) fun v s1 ⟨x, H1, I1, r1, a, xs, ex, q1⟩ => ?_⟩
  subst ex
  cases r1
  rcases q1 with ⟨hq, q⟩ | ⟨hq, q⟩
  · obtain ⟨its, rv, p, hz⟩ := I1.list hq
    refine wpAny_pyIter_list p.isList ?_
    exact ⟨_, [s1.heap.objs.size], _, _, H1, rfl, I1.kept (t' := s1.toks) fun b o e => Heap.get?_push_of_some _ e, turn_list a _, ⟨_, Heap.get?_push_size _ rfl, rfl, rfl⟩, fun b hb => by
      rw [List.mem_singleton.mp hb]; exact I1.fpOk (Nat.le_refl _) (I1.hok.fresh (Nat.le_refl _)), q⟩
  · obtain ⟨its, rv, p, hz⟩ := I1.tuple hq
    refine wpAny_pyIter_tuple p ?_
    exact ⟨_, [s1.heap.objs.size], _, _, H1, rfl, I1.kept (t' := s1.toks) fun b o e => Heap.get?_push_of_some _ e, turn_tuple a _, ⟨_, Heap.get?_push_size _ rfl, rfl, rfl⟩, fun b hb => by
      rw [List.mem_singleton.mp hb]; exact I1.fpOk (Nat.le_refl _) (I1.hok.fresh (Nat.le_refl _)), q⟩
end
end CR
set_option Elab.async false
set_option linter.all false
set_option maxRecDepth 100000
set_option maxHeartbeats 1000000
namespace CR
open PySem PySem.Spec PyProof.Rows L2 PySem.W PySem.Calls
/-! ### in place: ints by *=, tuples by += -/
theorem noI_tup : typeLookup (.type "tuple") (dunderI "add") = pure none := by rfl
section
variable {prog : Program} {w : World} {A : Around} {E : Value → Shared → Prop} {s : Shared}
theorem icat_tup {t b : Addr} {vs ws : List Value} {Q : Value → Shared → Prop} (ht : IsTup s.heap t vs.toArray) (hb : IsTup s.heap b ws.toArray) (h0 : vs = [] → Q (.ref b) s) (h1 : vs ≠ [] → ws = [] → Q (.ref t) s)
    (h2 : vs ≠ [] → ws ≠ [] → Q (.ref s.heap.objs.size) { s with heap := s.heap.push { cls := .type "tuple", data := .seq (vs ++ ws).toArray } }) (hsz : vs.length + ws.length ≤ sizeLine) : wpAny (model prog w) A (inplaceOp .Add (.ref t) (.ref b)) Q E s := by
  obtain ⟨⟨cls, dd, data, sl⟩, ho, hc, n, hd⟩ := id ht
  obtain ⟨⟨cls2, dd2, data2, sl2⟩, ho2, hc2, n2, hd2⟩ := id hb
  simp only at hc hd hc2 hd2
  subst hc hd hc2 hd2
  have ct : s.TypeIs (.ref t) "tuple" := ⟨_, ho, rfl⟩
  have cb : s.TypeIs (.ref b) "tuple" := ⟨_, ho2, rfl⟩
  refine wpAny_inplaceOp_concat ct cb noI_tup noFill_tuple_add seq_tuple_add ?_
  by_cases hv : vs = []
  · subst hv
    exact call_meets PySem.F.slot_tuple_add ct PySem.F.entry_tuple_add (PySem.F.args_tuple_add_2 _ _) (tuple_addW0 t b ([] : List Value).toArray ws.toArray n n2 dd dd2 sl sl2 (by simp)) ⟨ho, ho2, h0 rfl⟩
  · by_cases hw : ws = []
    · exact call_meets PySem.F.slot_tuple_add ct PySem.F.entry_tuple_add (PySem.F.args_tuple_add_2 _ _) (tuple_addW1 t b vs.toArray ws.toArray n n2 dd dd2 sl sl2 (by simpa using hv) (by simp [hw])) ⟨ho, ho2, h1 hv hw⟩
    · refine call_meets PySem.F.slot_tuple_add ct PySem.F.entry_tuple_add (PySem.F.args_tuple_add_2 _ _) (tuple_addW2 t b vs.toArray ws.toArray n n2 dd dd2 sl sl2 (by simpa using hv) (by simpa using hw) (by rw [List.size_toArray, List.size_toArray]; exact hsz)) ⟨ho, ho2, ?_⟩
      rw [show vs.toArray ++ ws.toArray = (vs ++ ws).toArray by simp]
      exact h2 hv hw
end
section
variable {X : Cx}
theorem ip_catT : PIp X .Add (rCatA X.K) := by
  intro pins s σ H x y v u Q I rx ry h
  obtain ⟨a, b, xs, ys, rfl, rfl, ha, hb, hz, q0, q1, q2⟩ := h
  cases rx
  cases ry
  obtain ⟨its, r1, p1, _⟩ := I.tuple ha
  obtain ⟨its2, r2, p2, _⟩ := I.tuple hb
  refine icat_tup p1 p2 (fun z => ⟨.ref b, H, I, rfl, q0 (r1.nil_iff.mp z)⟩) (fun z z2 => ⟨.ref a, H, I, rfl, q1 (fun e => z (r1.nil_iff.mpr e)) (r2.nil_iff.mp z2)⟩) (fun z z2 => ?_) (by rw [← r1.length, ← r2.length]; exact hz)
  refine ⟨.ref s.heap.objs.size, _, I.laid (t' := s.toks) (o := .tup (xs ++ ys)) (fun b ob q => Heap.get?_push_of_some _ q) (Nat.le_refl _) ?_, rfl, q2 (fun e => z (r1.nil_iff.mpr e)) (fun e => z2 (r2.nil_iff.mpr e)) _ (I.hok.fresh (Nat.le_refl _))⟩
  exact ⟨by rw [List.length_append]; exact hz, _, r1.append r2, IsTup.new _ _⟩
theorem ip_mul : PIp X .Mult (fun x y H Q => ∃ i j, x = .int i ∧ y = .int j ∧ CMul i j ∧ Q (.int (i * j)) H) := by
  intro pins s σ H x y v u Q I rx ry h
  obtain ⟨i, j, rfl, rfl, c, q⟩ := h
  obtain ⟨t, rfl⟩ := rx
  obtain ⟨t', rfl⟩ := ry
  exact imul_int ⟨.int _, H, I.tok _, ⟨_, rfl⟩, q⟩ c.ok
/-! ### t * 1 -/
theorem tuple_mul1 (l : Addr) (items : Array Value) (n : Nat) (dd : Option Addr) (sl : Array (Option Value)) (u : Tok) :
    Meets (Builtin.«tuple.__mul__» ⟨[.ref l, .int 1 u], []⟩) (fun _ R s => s.heap.get? l = some { cls := .type "tuple", dict := dd, data := .seq items n, slots := sl } ∧ R (.ok (.ret (Value.ref l))) s) :=
  .of_wp fun prog w A R s h => by
    obtain ⟨hp, g, d, tk, os⟩ := s
    obtain ⟨hl, h⟩ := h
    have f1 := AutoSeq1.idx_int
    wp_walk using wpAny_loadPart' hl
    repeat (first
      | (refine wpAny_ite_false (by decide) ?_; wp_walk using wpAny_loadPart' hl)
      | (refine wpAny_ite_true (by simp) ?_; wp_walk using wpAny_loadPart' hl))
    exact ⟨_, rfl, h⟩
theorem op_rep1 : OpR X (binaryOp .Mult) (fun x y H Q => ∃ l xs, x = .ref l ∧ y = .int 1 ∧ SqT X.K H l xs ∧ Q (.ref l) H) := by
  intro pins s σ H x y v u Q I rx ry h
  obtain ⟨l, xs, rfl, rfl, hT, q⟩ := h
  cases rx
  obtain ⟨t, rfl⟩ := ry
  obtain ⟨its, r, ⟨⟨cls, dd, data, sl⟩, ho, hc, n, hd⟩, hs⟩ := I.tuple hT
  simp only at hc hd
  subst hc hd
  exact wpAny_binaryOp_repeat_ref (T := "tuple") (U := "int") (by decide) ⟨_, ho, rfl⟩ (fun s' => typeIs_int s' 1 t) noFill_tuple_mul F.fills_int_mul F.slot_int_rmul repeat_tuple F.slot_int_index.lookup
    (call_meets F.slot_int_rmul (typeIs_int s 1 t) F.entry_int_rmul (F.args_int_rmul_2 _ _) (int_rmul_tuple 1 t l its.toArray n dd sl)
      ⟨ho, rfl, ⟨_, ho, rfl⟩, call_meets F.slot_tuple_mul ⟨_, ho, rfl⟩ F.entry_tuple_mul (F.args_tuple_mul_2 _ _) (tuple_mul1 l its.toArray n dd sl t) ⟨ho, .ref l, H, I, rfl, q⟩⟩)
/-! ### t.index(n) of a tuple without a dict -/
def tTix (K : PySem.W.Frag) (to : TE) (ta : TA) : TE := fun σ H Q => to σ H fun x H1 => ∃ (p : Addr) (ob : Obj) (ns : List Int), x = .ref p ∧ H1 p = some (.frz ob (.tup (ns.map V.int))) ∧ ob.dict = none ∧
  ta σ H1 fun ys H2 => ∃ k : Int, ys = [.int k] ∧ H2 p = some (.frz ob (.tup (ns.map V.int))) ∧ k ∈ ns ∧ Q (.int (ns.idxOf k : Nat)) H2
theorem pe_tix {o e : Expr} {to : TE} {ta : TA} {apos cpos : Pos} (ho : PE X o to) (ha : PA X [e] ta)
    (hbase : attributeBase o "index" X.env (eval o X.env) = eval o X.env := by rfl)
    (hfew : ((backTo cpos (starEach [e] X.env)).all (fun x => !x.1) && (backToKw cpos (keywordEach [] X.env)).all (fun x => x.1.isSome)
      && decide ([e].length + ([] : List Keyword).length + (if ([] : List Keyword).isEmpty then 0 else 1) < 30)) = true := by rfl)
    (hline : (apos.endLine == cpos.line) = true := by rfl) (hs : starEach [e] X.env = (false, eval e X.env) :: starEach [] X.env := by rfl) (hplain : (backTo cpos (starEach [] X.env)).any (·.1) = false := by rfl) :
    PE X (.Call (.Attribute o "index" apos) [e] [] cpos) (tTix X.K to ta) := by
  refine ⟨fun pins s σ H Q I h => ?_⟩
  refine wpAny_Call_method_late hbase hfew hline rfl (thn (ho.run pins s σ H _ I h) fun v s1 ⟨x, H1, I1, r1, p, ob, ns, ex, hp, hd, q1⟩ => ?_)
  subst ex
  cases r1
  obtain ⟨hg, _, its, rv, pl⟩ := I1.hok p _ hp
  refine ⟨"tuple", "tuple.index", F.plainAttrs_tuple, F.slot_tuple_index, F.type_tuple_index, pl.typeIs, fun b eb => ?_, ?_⟩
  · cases eb
    exact ⟨ob, hg, hd⟩
  have hA := ha.run cpos pins s1 σ H1 _ I1 q1
  rw [hs] at hA ⊢
  refine Calls.callWith_builtin (by show (false || (backTo cpos (starEach [] X.env)).any (·.1)) = false; rw [hplain] <;> rfl) (Calls.evalArgs_plain ?_)
  exact thn hA fun us s2 ⟨vs, H2, I2, r2, k, ek, hp2, hk, q2⟩ => mt_tidx pins s2 σ H2 (.ref p) vs (.ref p) us Q I2 rfl r2 ⟨p, ns, k, rfl, ek, .inl (.inr ⟨ob, hp2⟩), hk, q2⟩
end
end CR
set_option Elab.async false
set_option linter.all false
set_option maxRecDepth 100000
set_option maxHeartbeats 1000000
namespace DL
open PySem PySem.Spec PyProof.Rows L2
/-! ### blocks: a comprehension's own frame -/
def Sx.blk (S : Sx) (scope : Scope) : Sx := { S with sc := relS scope S.sc, fn := fun x => scope.names.lookup x == some .cell }
theorem ctx_blk {S : Sx} {X : Cx} (c : Ctx S X) (s : Shared) (H : Hp) (scope : Scope) (cl : List (Str × Addr)) (A : Addr) (fp : List Addr) : Ctx (S.blk scope) (X.blk s H scope (compEnvC scope cl A X.env) fp) where
  N := c.N
  sc := by show relS scope X.env.scope = relS scope S.sc; rw [c.sc]
  fn := rfl
  P := c.P
  w := c.w
  K := c.K
  mg := c.mg
  base := c.base
  calm := c.calm
  xe := rfl
  nd := c.nd
  hr := c.hr
  gd := c.gd
  cd := c.cd
def wp (ρ : Env) : List Nat → Env
  | [] => ρ
  | v :: vs => (wp ρ vs).set v none
theorem wp_length (ρ : Env) : ∀ vs : List Nat, (wp ρ vs).length = ρ.length
  | [] => rfl
  | v :: vs => by unfold wp; rw [List.length_set, wp_length ρ vs]
theorem wp_some {ρ : Env} {i : Nat} {x : EV} : ∀ {vs : List Nat}, (wp ρ vs)[i]? = some (some x) → ρ[i]? = some (some x) ∧ i ∉ vs
  | [], h => ⟨h, by simp⟩
  | v :: vs, h => by
    unfold wp at h
    by_cases e : v = i
    · subst e
      rw [List.getElem?_set] at h
      simp only [if_true] at h
      split at h <;> cases h
    · rw [List.getElem?_set_ne e] at h
      obtain ⟨a, b⟩ := wp_some h
      exact ⟨a, by simp only [List.mem_cons, not_or]; exact ⟨fun z => e z.symm, b⟩⟩
theorem wipe_out {σ : L2.St} {i : Nat} : ∀ {vs : List Nat}, i ∉ vs → (wipe σ vs)[i]? = σ[i]?
  | [], _ => rfl
  | v :: vs, h => by
    unfold wipe
    simp only [List.mem_cons, not_or] at h
    rw [List.getElem?_set_ne (fun z => h.1 z.symm)]
    exact wipe_out h.2
theorem wipe_in {σ : L2.St} {i : Nat} : ∀ {vs : List Nat}, i ∈ vs → i < σ.length → (wipe σ vs)[i]? = some none
  | v :: vs, h, hl => by
    unfold wipe
    by_cases e : v = i
    · subst e
      rw [List.getElem?_set_self (by rw [wipe_length]; exact hl)]
    · rw [List.getElem?_set_ne e]
      exact wipe_in ((List.mem_cons.mp h).resolve_left fun z => e z.symm) hl
theorem wipe_same {σ τ : L2.St} {vs ns : List Nat} (hl : τ.length = σ.length) (h : ∀ j, j ∉ ns → τ[j]? = σ[j]?) (hs : ∀ j ∈ ns, j ∈ vs) : wipe τ vs = wipe σ vs := by
  apply List.ext_getElem?
  intro j
  by_cases hj : j ∈ vs
  · by_cases hb : j < σ.length
    · rw [wipe_in hj hb, wipe_in hj (by rw [hl]; exact hb)]
    · rw [List.getElem?_eq_none (by rw [wipe_length, hl]; omega), List.getElem?_eq_none (by rw [wipe_length]; omega)]
  · rw [wipe_out hj, wipe_out hj, h j fun z => hj (hs j z)]
theorem Sta.wipe {K : PySem.W.Frag} {w : World} {G : Gp} {H0 F H : Hp} {σ : L2.St} {ρ : Env} (s : Sta K w G H0 F H σ ρ) (vs : List Nat) : Sta K w G H0 F H (L2.wipe σ vs) (wp ρ vs) :=
  s.drop (by rw [wipe_length, wp_length]; exact s.len) fun i ev e => ⟨(wp_some e).1, wipe_out (wp_some e).2⟩
/-! ### targets -/
def dn? : EV → Bool
  | .d _ => true
  | .dn _ => true
  | _ => false
theorem Rep.frame {K : PySem.W.Frag} {w : World} {G : Gp} {H0 H0' F H F' H' : Hp} {v : V} {r : EV} (s : Sub F F') (h : Rep K w G H0 F H v r) (e : dn? r = true) : Rep K w G H0' F' H' v r := by
  cases r with
  | d x => exact Df.mono s h
  | dn x => obtain ⟨h, a, o, u, e, f, d⟩ := h; exact ⟨Df.mono s h, a, o, u, e, s _ _ f, d⟩
  | _ => cases e
theorem dn_own {r : EV} (h : dn? r = true) : own r = false := by cases r <;> first | rfl | cases h
/-- a slot is stored, with data -/
theorem Sta.setD {K : PySem.W.Frag} {w : World} {G : Gp} {H0 H1 F H : Hp} {σ : L2.St} {ρ : Env} {v : V} {r : EV} (s : Sta K w G H0 F H σ ρ) (h : Rep K w G H1 F H v r) (hk : dn? r = true) (i : Nat) : Sta K w G H0 F H (σ.set i (some v)) (ρ.set i (some r)) := by
  have at' : ∀ {j : Nat} {ev : EV}, (ρ.set i (some r))[j]? = some (some ev) → (i = j ∧ ev = r ∧ j < ρ.length) ∨ (i ≠ j ∧ ρ[j]? = some (some ev)) := fun {j ev} e => by
    by_cases hj : i = j
    · subst hj
      have hl : i < ρ.length := by
        have := (List.getElem?_eq_some_iff.mp e).1
        rwa [List.length_set] at this
      rw [List.getElem?_set_self hl] at e
      cases e
      exact .inl ⟨rfl, rfl, hl⟩
    · rw [List.getElem?_set_ne hj] at e
      exact .inr ⟨hj, e⟩
  refine ⟨by rw [List.length_set, List.length_set]; exact s.len, fun j ev e => ?_, fun j ev e => ?_, fun j k p y z ne e1 o1 e2 o2 f1 f2 => ?_⟩
  · rcases at' e with ⟨rfl, rfl, hl⟩ | ⟨hj, e⟩
    · exact ⟨v, by rw [List.getElem?_set_self (by rw [s.len]; exact hl)], h.frame Sub.rfl' hk⟩
    · obtain ⟨u, a, b⟩ := s.at_ j ev e
      exact ⟨u, by rw [List.getElem?_set_ne hj]; exact a, b⟩
  · rcases at' e with ⟨rfl, rfl, hl⟩ | ⟨hj, e⟩
    · cases ev <;> first | rfl | cases hk
    · exact s.nol j ev e
  · rcases at' e1 with ⟨rfl, rfl, hl⟩ | ⟨hj, e1⟩
    · rw [dn_own hk] at o1; cases o1
    · rcases at' e2 with ⟨rfl, rfl, hl⟩ | ⟨hk', e2⟩
      · rw [dn_own hk] at o2; cases o2
      · rw [List.getElem?_set_ne hj] at f1
        rw [List.getElem?_set_ne hk'] at f2
        exact s.one j k p y z ne e1 o1 e2 o2 f1 f2
abbrev TGd := EV → Env → (Env → Prop) → Prop
def DG (S : Sx) (tg : Expr) (ns : List Nat) (t : TGd) : Prop := ∃ g : TG, (∀ X, Ctx S X → PG X tg g) ∧ ∀ (G : Gp) (H0 H1 F H : Hp) (σ : L2.St) (ρ : Env) (v : V) (r : EV) (Q : Env → Prop) (C : L2.St → Hp → Prop),
  Wd G F H → Sta S.K S.w G H0 F H σ ρ → Rep S.K S.w G H1 F H v r → t r ρ Q →
  (∀ σ' ρ', (∀ F' H', Sub F F' → Sta S.K S.w G H0 F' H' σ ρ → Sta S.K S.w G H0 F' H' σ' ρ') → (∀ j, j ∉ ns → σ'[j]? = σ[j]?) → σ'.length = σ.length → Q ρ' → C σ' H) → g v σ H C
def gN (i : Nat) : TGd := fun r ρ Q => dn? r = true ∧ Q (ρ.set i (some r))
theorem dg_name {S : Sx} {x : Str} {pos : Pos} (i : Nat) (hN : S.N[i]? = some x) (hl : L2.Loc S.sc x) (hf : S.fn x = true ∨ S.sc.names.lookup x = some .local := by first | exact .inl rfl | exact .inr rfl) : DG S (.Name x pos) [i] (gN i) := by
  refine ⟨gName i, fun X c => pg_name (by rw [c.N]; exact c.nd) (by rw [c.N]; exact hN) (by rw [c.sc]; exact hl) (by rw [c.fn, c.sc]; exact hf), fun G H0 H1 F H σ ρ v r Q C W s hr ht k => ?_⟩
  exact k _ _ (fun F' H' sb s' => s'.setD (H1 := H1) (hr.frame sb ht.1) ht.1 i) (fun j hj => List.getElem?_set_ne fun z => hj (List.mem_singleton.mpr z.symm)) (by rw [List.length_set]) ht.2
abbrev TGsd := List PyData → Env → (Env → Prop) → Prop
def DGs (S : Sx) (es : List Expr) (ns : List Nat) (t : TGsd) : Prop := ∃ g : TGs, (∀ X, Ctx S X → PGs X es g) ∧ ∀ (G : Gp) (H0 F H : Hp) (σ : L2.St) (ρ : Env) (vs : List V) (ds : List PyData) (Q : Env → Prop) (C : L2.St → Hp → Prop),
  Wd G F H → Sta S.K S.w G H0 F H σ ρ → DfA F vs ds → t ds ρ Q →
  (∀ σ' ρ', (∀ F' H', Sub F F' → Sta S.K S.w G H0 F' H' σ ρ → Sta S.K S.w G H0 F' H' σ' ρ') → (∀ j, j ∉ ns → σ'[j]? = σ[j]?) → σ'.length = σ.length → Q ρ' → C σ' H) → g vs σ H C
def gsNil : TGsd := fun ds ρ Q => ds = [] ∧ Q ρ
def gsCons (t : TGd) (u : TGsd) : TGsd := fun ds ρ Q => match ds with
  | d :: ds => t (.d d) ρ fun ρ' => u ds ρ' Q
  | [] => False
theorem dgs_nil {S : Sx} : DGs S [] [] gsNil := ⟨gNil, fun X c => pgs_nil, fun G H0 F H σ ρ vs ds Q C W s hr ht k => by
  obtain ⟨rfl, q⟩ := ht
  cases hr
  exact ⟨rfl, k σ ρ (fun _ _ _ s => s) (fun _ _ => rfl) rfl q⟩⟩
theorem dgs_cons {S : Sx} {e : Expr} {es : List Expr} {ns ms : List Nat} {t : TGd} {u : TGsd} (h : DG S e ns t) (h' : DGs S es ms u)
    (hm : ∀ env : PySem.Env, (assignEach (e :: es) env).map (·.2) = assign e env :: (assignEach es env).map (·.2) := by intro _; rfl) : DGs S (e :: es) (ns ++ ms) (gsCons t u) := by
  obtain ⟨g, p, q⟩ := h
  obtain ⟨g', p', q'⟩ := h'
  refine ⟨gCons g g', fun X c => pgs_cons (p X c) (p' X c) (hm X.env), fun G H0 F H σ ρ vs ds Q C W s hr ht k => ?_⟩
  cases hr with
  | nil => cases ht
  | cons h t =>
    refine ⟨_, _, rfl, q G H0 H F H σ ρ _ (.d _) _ _ W s h ht fun σ1 ρ1 s1 n1 l1 q1 => ?_⟩
    refine q' G H0 F H σ1 ρ1 _ _ _ _ W (s1 F H Sub.rfl' s) t q1 fun σ2 ρ2 s2 n2 l2 q2 => ?_
    exact k σ2 ρ2 (fun F' H' sb s' => s2 F' H' sb (s1 F' H' sb s')) (fun j hj => by
      simp only [List.mem_append, not_or] at hj
      rw [n2 j hj.2, n1 j hj.1]) (l2.trans l1) q2
def gT (u : TGsd) : TGd := fun r ρ Q => match asT r with
  | some ds => u ds ρ Q
  | none => False
theorem dg_tup {S : Sx} {es : List Expr} {k : Nat} {pos : Pos} {ns : List Nat} {u : TGsd} {n : Nat} (h : DGs S es ns u) (hn : ∀ env : PySem.Env, (assignEach es env).length = n := by intro _; rfl) (hf : ∀ env : PySem.Env, (assignEach es env).findIdx? (·.1) = none := by intro _; rfl)
    (hu : ∀ ds ρ Q, u ds ρ Q → ds.length = n) : DG S (.Tuple es k pos) ns (gT u) := by
  obtain ⟨g, p, q⟩ := h
  refine ⟨gTup S.K n g, fun X c => by rw [← c.K]; exact pg_tup c.calm (p X c) (hn X.env) (hf X.env), fun G H0 H1 F H σ ρ v r Q C W s hr ht k => ?_⟩
  unfold gT at ht
  split at ht
  · rename_i ds e
    obtain ⟨a, vs, rfl, ha, hd⟩ := hr.tup W e
    exact ⟨a, vs, rfl, ha.sq W.sub, by rw [hd.length]; exact hu _ _ _ ht, q G H0 F H σ ρ vs ds Q C W s hd ht k⟩
  · cases ht
theorem gs2_len {t u : TGd} (ds : List PyData) (ρ : Env) (Q : Env → Prop) (h : gsCons (gN a) (gsCons (gN b) gsNil) ds ρ Q) : ds.length = 2 := by
  rcases ds with _ | ⟨x, _ | ⟨y, _ | ⟨z, ds⟩⟩⟩
  · cases h
  · exact absurd h.2 (by intro z; cases z)
  · rfl
  · exact absurd h.2.2.1 (by intro z; cases z)
theorem gs4_len {a b c d : Nat} (ds : List PyData) (ρ : Env) (Q : Env → Prop) (h : gsCons (gN a) (gsCons (gN b) (gsCons (gN c) (gsCons (gN d) gsNil))) ds ρ Q) : ds.length = 4 := by
  rcases ds with _ | ⟨x, _ | ⟨y, _ | ⟨z, _ | ⟨u, _ | ⟨v, ds⟩⟩⟩⟩⟩
  · cases h
  · exact absurd h.2 (by intro z; cases z)
  · exact absurd h.2.2 (by intro z; cases z)
  · exact absurd h.2.2.2 (by intro z; cases z)
  · rfl
  · exact absurd h.2.2.2.2.1 (by intro z; cases z)
theorem dg_tup2 {S : Sx} {e1 e2 : Expr} {k : Nat} {pos : Pos} {a b : Nat} (h1 : DG S e1 [a] (gN a)) (h2 : DG S e2 [b] (gN b)) (hn : ∀ env : PySem.Env, (assignEach [e1, e2] env).length = 2 := by intro _; rfl) (hf : ∀ env : PySem.Env, (assignEach [e1, e2] env).findIdx? (·.1) = none := by intro _; rfl)
    (hm : ∀ env : PySem.Env, (assignEach [e1, e2] env).map (·.2) = assign e1 env :: (assignEach [e2] env).map (·.2) := by intro _; rfl) (hm2 : ∀ env : PySem.Env, (assignEach [e2] env).map (·.2) = assign e2 env :: (assignEach [] env).map (·.2) := by intro _; rfl) :
    DG S (.Tuple [e1, e2] k pos) [a, b] (gT (gsCons (gN a) (gsCons (gN b) gsNil))) :=
  dg_tup (dgs_cons h1 (dgs_cons h2 dgs_nil hm2) hm) hn hf fun ds ρ Q h => gs2_len (t := gN a) (u := gN a) ds ρ Q h
/-! ### what is walked -/
def Fr (m : Bool) (G : Gp) (F1 H1 F2 H2 : Hp) : Prop := if m = true then Sub F1 F2 ∧ Wd G F2 H2 else Ext G F1 H1 F2 H2
theorem Fr.w {m : Bool} {G : Gp} {F1 H1 F2 H2 : Hp} (h : Fr m G F1 H1 F2 H2) : Sub F1 F2 ∧ Wd G F2 H2 := by
  unfold Fr at h
  split at h
  · exact h
  · exact ⟨h.f, h.w⟩
theorem Fr.self {m : Bool} {G : Gp} {F H : Hp} (w : Wd G F H) : Fr m G F H F H := by
  unfold Fr
  split
  · exact ⟨Sub.rfl', w⟩
  · exact Ext.rfl' w
def ItOk (S : Sx) (m : Bool) (G : Gp) (F1 H1 : Hp) (J : It) (rs : List EV) : Prop := ∀ F2 H2, Fr m G F1 H1 F2 H2 → (∀ i, rs.length ≤ i → J.stop i H2) ∧
  ∀ i r, rs[i]? = some r → J.go i H2 ∧ ∀ x H', J.yld i H2 x H' → ∃ F', Ext G F2 H2 F' H' ∧ Rep S.K S.w G H2 F' H' x r
abbrev TId := Env → (List EV → Prop) → Prop
def DI (S : Sx) (m : Bool) (tg iter : Expr) (t : TId) : Prop := ∃ wi : TI, (∀ X, Ctx S X → PI X tg iter wi) ∧ ∀ (G : Gp) (H0 F H : Hp) (σ : L2.St) (ρ : Env) (Q : List EV → Prop) (C : It → Hp → Prop),
  Wd G F H → Sta S.K S.w G H0 F H σ ρ → t ρ Q → (∀ J rs F1 H1, Ext G F H F1 H1 → ItOk S m G F1 H1 J rs → Q rs → C J H1) → wi σ H C
section
variable {S : Sx} {e a b tg iter : Expr} {p pos : Pos} {ta : TD} {tA : TAd}
/-- frozen, or one's own -/
def asF : EV → Option (List PyData)
  | .d (.list xs) => some xs
  | .d (.tuple xs) => some xs
  | .dn (.tuple xs) => some xs
  | .o xs => some xs
  | _ => none
def asM (m : Bool) (x : EV) : Option (List PyData) := if m = true then asF x else asSeq x
/-- where it stands, for good or as long as nothing is changed -/
theorem Rep.walk {K : PySem.W.Frag} {w : World} {m : Bool} {G : Gp} {F H : Hp} {v : V} {x : EV} {xs : List PyData} {F0 H0 : Hp} (W : Wd G F H) (x0 : Ext G F0 H0 F H) (h : Rep K w G H0 F H v x) (e : asM m x = some xs) :
    ∃ p vs F1, v = .ref p ∧ Ext G F0 H0 F1 H ∧ Sub F F1 ∧ DfA F1 vs xs ∧ ((∀ F2 H2, Fr m G F1 H F2 H2 → SqL K H2 p vs) ∨ (∀ F2 H2, Fr m G F1 H F2 H2 → SqT K H2 p vs)) := by
  have frozen : ∀ {v : V}, (∃ d, Df F v d ∧ (d = .list xs ∨ d = .tuple xs)) → ∃ p vs F1, v = .ref p ∧ Ext G F0 H0 F1 H ∧ Sub F F1 ∧ DfA F1 vs xs ∧ ((∀ F2 H2, Fr m G F1 H F2 H2 → SqL K H2 p vs) ∨ (∀ F2 H2, Fr m G F1 H F2 H2 → SqT K H2 p vs)) := by
    rintro v ⟨d, hd, rfl | rfl⟩
    · cases hd with
      | lst q r => exact ⟨_, _, F, rfl, x0, Sub.rfl', r, .inl fun F2 H2 z => SqL.of (z.w.2.sub _ _ (z.w.1 _ _ q))⟩
    · cases hd with
      | tup q r => exact ⟨_, _, F, rfl, x0, Sub.rfl', r, .inr fun F2 H2 z => q.sq (z.w.1.trans z.w.2.sub)⟩
  have owned : ∀ ys, x = .o ys → ys = xs → ∃ p vs F1, v = .ref p ∧ Ext G F0 H0 F1 H ∧ Sub F F1 ∧ DfA F1 vs xs ∧ ((∀ F2 H2, Fr m G F1 H F2 H2 → SqL K H2 p vs) ∨ (∀ F2 H2, Fr m G F1 H F2 H2 → SqT K H2 p vs)) := by
    rintro ys rfl rfl
    obtain ⟨p, vs, rfl, g, a, b, c, d⟩ := h
    have s1 : Sub F (upd F p (.lst vs)) := sub_upd d
    exact ⟨p, vs, upd F p (.lst vs), rfl, x0.frz c a g, s1, DfA.mono s1 b, .inl fun F2 H2 z => SqL.of (z.w.2.sub _ _ (z.w.1 _ _ upd_same))⟩
  unfold asM at e
  cases m with
  | true =>
    simp only [if_true] at e
    cases x with
    | d y => cases y with
      | list ys => cases e; exact frozen ⟨_, h, .inl rfl⟩
      | tuple ys => cases e; exact frozen ⟨_, h, .inr rfl⟩
      | _ => cases e
    | dn y => cases y with
      | tuple ys => cases e; exact frozen ⟨_, h.1, .inr rfl⟩
      | _ => cases e
    | o ys => cases e; exact owned _ rfl rfl
    | _ => cases e
  | false =>
    simp only [Bool.false_eq_true, if_false] at e
    cases x with
    | d y => cases y with
      | list ys => cases e; exact frozen ⟨_, h, .inl rfl⟩
      | tuple ys => cases e; exact frozen ⟨_, h, .inr rfl⟩
      | _ => cases e
    | dn y => cases y with
      | tuple ys => cases e; exact frozen ⟨_, h.1, .inr rfl⟩
      | _ => cases e
    | o ys => cases e; exact owned _ rfl rfl
    | l ys =>
      cases e
      obtain ⟨p, vs, rfl, g, a, b⟩ := h
      exact ⟨p, vs, F, rfl, x0, Sub.rfl', b, .inl fun F2 H2 z => by
        have z : Ext G F H F2 H2 := by simpa [Fr] using z
        exact SqL.of (z.h _ _ a g)⟩
    | _ => cases e
def iS (m : Bool) (ta : TD) : TId := fun ρ Q => ta ρ fun x => match asM m x with
  | some xs => Q (xs.map .d)
  | none => False
theorem map_at {xs : List PyData} {i : Nat} {r : EV} (h : (xs.map EV.d)[i]? = some r) : ∃ d, xs[i]? = some d ∧ r = .d d := by
  rw [List.getElem?_map] at h
  cases q : xs[i]? with
  | none => rw [q] at h; cases h
  | some d => rw [q] at h; cases h; exact ⟨d, rfl, rfl⟩
theorem di_seq {m : Bool} (ha : DE S e ta) : DI S m tg e (iS m ta) := by
  obtain ⟨u1, p1, h1⟩ := ha
  refine ⟨CR.iSeq S.K u1, fun X c => by rw [← c.K]; exact CR.pi_seq (p1 X c), fun G H0 F H σ ρ Q C W s h k => h1 G H0 F H σ ρ _ _ W s h fun x u F1 H1 x1 r1 q1 => ?_⟩
  split at q1
  · rename_i xs e1
    obtain ⟨p, vs, F2, rfl, x2, s2, rd, w2⟩ := r1.walk x1.w x1 e1
    rcases w2 with w2 | w2
    · refine ⟨p, vs, rfl, .inl ⟨w2 F2 H1 (Fr.self x2.w), k _ _ F2 H1 x2 (fun F3 H3 f3 => ⟨fun i hi => ⟨vs, w2 F3 H3 f3, by rw [rd.length]; simpa using hi⟩, fun i r hr => ?_⟩) q1⟩⟩
      obtain ⟨d, ed, rfl⟩ := map_at hr
      obtain ⟨v, ev, dv⟩ := rd.get ed
      exact ⟨⟨vs, v, w2 F3 H3 f3, ev⟩, fun x H' ⟨eH, y⟩ => by
        subst eH
        have e3 := y vs (w2 F3 H' f3)
        rw [ev] at e3
        cases e3
        exact ⟨F3, Ext.rfl' f3.w.2, Df.mono f3.w.1 dv⟩⟩
    · refine ⟨p, vs, rfl, .inr ⟨w2 F2 H1 (Fr.self x2.w), k _ _ F2 H1 x2 (fun F3 H3 f3 => ⟨fun i hi => ⟨vs, w2 F3 H3 f3, by rw [rd.length]; simpa using hi⟩, fun i r hr => ?_⟩) q1⟩⟩
      obtain ⟨d, ed, rfl⟩ := map_at hr
      obtain ⟨v, ev, dv⟩ := rd.get ed
      exact ⟨⟨vs, v, w2 F3 H3 f3, ev⟩, fun x H' ⟨eH, y⟩ => by
        subst eH
        have e3 := y vs (w2 F3 H' f3)
        rw [ev] at e3
        cases e3
        exact ⟨F3, Ext.rfl' f3.w.2, Df.mono f3.w.1 dv⟩⟩
  · exact False.elim q1
def iR1 (rs : List EV) (Q : List EV → Prop) : Prop := match rs with
  | [.d (.int n)] => n ≤ 100000 ∧ -100000 ≤ n ∧ Q ((List.range n.toNat).map fun (i : Nat) => EV.d (.int (i : Int)))
  | _ => False
def iR (ta : TD) : TId := fun ρ Q => ta ρ fun x => iR1 [x] Q
theorem di_rng {m : Bool} (hg : S.sc.names.lookup ("range" : Str) = some .globalImplicit) (hm : S.mg "range" = none) (ha : DE S a ta) (hs : ∀ env : PySem.Env, starEach [a] env = [(false, eval a env)] := by intro _; rfl) : DI S m tg (.Call (.Name "range" p) [a] [] pos) (iR ta) := by
  obtain ⟨u1, p1, h1⟩ := da_cons ha da_nil (fun env => hs env)
  refine ⟨iRng1 u1, fun X c => pi_range1 (ctx_gl c hg) (by rw [c.mg]; exact hm) (p1 X c) (hs X.env), fun G H0 F H σ ρ Q C W s h k => ?_⟩
  refine h1 G H0 F H σ ρ (fun rs => iR1 rs Q) _ W s h fun rs vs F1 H1 x1 r1 l1 q1 => ?_
  simp only [iR1] at q1
  split at q1
  · rename_i n
    cases r1 with
    | cons r t ap =>
      cases t
      cases r
      refine ⟨n, rfl, by omega, by omega, k _ _ F1 H1 x1 (fun F2 H2 f2 => ⟨fun i hi => by show n.toNat ≤ i; rw [List.length_map, List.length_range] at hi; exact hi, fun i r hr => ?_⟩) q1.2.2⟩
      rw [List.getElem?_map] at hr
      cases z : (List.range n.toNat)[i]? with
      | none => rw [z] at hr; cases hr
      | some j =>
        rw [z] at hr
        cases hr
        have hj := List.getElem?_eq_some_iff.mp z
        obtain ⟨hi, ej⟩ := hj
        rw [List.getElem_range] at ej
        subst ej
        refine ⟨by show i < n.toNat; rw [List.length_range] at hi; exact hi, fun x H' ⟨eH, ex⟩ => ?_⟩
        subst eH ex
        refine ⟨F2, Ext.rfl' f2.w.2, ?_⟩
        rw [Int.zero_add]
        exact Df.int _
  · cases q1
end
end DL
set_option Elab.async false
set_option linter.all false
set_option maxRecDepth 100000
set_option maxHeartbeats 1000000
namespace DL
open PySem PySem.Spec PyProof.Rows L2
section
variable {S : Sx} {e a b tg iter : Expr} {p pos tpos : Pos} {ta tb : TD} {tA : TAd}
/-! ### enumerate -/
def enl (xs : List PyData) : List EV := xs.mapIdx fun i x => EV.d (.tuple [.int (i : Nat), x])
def iE1 (m : Bool) (rs : List EV) (Q : List EV → Prop) : Prop := match rs with
  | [x] => (match asM m x with
    | some xs => Q (enl xs)
    | none => False)
  | _ => False
def iE (m : Bool) (ta : TD) : TId := fun ρ Q => ta ρ fun x => iE1 m [x] Q
theorem new_pair {S : Sx} {G : Gp} {F H : Hp} {T : Addr} {u v : V} {x y : PyData} (W : Wd G F H) (hT : H T = none) (hu : Df F u x) (hv : Df F v y) : ∃ F', Ext G F H F' (upd H T (.tup [u, v])) ∧ Rep S.K S.w G H F' (upd H T (.tup [u, v])) (.ref T) (.d (.tuple [x, y])) :=
  ⟨_, Ext.newF W hT _, Df.tup Tp.here (.cons (Df.mono (sub_upd (W.nf hT)) hu) (.cons (Df.mono (sub_upd (W.nf hT)) hv) .nil))⟩
theorem enl_at {xs : List PyData} {i : Nat} {r : EV} (h : (enl xs)[i]? = some r) : ∃ d, xs[i]? = some d ∧ r = .d (.tuple [.int (i : Nat), d]) := by
  unfold enl at h
  rw [List.getElem?_mapIdx] at h
  cases q : xs[i]? with
  | none => rw [q] at h; cases h
  | some d => rw [q] at h; cases h; exact ⟨d, rfl, rfl⟩
theorem di_enum {m : Bool} {elts : List Expr} {kk : Nat} (hg : S.sc.names.lookup ("enumerate" : Str) = some .globalImplicit) (hm : S.mg "enumerate" = none) (ha : DE S a ta) (hs : ∀ env : PySem.Env, starEach [a] env = [(false, eval a env)] := by intro _; rfl) :
    DI S m (.Tuple elts kk tpos) (.Call (.Name "enumerate" p) [a] [] pos) (iE m ta) := by
  obtain ⟨u1, p1, h1⟩ := da_cons ha da_nil (fun env => hs env)
  refine ⟨CR.iEnumA S.K u1, fun X c => by rw [← c.K]; exact CR.pi_enumA (ctx_gl c hg) (by rw [c.mg]; exact hm) (p1 X c) (hs X.env), fun G H0 F H σ ρ Q C W s h k => ?_⟩
  refine h1 G H0 F H σ ρ (fun rs => iE1 m rs Q) _ W s h fun rs vs F1 H1 x1 r1 l1 q1 => ?_
  simp only [iE1] at q1
  split at q1
  · rename_i x
    split at q1
    · rename_i xs e1
      cases r1 with
      | cons r t ap =>
        cases t
        obtain ⟨p, ws, F2, rfl, x2, s2, rd, w2⟩ := r.walk x1.w x1 e1
        have lenE : (enl xs).length = ws.length := by rw [rd.length]; simp [enl]
        rcases w2 with w2 | w2
        · refine ⟨p, ws, rfl, .inl ⟨w2 F2 H1 (Fr.self x2.w), k _ _ F2 H1 x2 (fun F3 H3 f3 => ⟨fun i hi => ⟨ws, w2 F3 H3 f3, by rw [← lenE]; exact hi⟩, fun i r hr => ?_⟩) q1⟩⟩
          obtain ⟨d, ed, rfl⟩ := enl_at hr
          obtain ⟨v, ev, dv⟩ := rd.get ed
          refine ⟨⟨ws, v, w2 F3 H3 f3, ev⟩, fun x H' ⟨T, y, ex, hT, eH, hy⟩ => ?_⟩
          have e3 := hy ws (w2 F3 H3 f3)
          rw [ev] at e3
          cases e3
          subst ex eH
          exact new_pair f3.w.2 hT (.int _) (Df.mono f3.w.1 dv)
        · refine ⟨p, ws, rfl, .inr ⟨w2 F2 H1 (Fr.self x2.w), k _ _ F2 H1 x2 (fun F3 H3 f3 => ⟨fun i hi => ⟨ws, w2 F3 H3 f3, by rw [← lenE]; exact hi⟩, fun i r hr => ?_⟩) q1⟩⟩
          obtain ⟨d, ed, rfl⟩ := enl_at hr
          obtain ⟨v, ev, dv⟩ := rd.get ed
          refine ⟨⟨ws, v, w2 F3 H3 f3, ev⟩, fun x H' ⟨T, y, ex, hT, eH, hy⟩ => ?_⟩
          have e3 := hy ws (w2 F3 H3 f3)
          rw [ev] at e3
          cases e3
          subst ex eH
          exact new_pair f3.w.2 hT (.int _) (Df.mono f3.w.1 dv)
    · exact False.elim q1
  · exact False.elim q1
/-! ### zip of two tuples -/
def zil (xs ys : List PyData) : List EV := List.zipWith (fun x y => EV.d (.tuple [x, y])) xs ys
def iZ2 (rs : List EV) (Q : List EV → Prop) : Prop := match rs with
  | [x, y] => (match asT x, asT y with
    | some xs, some ys => Q (zil xs ys)
    | _, _ => False)
  | _ => False
def iZ (ta tb : TD) : TId := fun ρ Q => ta ρ fun x => tb ρ fun y => iZ2 [x, y] Q
theorem zil_at {xs ys : List PyData} {i : Nat} {r : EV} (h : (zil xs ys)[i]? = some r) : ∃ d e, xs[i]? = some d ∧ ys[i]? = some e ∧ r = .d (.tuple [d, e]) := by
  unfold zil at h
  rw [List.getElem?_zipWith] at h
  cases q : xs[i]? with
  | none => rw [q] at h; cases h
  | some d =>
    cases q2 : ys[i]? with
    | none => rw [q, q2] at h; cases h
    | some e => rw [q, q2] at h; cases h; exact ⟨d, e, rfl, rfl, rfl⟩
theorem Df.tupEq {F : Hp} {v : V} {d : PyData} (h : Df F v d) : Df F v d := h
theorem di_zip {m : Bool} {elts : List Expr} {kk : Nat} (hg : S.sc.names.lookup ("zip" : Str) = some .globalImplicit) (hm : S.mg "zip" = none) (ha : DE S a ta) (hb : DE S b tb)
    (hs : ∀ env : PySem.Env, starEach [a, b] env = (false, eval a env) :: starEach [b] env := by intro _; rfl) (hs2 : ∀ env : PySem.Env, starEach [b] env = (false, eval b env) :: starEach [] env := by intro _; rfl) (hpl : ∀ env : PySem.Env, (backTo pos (starEach [b] env)).any (·.1) = false := by intro _; rfl) :
    DI S m (.Tuple elts kk tpos) (.Call (.Name "zip" p) [a, b] [] pos) (iZ ta tb) := by
  obtain ⟨u1, p1, h1⟩ := da_cons ha (da_cons hb da_nil hs2) hs
  refine ⟨RZ.iZipA S.K u1, fun X c => by rw [← c.K]; exact RZ.pi_zipA (ctx_gl c hg) (by rw [c.mg]; exact hm) (p1 X c) (hs X.env) (hpl X.env), fun G H0 F H σ ρ Q C W s h k => ?_⟩
  refine h1 G H0 F H σ ρ (fun rs => iZ2 rs Q) _ W s h fun rs vs F1 H1 x1 r1 l1 q1 => ?_
  simp only [iZ2] at q1
  split at q1
  · rename_i x y
    split at q1
    · rename_i xs ys e1 e2
      cases r1 with
      | cons r t ap =>
        cases t with
        | cons r' t' ap' =>
          cases t'
          obtain ⟨p, ws, rfl, hp, rd⟩ := r.tup x1.w e1
          obtain ⟨p', ws', rfl, hp', rd'⟩ := r'.tup x1.w e2
          refine ⟨p, p', ws, ws', rfl, .inr ⟨hp.sq x1.w.sub, hp'.sq x1.w.sub, k _ _ F1 H1 x1 (fun F3 H3 f3 => ⟨fun i hi => ?_, fun i r hr => ?_⟩) q1⟩⟩
          · have : i ≥ min xs.length ys.length := by simpa [zil] using hi
            have l1 := rd.length
            have l2 := rd'.length
            exact ⟨ws, ws', hp.sq (f3.w.1.trans f3.w.2.sub), hp'.sq (f3.w.1.trans f3.w.2.sub), by omega⟩
          · obtain ⟨d, e, ed, ee, rfl⟩ := zil_at hr
            obtain ⟨v, ev, dv⟩ := rd.get ed
            obtain ⟨u, eu, du⟩ := rd'.get ee
            have q1 : SqT S.K H3 p ws := hp.sq (f3.w.1.trans f3.w.2.sub)
            have q2 : SqT S.K H3 p' ws' := hp'.sq (f3.w.1.trans f3.w.2.sub)
            refine ⟨⟨ws, ws', v, u, q1, q2, ev, eu⟩, fun x H' ⟨T, y, z, ex, hT, eH, hy, hz⟩ => ?_⟩
            have e3 := hy ws q1
            have e4 := hz ws' q2
            rw [ev] at e3
            rw [eu] at e4
            cases e3
            cases e4
            subst ex eH
            exact new_pair f3.w.2 hT (Df.mono f3.w.1 dv) (Df.mono f3.w.1 du)
    · exact False.elim q1
  · exact False.elim q1
/-! ### a text, sign by sign -/
def sgl (x : Str) : List EV := x.cps.toList.map fun c => EV.d (.str ⟨#[c]⟩)
def iT (ta : TD) : TId := fun ρ Q => ta ρ fun x => match x with
  | .d (.str z) => Q (sgl z)
  | _ => False
theorem di_str {m : Bool} (ha : DE S e ta) : DI S m tg e (iT ta) := by
  obtain ⟨u1, p1, h1⟩ := ha
  refine ⟨iStr u1, fun X c => pi_str (p1 X c), fun G H0 F H σ ρ Q C W s h k => h1 G H0 F H σ ρ _ _ W s h fun x u F1 H1 x1 r1 q1 => ?_⟩
  split at q1
  · rename_i z
    cases r1
    refine ⟨z, rfl, k _ _ F1 H1 x1 (fun F3 H3 f3 => ⟨fun i hi => ?_, fun i r hr => ?_⟩) q1⟩
    · show z.cps.size ≤ i
      simpa [sgl] using hi
    · unfold sgl at hr
      rw [List.getElem?_map] at hr
      cases q : z.cps.toList[i]? with
      | none => rw [q] at hr; cases hr
      | some c =>
        rw [q] at hr
        cases hr
        have q' : z.cps[i]? = some c := by simpa using q
        refine ⟨?_, fun x H' ⟨eH, c', ec, ex⟩ => ?_⟩
        · show i < z.cps.size
          rw [Array.getElem?_eq_some_iff] at q'
          exact q'.1
        · rw [q'] at ec
          cases ec
          subst ex eH
          exact ⟨F3, Ext.rfl' f3.w.2, Df.str _⟩
  · exact False.elim q1
/-! ### a list display that is walked: its values keep their kind -/
def iL (tA : TAd) : TId := fun ρ Q => tA ρ fun rs => rs.all dn? = true ∧ Q rs
theorem di_lst {es : List Expr} {m : Bool} (hA : DA S es tA) (hl : es.length ≤ 1000 := by simp) : DI S m tg (.List es pos) (iL tA) := by
  obtain ⟨t, p, q⟩ := hA
  refine ⟨CR.iSeq S.K (tLst t), fun X c => by rw [← c.K]; exact CR.pi_seq (pe_lst (p X c)), fun G H0 F H σ ρ Q C W s h k => q G H0 F H σ ρ _ _ W s h fun rs vs F1 H1 x1 r1 l1 q1 => ?_⟩
  refine ⟨few (by rw [r1.length, l1]; exact hl), fun p hp => ?_⟩
  have x2 := x1.trans (Ext.newF x1.w hp (.lst vs))
  have st : ∀ F2 H2, Fr m G (upd F1 p (.lst vs)) (upd H1 p (.lst vs)) F2 H2 → SqL S.K H2 p vs := fun F2 H2 f => SqL.of (f.w.2.sub _ _ (f.w.1 _ _ upd_same))
  refine ⟨p, vs, rfl, .inl ⟨st _ _ (Fr.self x2.w), k _ rs _ _ x2 (fun F3 H3 f3 => ⟨fun i hi => ⟨vs, st _ _ f3, by rw [r1.length]; exact hi⟩, fun i r hr => ?_⟩) q1.2⟩⟩
  have hv : i < vs.length := by rw [r1.length]; exact (List.getElem?_eq_some_iff.mp hr).1
  have ev := List.getElem?_eq_getElem hv
  refine ⟨⟨vs, _, st _ _ f3, ev⟩, fun x H' ⟨eH, y⟩ => ?_⟩
  subst eH
  have e3 := y vs (st _ _ f3)
  rw [ev] at e3
  cases e3
  have hm : dn? r = true := (List.all_eq_true.mp q1.1) r (List.mem_of_getElem? hr)
  exact ⟨F3, Ext.rfl' f3.w.2, (r1.get ev hr).frame ((sub_upd (x1.w.nf hp)).trans f3.w.1) hm⟩
end
end DL
set_option Elab.async false
set_option linter.all false
set_option maxRecDepth 100000
set_option maxHeartbeats 1000000
namespace DL
open PySem PySem.Spec PyProof.Rows L2
/-! ### comprehensions -/
theorem wipe_twice (σ : L2.St) (vs : List Nat) : wipe (wipe σ vs) vs = wipe σ vs := by
  apply List.ext_getElem?
  intro j
  by_cases hj : j ∈ vs
  · by_cases hb : j < σ.length
    · rw [wipe_in hj hb, wipe_in hj (by rw [wipe_length]; exact hb)]
    · rw [List.getElem?_eq_none (by rw [wipe_length, wipe_length]; omega), List.getElem?_eq_none (by rw [wipe_length]; omega)]
  · rw [wipe_out hj]
/-- the turns of a comprehension: what is made so far, then what is made in all -/
def lcGo (tg : TGd) (tt : TB) (te : TD) (ρ : Env) : List EV → List PyData → (List PyData → Prop) → Prop
  | [], acc, Q => Q acc
  | r :: rs, acc, Q => tg r ρ fun ρ2 => tt ρ2 fun b => match b with
    | true => te ρ2 fun y => match frz y with
      | some d => acc.length < 1000 ∧ lcGo tg tt te ρ rs (acc ++ [d]) Q
      | none => False
    | false => lcGo tg tt te ρ rs acc Q
def eLc (ti : TId) (tg : TGd) (tt : TB) (te : TD) (vs : List Nat) : TD := fun ρ Q => ti ρ fun rs => lcGo tg tt te (wp ρ vs) rs [] fun ds => Q (.o ds)
def bYes : TB := fun _ Q => Q true
/-- the tests of a comprehension -/
def DTs (S : Sx) (ifs : List Expr) (t : TB) : Prop := ∃ te : TT, (∀ X, Ctx S X → PTs X ifs te) ∧ ∀ (G : Gp) (H0 F H : Hp) (σ : L2.St) (ρ : Env) (Q : Bool → Prop) (C : Bool → Hp → Prop),
  Wd G F H → Sta S.K S.w G H0 F H σ ρ → t ρ Q → KnB G F H Q C → te σ H C
section
variable {S : Sx} {e a b tg iter elt : Expr} {p pos tpos : Pos} {ta tb te : TD} {tA : TAd} {tt : TB} {g : TGd} {ti : TId} {ns : List Nat} {ifs : List Expr} {scope : Scope} {own : List (Str × Nat)}
theorem dts_nil : DTs S [] bYes := ⟨tYes, fun X c => pts_nil, fun G H0 F H σ ρ Q C W s h k => k true F H (Ext.rfl' W) h⟩
theorem dts_one (h : DT S e tt) : DTs S [e] tt := let ⟨x, p, q⟩ := h; ⟨x, fun X c => pts_one (p X c), q⟩
/-- a new object is written anew -/
theorem Ext.re {G : Gp} {F1 H1 F2 H2 : Hp} (x : Ext G F1 H1 F2 H2) {D : Addr} {o : HO} (h : H1 D = none) (hf : F2 D = none) (hg : ¬ inG G D) : Ext G F1 H1 F2 (upd H2 D o) :=
  ⟨x.f, x.nf, fun a u e g => by rw [upd_ne (fun z => by subst z; rw [h] at e; cases e)]; exact x.h a u e g, fun a e => by
    by_cases q : a = D
    · subst q; exact absurd h e
    · rw [upd_ne q]; exact x.n a e, ⟨fun a u e => by
      by_cases q : a = D
      · subst q; rw [hf] at e; cases e
      · rw [upd_ne q]; exact x.w.sub a u e, x.w.heap.upd hg o⟩⟩
/-- one value is frozen -/
theorem Rep.freeze {K : PySem.W.Frag} {w : World} {G : Gp} {F H F' H' : Hp} {v : V} {y : EV} {d : PyData} (x : Ext G F H F' H') (h : Rep K w G H F' H' v y) (e : frz y = some d) : ∃ F2, Ext G F H F2 H' ∧ Sub F' F2 ∧ Df F2 v d ∧ ∀ a, F' a = none → H a ≠ none → F2 a = none := by
  cases y with
  | d z => cases e; exact ⟨F', x, Sub.rfl', h, fun a e _ => e⟩
  | dn z => cases e; exact ⟨F', x, Sub.rfl', h.1, fun a e _ => e⟩
  | o ys =>
    cases e
    obtain ⟨p, ws, rfl, g, a, b, c, d⟩ := h
    have s1 : Sub F' (upd F' p (.lst ws)) := sub_upd d
    exact ⟨_, x.frz c a g, s1, Df.lst upd_same (DfA.mono s1 b), fun q e n => by rw [upd_ne (fun z => by subst z; exact n c)]; exact e⟩
  | _ => cases e
theorem Ext.fnone {G : Gp} {F H F' H' : Hp} (x : Ext G F H F' H') {a : Addr} (h : H a ≠ none) (e : F a = none) : F' a = none := (x.nf a h).trans e
/-- a list comprehension's reading and its meaning -/
def DLc (S : Sx) (elt tg iter : Expr) (ifs : List Expr) (scope : Scope) (own : List (Str × Nat)) (t : TD) : Prop := ∃ (wi : TI) (wg : TG) (wt : TT) (we : TE), (∀ X, Ctx S X → PI X tg iter wi) ∧
  (∀ X, Ctx S X → ∀ (s : Shared) (H : Hp) (A : Addr) (cl : List (Str × Addr)) (fp : List Addr), PG (X.blk s H scope (compEnvC scope cl A X.env) fp) tg wg ∧ PTs (X.blk s H scope (compEnvC scope cl A X.env) fp) ifs wt ∧ PE (X.blk s H scope (compEnvC scope cl A X.env) fp) elt we) ∧
  ∀ (G : Gp) (H0 F H : Hp) (σ : L2.St) (ρ : Env) (Q : EV → Prop) (C : VK), Wd G F H → Sta S.K S.w G H0 F H σ ρ → t ρ Q → Kn S G F H Q C → tLc wi wg wt we (own.map (·.2)) σ H C
theorem dlc (hi : DI S false tg iter ti) (hg : DG (S.blk scope) tg ns g) (ht : DTs (S.blk scope) ifs tt) (he : DE (S.blk scope) elt te) (hns : ∀ j ∈ ns, j ∈ own.map (·.2)) : DLc S elt tg iter ifs scope own (eLc ti g tt te (own.map (·.2))) := by
  obtain ⟨wi, pi, qi⟩ := hi
  obtain ⟨wg, pg, qg⟩ := hg
  obtain ⟨wt, pt, qt⟩ := ht
  obtain ⟨we, pe, qe⟩ := he
  refine ⟨wi, wg, wt, we, pi, fun X c s H A cl fp => ⟨pg _ (ctx_blk c s H scope cl A fp), pt _ (ctx_blk c s H scope cl A fp), pe _ (ctx_blk c s H scope cl A fp)⟩, fun G H0 F H σ ρ Q C W s h k => ?_⟩
  refine qi G H0 F H σ ρ _ _ W s h fun J rs F1 H1 x1 j1 q1 => ?_
  intro D hD
  have hg1 : ¬ inG G D := x1.w.fresh hD
  have dn := fun i r F2 H2 h => (j1 F2 H2 h).2 i r
  refine ⟨fun i m H2 => m = rs.length - i ∧ i ≤ rs.length ∧ ∃ F2 vs acc, Ext G F1 H1 F2 H2 ∧ H2 D = some (.lst vs) ∧ F2 D = none ∧ DfA F2 vs acc ∧ lcGo g tt te (wp ρ (own.map (·.2))) (rs.drop i) acc fun ds => Q (.o ds), ⟨_, rfl, Nat.zero_le _, F1, [], [], Ext.new x1.w hD _, upd_same, x1.w.nf hD, .nil, q1⟩, ?_⟩
  rintro i m H2 ⟨rfl, hi, F2, vs, acc, x2, h2, f2, r2, q2⟩
  have fr2 : Fr false G F1 H1 F2 H2 := by simpa [Fr] using x2
  by_cases hlt : i < rs.length
  · have ei : rs[i]? = some rs[i] := List.getElem?_eq_getElem hlt
    obtain ⟨go, yl⟩ := dn i rs[i] F2 H2 fr2 ei
    rw [List.drop_eq_getElem_cons hlt] at q2
    refine .inr ⟨go, fun H3 => i + 1 ≤ rs.length ∧ ∃ F2 vs acc, Ext G F1 H1 F2 H3 ∧ H3 D = some (.lst vs) ∧ F2 D = none ∧ DfA F2 vs acc ∧ lcGo g tt te (wp ρ (own.map (·.2))) (rs.drop (i + 1)) acc fun ds => Q (.o ds), fun H3 n => ⟨_, by omega, rfl, n⟩, fun x H3 y => ?_⟩
    obtain ⟨F3, x3, r3⟩ := yl x H3 y
    have s3 := (((s.ext x1).ext x2).ext x3).wipe (own.map (·.2))
    have xa := x2.trans x3
    have h3 : H3 D = some (.lst vs) := x3.h _ _ h2 hg1
    have f3 : F3 D = none := x3.fnone (some_ne h2) f2
    -- the target
    refine qg G H0 H2 F3 H3 _ _ x (rs[i]) _ _ x3.w s3 r3 q2 fun σ4 ρ4 u4 n4 l4 q4 => ⟨?_, ?_⟩
    · have e1 := wipe_same (vs := own.map (·.2)) l4 n4 hns
      rw [e1]
      exact wipe_twice σ _
    · have s4 := u4 F3 H3 Sub.rfl' s3
      refine qt G H0 F3 H3 σ4 ρ4 _ _ x3.w s4 q4 fun b F5 H5 x5 q5 => ?_
      have h5 : H5 D = some (.lst vs) := x5.h _ _ h3 hg1
      have f5 : F5 D = none := x5.fnone (some_ne h3) f3
      cases b with
      | false =>
        refine (if_neg Bool.false_ne_true).mpr ⟨hlt, F5, vs, acc, xa.trans x5, h5, f5, DfA.mono (x3.f.trans x5.f) r2, q5⟩
      | true =>
        refine (if_pos rfl).mpr (qe G H0 F5 H5 σ4 ρ4 _ _ x5.w (s4.ext x5) q5 fun y v F6 H6 x6 r6 q6 => ?_)
        split at q6
        · rename_i d ed
          have h6 : H6 D = some (.lst vs) := x6.h _ _ h5 hg1
          have f6 : F6 D = none := x6.fnone (some_ne h5) f5
          obtain ⟨F7, x7, s7, r7, n7⟩ := r6.freeze x6 ed
          have f7 : F7 D = none := n7 D f6 (some_ne h5)
          have hl : vs.length < sizeLine := by
            rw [r2.length]; exact Nat.lt_of_lt_of_le q6.1 (few (Nat.le_refl _))
          refine ⟨vs, h6, hl, hlt, F7, vs ++ [v], acc ++ [d], ((xa.trans x5).trans x7).re hD f7 hg1, upd_same, f7, ?_, q6.2⟩
          exact (DfA.mono ((x3.f.trans x5.f).trans x7.f) r2).append (.cons r7 .nil)
        · exact False.elim q6
  · have e : i = rs.length := by omega
    subst e
    rw [List.drop_length] at q2
    exact .inl ⟨(j1 F2 H2 fr2).1 _ (Nat.le_refl _), k (.o acc) _ F2 H2 (x1.trans x2) ⟨D, vs, rfl, hg1, h2, r2, x1.fresh hD, f2⟩ q2⟩
theorem de_lc' {t : TD} (h : DLc S elt tg iter ifs scope own t) (ok : blkC S.N S.sc scope own = true) (hs : ∀ (env : PySem.Env) x, foldedSetIterable iter env x = pure x := by intro _ _; rfl) : DE S (.ListComp elt [⟨tg, iter, ifs, 0⟩] scope pos) t := by
  obtain ⟨wi, wg, wt, we, pi, pb, q⟩ := h
  exact ⟨tLc wi wg wt we (own.map (·.2)), fun X c => pe_lc c.calm (by rw [c.N]; exact c.nd) (pi X c) (blkOk_by (by rw [c.N, c.sc]; exact ok)) (fun s H A cl fp => (pb X c s H A cl fp).1) (fun s H A cl fp => (pb X c s H A cl fp).2.1) (fun s H A cl fp => (pb X c s H A cl fp).2.2) (hs X.env), q⟩
theorem de_lc (hi : DI S false tg iter ti) (hg : DG (S.blk scope) tg ns g) (ht : DTs (S.blk scope) ifs tt) (he : DE (S.blk scope) elt te) (ok : blkC S.N S.sc scope own = true) (hns : ∀ j ∈ ns, j ∈ own.map (·.2))
    (hs : ∀ (env : PySem.Env) x, foldedSetIterable iter env x = pure x := by intro _ _; rfl) : DE S (.ListComp elt [⟨tg, iter, ifs, 0⟩] scope pos) (eLc ti g tt te (own.map (·.2))) := de_lc' (dlc hi hg ht he hns) ok hs
end
end DL
set_option Elab.async false
set_option linter.all false
set_option maxRecDepth 100000
set_option maxHeartbeats 1000000
namespace DL
open PySem PySem.Spec PyProof.Rows L2
/-! ### sets of ints -/
def addN (ns : List Int) (c : Int) : List Int := if c ∈ ns then ns else ns ++ [c]
theorem addN_nodup {ns : List Int} {c : Int} (h : ns.Nodup) : (addN ns c).Nodup := by
  unfold addN
  split
  · exact h
  · rename_i hc
    rw [List.nodup_append]
    refine ⟨h, by simp, fun a ha b hb => ?_⟩
    rw [List.mem_singleton.mp hb]
    exact fun z => hc (z ▸ ha)
theorem addN_mem {ns : List Int} {c k : Int} : k ∈ addN ns c ↔ k ∈ ns ∨ k = c := by
  unfold addN
  split
  · rename_i h
    exact ⟨.inl, fun z => z.elim id fun z => z ▸ h⟩
  · simp
theorem addN_setO {w : World} {D : Addr} {ns : List Int} {c : Int} : SetO w D (fun j => decide (j ∈ ns) || decide (j = c)) (if decide (c ∈ ns) = true then ns.length else ns.length + 1) = SetO w D (fun k => decide (k ∈ addN ns c)) (addN ns c).length := by
  have e1 : (fun j => decide (j ∈ ns) || decide (j = c)) = fun k => decide (k ∈ addN ns c) := by
    funext k
    rw [← Bool.decide_or]
    exact decide_eq_decide.mpr addN_mem.symm
  have e2 : (if decide (c ∈ ns) = true then ns.length else ns.length + 1) = (addN ns c).length := by
    unfold addN
    by_cases h : c ∈ ns
    · simp [h]
    · simp [h]
  rw [e1, e2]
/-- the turns of a set comprehension -/
def scGo (tg : TGd) (tt : TB) (te : TD) (ρ : Env) : List EV → List Int → (List Int → Prop) → Prop
  | [], acc, Q => Q acc
  | r :: rs, acc, Q => tg r ρ fun ρ2 => tt ρ2 fun b => match b with
    | true => te ρ2 fun y => match y with
      | .d (.int c) => acc.length < 1000 ∧ scGo tg tt te ρ rs (addN acc c) Q
      | _ => False
    | false => scGo tg tt te ρ rs acc Q
def eSc (ti : TId) (tg : TGd) (tt : TB) (te : TD) (vs : List Nat) : TD := fun ρ Q => ti ρ fun rs => scGo tg tt te (wp ρ vs) rs [] fun ns => Q (.s ns)
section
variable {S : Sx} {e a b tg iter elt : Expr} {p pos tpos : Pos} {ta tb te : TD} {tA : TAd} {tt : TB} {g : TGd} {ti : TId} {ns : List Nat} {ifs : List Expr} {scope : Scope} {own : List (Str × Nat)}
/-- a set comprehension's reading and its meaning -/
def DSc (S : Sx) (elt tg iter : Expr) (ifs : List Expr) (scope : Scope) (own : List (Str × Nat)) (t : TD) : Prop := ∃ (wi : TI) (wg : TG) (wt : TT) (we : TE), (∀ X, Ctx S X → PI X tg iter wi) ∧
  (∀ X, Ctx S X → ∀ (s : Shared) (H : Hp) (A : Addr) (cl : List (Str × Addr)) (fp : List Addr), PG (X.blk s H scope (compEnvC scope cl A X.env) fp) tg wg ∧ PTs (X.blk s H scope (compEnvC scope cl A X.env) fp) ifs wt ∧ PE (X.blk s H scope (compEnvC scope cl A X.env) fp) elt we) ∧
  ∀ (G : Gp) (H0 F H : Hp) (σ : L2.St) (ρ : Env) (Q : EV → Prop) (C : VK), Wd G F H → Sta S.K S.w G H0 F H σ ρ → t ρ Q → Kn S G F H Q C → CR.tSci S.w wi wg wt we (own.map (·.2)) σ H C
theorem dsc (hi : DI S false tg iter ti) (hg : DG (S.blk scope) tg ns g) (ht : DTs (S.blk scope) ifs tt) (he : DE (S.blk scope) elt te) (hns : ∀ j ∈ ns, j ∈ own.map (·.2)) : DSc S elt tg iter ifs scope own (eSc ti g tt te (own.map (·.2))) := by
  obtain ⟨wi, pi, qi⟩ := hi
  obtain ⟨wg, pg, qg⟩ := hg
  obtain ⟨wt, pt, qt⟩ := ht
  obtain ⟨we, pe, qe⟩ := he
  refine ⟨wi, wg, wt, we, pi, fun X c s H A cl fp => ⟨pg _ (ctx_blk c s H scope cl A fp), pt _ (ctx_blk c s H scope cl A fp), pe _ (ctx_blk c s H scope cl A fp)⟩, fun G H0 F H σ ρ Q C W s h k => ?_⟩
  refine qi G H0 F H σ ρ _ _ W s h fun J rs F1 H1 x1 j1 q1 => ?_
  intro D hD
  have hg1 : ¬ inG G D := x1.w.fresh hD
  refine ⟨fun i m H2 => m = rs.length - i ∧ i ≤ rs.length ∧ ∃ F2 acc, Ext G F1 H1 F2 H2 ∧ H2 D = some (SetO S.w D (fun k => decide (k ∈ acc)) acc.length) ∧ F2 D = none ∧ acc.Nodup ∧ scGo g tt te (wp ρ (own.map (·.2))) (rs.drop i) acc fun ds => Q (.s ds), ⟨_, rfl, Nat.zero_le _, F1, [], Ext.new x1.w hD _, ?_, x1.w.nf hD, List.nodup_nil, q1⟩, ?_⟩
  · rw [upd_same]
    congr 2
  rintro i m H2 ⟨rfl, hi, F2, acc, x2, h2, f2, nd2, q2⟩
  have fr2 : Fr false G F1 H1 F2 H2 := by simpa [Fr] using x2
  by_cases hlt : i < rs.length
  · have ei : rs[i]? = some rs[i] := List.getElem?_eq_getElem hlt
    obtain ⟨go, yl⟩ := (j1 F2 H2 fr2).2 i rs[i] ei
    rw [List.drop_eq_getElem_cons hlt] at q2
    refine .inr ⟨go, fun H3 => i + 1 ≤ rs.length ∧ ∃ F2 acc, Ext G F1 H1 F2 H3 ∧ H3 D = some (SetO S.w D (fun k => decide (k ∈ acc)) acc.length) ∧ F2 D = none ∧ acc.Nodup ∧ scGo g tt te (wp ρ (own.map (·.2))) (rs.drop (i + 1)) acc fun ds => Q (.s ds), fun H3 n => ⟨_, by omega, rfl, n⟩, fun x H3 y => ?_⟩
    obtain ⟨F3, x3, r3⟩ := yl x H3 y
    have s3 := (((s.ext x1).ext x2).ext x3).wipe (own.map (·.2))
    have xa := x2.trans x3
    have h3 : H3 D = some _ := x3.h _ _ h2 hg1
    have f3 : F3 D = none := x3.fnone (some_ne h2) f2
    refine qg G H0 H2 F3 H3 _ _ x (rs[i]) _ _ x3.w s3 r3 q2 fun σ4 ρ4 u4 n4 l4 q4 => ⟨?_, ?_⟩
    · have e1 := wipe_same (vs := own.map (·.2)) l4 n4 hns
      rw [e1]
      exact wipe_twice σ _
    · have s4 := u4 F3 H3 Sub.rfl' s3
      refine qt G H0 F3 H3 σ4 ρ4 _ _ x3.w s4 q4 fun b F5 H5 x5 q5 => ?_
      have h5 : H5 D = some _ := x5.h _ _ h3 hg1
      have f5 : F5 D = none := x5.fnone (some_ne h3) f3
      cases b with
      | false =>
        refine (if_neg Bool.false_ne_true).mpr ⟨hlt, F5, acc, xa.trans x5, h5, f5, nd2, q5⟩
      | true =>
        refine (if_pos rfl).mpr (qe G H0 F5 H5 σ4 ρ4 _ _ x5.w (s4.ext x5) q5 fun y v F6 H6 x6 r6 q6 => ?_)
        split at q6
        · rename_i c
          cases r6
          have h6 : H6 D = some _ := x6.h _ _ h5 hg1
          have f6 : F6 D = none := x6.fnone (some_ne h5) f5
          refine ⟨c, _, _, rfl, h6, by have := q6.1; show acc.length + 1 < 4096; omega, hlt, F6, addN acc c, ((xa.trans x5).trans x6).re hD f6 hg1, by rw [upd_same]; exact congrArg some addN_setO, f6, addN_nodup nd2, q6.2⟩
        · exact False.elim q6
  · have e : i = rs.length := by omega
    subst e
    rw [List.drop_length] at q2
    exact .inl ⟨(j1 F2 H2 fr2).1 _ (Nat.le_refl _), k (.s acc) _ F2 H2 (x1.trans x2) ⟨D, rfl, hg1, h2, nd2, x1.fresh hD, f2⟩ q2⟩
theorem de_sc {t : TD} (h : DSc S elt tg iter ifs scope own t) (ok : blkC S.N S.sc scope own = true) (hs : ∀ (env : PySem.Env) x, foldedSetIterable iter env x = pure x := by intro _ _; rfl) : DE S (.SetComp elt [⟨tg, iter, ifs, 0⟩] scope pos) t := by
  obtain ⟨wi, wg, wt, we, pi, pb, q⟩ := h
  exact ⟨CR.tSci S.w wi wg wt we (own.map (·.2)), fun X c => by rw [← c.w]; exact CR.pe_sci c.calm (by rw [c.N]; exact c.nd) (pi X c) (blkOk_by (by rw [c.N, c.sc]; exact ok)) (fun s H A cl fp => (pb X c s H A cl fp).1) (fun s H A cl fp => (pb X c s H A cl fp).2.1) (fun s H A cl fp => (pb X c s H A cl fp).2.2) (hs X.env), q⟩
/-- {e} -/
def eSet1 (te : TD) : TD := fun ρ Q => te ρ fun y => match y with
  | .d (.int c) => Q (.s [c])
  | _ => False
theorem de_set1 (he : DE S e te) (hs : ∀ env : PySem.Env, starEach [e] env = [(false, eval e env)] := by intro _; rfl) : DE S (.Set [e] 0 pos) (eSet1 te) := by
  obtain ⟨u1, p1, h1⟩ := he
  refine ⟨CR.tSet1 S.w u1, fun X c => by rw [← c.w]; exact CR.pe_set1 (by rw [c.K]; exact c.cd) (p1 X c) (hs X.env), fun G H0 F H σ ρ Q C W s h k => ?_⟩
  intro D hD
  have x0 := Ext.new W hD (SetO S.w D (fun _ => false) 0)
  have hg1 := W.fresh hD
  refine h1 G H0 F _ σ ρ _ _ x0.w (s.ext x0) h fun y v F1 H1 x1 r1 q1 => ?_
  split at q1
  · rename_i c
    cases r1
    have h2 : H1 D = some _ := x1.h _ _ upd_same hg1
    have f2 : F1 D = none := x1.fnone (some_ne upd_same) (W.nf hD)
    refine ⟨c, rfl, h2, k (.s [c]) _ _ _ ((x0.trans x1).re hD f2 hg1) ⟨D, rfl, hg1, ?_, by simp, hD, f2⟩ q1⟩
    rw [upd_same]
    have := addN_setO (w := S.w) (D := D) (ns := []) (c := c)
    simp [addN] at this ⊢
  · exact False.elim q1
/-! ### a dict comprehension with int keys -/
def dcGo (tg : TGd) (tt : TB) (tk tv : TD) (ρ : Env) : List EV → List (Int × PyData) → (List (Int × PyData) → Prop) → Prop
  | [], acc, Q => Q acc
  | r :: rs, acc, Q => tg r ρ fun ρ2 => tt ρ2 fun b => match b with
    | true => tk ρ2 fun y => tv ρ2 fun z => match y, z with
      | .d (.int c), .d d => acc.length < 1000 ∧ (∀ q ∈ acc, q.1 ≠ c) ∧ dcGo tg tt tk tv ρ rs (acc ++ [(c, d)]) Q
      | _, _ => False
    | false => dcGo tg tt tk tv ρ rs acc Q
def eDc (ti : TId) (tg : TGd) (tt : TB) (tk tv : TD) (vs : List Nat) : TD := fun ρ Q => ti ρ fun rs => dcGo tg tt tk tv (wp ρ vs) rs [] fun kvs => Q (.dic kvs)
end
abbrev PrD (F : Hp) (ks : List (Key × V)) (kvs : List (Int × PyData)) : Prop := Paired (fun (q : Key × V) (e : Int × PyData) => q.1 = .inl e.1 ∧ Df F q.2 e.2) ks kvs
theorem put_new {F : Hp} {c : Int} {v : V} {d : PyData} (hd : Df F v d) : ∀ {ks : List (Key × V)} {acc : List (Int × PyData)}, PrD F ks acc → (∀ q ∈ acc, q.1 ≠ c) → PrD F (putK ks (.inl c) v) (acc ++ [(c, d)])
  | _, _, .nil, _ => .cons ⟨rfl, hd⟩ .nil
  | q :: ks, e :: acc, .cons r t, h => by
    obtain ⟨k, u⟩ := q
    have ek : k = Sum.inl e.1 := r.1
    have ne : e.1 ≠ c := h e List.mem_cons_self
    have : putK ((k, u) :: ks) (.inl c) v = (k, u) :: putK ks (.inl c) v := by
      subst ek
      have n2 : decide ((Sum.inl e.1 : Key) = Sum.inl c) = false := decide_eq_false fun z => ne (Sum.inl.inj z)
      have n3 : ¬ ((Sum.inl e.1 : Key) = Sum.inl c) := fun z => ne (Sum.inl.inj z)
      unfold putK
      simp only [List.any_cons, List.map_cons, n3, if_false, List.cons_append, decide_false, Bool.false_or]
      split <;> rfl
    rw [this]
    exact .cons r (put_new hd t fun q hq => h q (List.mem_cons_of_mem _ hq))
theorem PrD.length {F : Hp} : ∀ {ks : List (Key × V)} {acc : List (Int × PyData)}, PrD F ks acc → ks.length = acc.length
  | _, _, .nil => rfl
  | _, _, .cons _ t => by rw [List.length_cons, List.length_cons, PrD.length t]
section
variable {S : Sx} {e a b tg iter elt kx vx : Expr} {p pos tpos : Pos} {ta tb te tk tv : TD} {tA : TAd} {tt : TB} {g : TGd} {ti : TId} {ns : List Nat} {ifs : List Expr} {scope : Scope} {own : List (Str × Nat)}
theorem de_dc (hi : DI S false tg iter ti) (hg : DG (S.blk scope) tg ns g) (ht : DTs (S.blk scope) ifs tt) (hk : DE (S.blk scope) kx tk) (hv : DE (S.blk scope) vx tv) (ok : blkC S.N S.sc scope own = true) (hns : ∀ j ∈ ns, j ∈ own.map (·.2))
    (hs : ∀ (env : PySem.Env) x, foldedSetIterable iter env x = pure x := by intro _ _; rfl) : DE S (.DictComp kx vx [⟨tg, iter, ifs, 0⟩] scope pos) (eDc ti g tt tk tv (own.map (·.2))) := by
  obtain ⟨wi, pi, qi⟩ := hi
  obtain ⟨wg, pg, qg⟩ := hg
  obtain ⟨wt, pt, qt⟩ := ht
  obtain ⟨wk, pk, qk⟩ := hk
  obtain ⟨we, pe, qe⟩ := hv
  refine ⟨tDc wi wg wt wk we (own.map (·.2)), fun X c => pe_dc c.calm (by rw [c.N]; exact c.nd) (pi X c) (blkOk_by (by rw [c.N, c.sc]; exact ok)) (fun s H A cl fp => pg _ (ctx_blk c s H scope cl A fp)) (fun s H A cl fp => pt _ (ctx_blk c s H scope cl A fp)) (fun s H A cl fp => pk _ (ctx_blk c s H scope cl A fp)) (fun s H A cl fp => pe _ (ctx_blk c s H scope cl A fp)) (hs X.env), fun G H0 F H σ ρ Q C W s h k => ?_⟩
  refine qi G H0 F H σ ρ _ _ W s h fun J rs F1 H1 x1 j1 q1 => ?_
  intro D hD
  have hg1 : ¬ inG G D := x1.w.fresh hD
  refine ⟨fun i m H2 => m = rs.length - i ∧ i ≤ rs.length ∧ ∃ F2 ks acc, Ext G F1 H1 F2 H2 ∧ H2 D = some (.dK ks) ∧ F2 D = none ∧ PrD F2 ks acc ∧ dcGo g tt tk tv (wp ρ (own.map (·.2))) (rs.drop i) acc fun ds => Q (.dic ds), ⟨_, rfl, Nat.zero_le _, F1, [], [], Ext.new x1.w hD _, upd_same, x1.w.nf hD, .nil, q1⟩, ?_⟩
  rintro i m H2 ⟨rfl, hi, F2, ks, acc, x2, h2, f2, r2, q2⟩
  have fr2 : Fr false G F1 H1 F2 H2 := by simpa [Fr] using x2
  by_cases hlt : i < rs.length
  · have ei : rs[i]? = some rs[i] := List.getElem?_eq_getElem hlt
    obtain ⟨go, yl⟩ := (j1 F2 H2 fr2).2 i rs[i] ei
    rw [List.drop_eq_getElem_cons hlt] at q2
    refine .inr ⟨go, fun H3 => i + 1 ≤ rs.length ∧ ∃ F2 ks acc, Ext G F1 H1 F2 H3 ∧ H3 D = some (.dK ks) ∧ F2 D = none ∧ PrD F2 ks acc ∧ dcGo g tt tk tv (wp ρ (own.map (·.2))) (rs.drop (i + 1)) acc fun ds => Q (.dic ds), fun H3 n => ⟨_, by omega, rfl, n⟩, fun x H3 y => ?_⟩
    obtain ⟨F3, x3, r3⟩ := yl x H3 y
    have s3 := (((s.ext x1).ext x2).ext x3).wipe (own.map (·.2))
    have xa := x2.trans x3
    have h3 : H3 D = some _ := x3.h _ _ h2 hg1
    have f3 : F3 D = none := x3.fnone (some_ne h2) f2
    refine qg G H0 H2 F3 H3 _ _ x (rs[i]) _ _ x3.w s3 r3 q2 fun σ4 ρ4 u4 n4 l4 q4 => ⟨?_, ?_⟩
    · have e1 := wipe_same (vs := own.map (·.2)) l4 n4 hns
      rw [e1]
      exact wipe_twice σ _
    · have s4 := u4 F3 H3 Sub.rfl' s3
      refine qt G H0 F3 H3 σ4 ρ4 _ _ x3.w s4 q4 fun b F5 H5 x5 q5 => ?_
      have h5 : H5 D = some _ := x5.h _ _ h3 hg1
      have f5 : F5 D = none := x5.fnone (some_ne h3) f3
      cases b with
      | false =>
        refine (if_neg Bool.false_ne_true).mpr ⟨hlt, F5, ks, acc, xa.trans x5, h5, f5, Paired.mapP r2 fun _ _ z => ⟨z.1, Df.mono (x3.f.trans x5.f) z.2⟩, q5⟩
      | true =>
        refine (if_pos rfl).mpr (qk G H0 F5 H5 σ4 ρ4 _ _ x5.w (s4.ext x5) q5 fun y v F6 H6 x6 r6 q6 => ?_)
        refine qe G H0 F6 H6 σ4 ρ4 _ _ x6.w ((s4.ext x5).ext x6) q6 fun z u F7 H7 x7 r7 q7 => ?_
        split at q7
        · rename_i c d
          cases r6
          have h6 : H6 D = some _ := x6.h _ _ h5 hg1
          have f6 : F6 D = none := x6.fnone (some_ne h5) f5
          have h7 : H7 D = some _ := x7.h _ _ h6 hg1
          have f7 : F7 D = none := x7.fnone (some_ne h6) f6
          have r2' : PrD F7 ks acc := Paired.mapP r2 fun _ _ z => ⟨z.1, Df.mono (((x3.f.trans x5.f).trans x6.f).trans x7.f) z.2⟩
          refine ⟨ks, .inl c, rfl, h7, by rw [r2.length]; exact Nat.lt_of_lt_of_le q7.1 (few (Nat.le_refl _)), hlt, F7, _, acc ++ [(c, d)], (((xa.trans x5).trans x6).trans x7).re hD f7 hg1, upd_same, f7, put_new r7 r2' q7.2.1, q7.2.2⟩
        · exact False.elim q7
  · have e : i = rs.length := by omega
    subst e
    rw [List.drop_length] at q2
    exact .inl ⟨(j1 F2 H2 fr2).1 _ (Nat.le_refl _), k (.dic acc) _ F2 H2 (x1.trans x2) ⟨D, ks, rfl, hg1, h2, r2⟩ q2⟩
/-! ### two for in a row -/
def lc2Go (tg : TGd) (tt : TB) (ti1 : TId) (tg1 : TGd) (tt1 : TB) (te : TD) (vs1 : List Nat) (ρ : Env) : List EV → List PyData → (List PyData → Prop) → Prop
  | [], acc, Q => Q acc
  | r :: rs, acc, Q => tg r ρ fun ρ2 => tt ρ2 fun b => match b with
    | true => ti1 ρ2 fun rs1 => lcGo tg1 tt1 te (wp ρ2 vs1) rs1 acc fun acc' => lc2Go tg tt ti1 tg1 tt1 te vs1 ρ rs acc' Q
    | false => lc2Go tg tt ti1 tg1 tt1 te vs1 ρ rs acc Q
def eLc2 (ti : TId) (tg : TGd) (tt : TB) (ti1 : TId) (tg1 : TGd) (tt1 : TB) (te : TD) (vs vs1 : List Nat) : TD := fun ρ Q => ti ρ fun rs => lc2Go tg tt ti1 tg1 tt1 te vs1 (wp ρ vs) rs [] fun ds => Q (.o ds)
theorem de_lc2 {tg1 iter1 : Expr} {ifs1 : List Expr} {ti1 : TId} {g1 : TGd} {tt1 : TB} {ns1 vs1 : List Nat} (hi : DI S false tg iter ti) (hg : DG (S.blk scope) tg ns g) (ht : DTs (S.blk scope) ifs tt) (hi1 : DI (S.blk scope) true tg1 iter1 ti1) (hg1 : DG (S.blk scope) tg1 ns1 g1) (ht1 : DTs (S.blk scope) ifs1 tt1)
    (he : DE (S.blk scope) elt te) (ok : blkC S.N S.sc scope own = true) (hns : ∀ j ∈ ns, j ∈ own.map (·.2)) (hns1 : ∀ j ∈ ns1, j ∈ vs1) (hv1 : ∀ i, i ∈ vs1 → i ∈ own.map (·.2))
    (hs : ∀ (env : PySem.Env) x, foldedSetIterable iter env x = pure x := by intro _ _; rfl) (hs1 : ∀ (env : PySem.Env) x, foldedSetIterable iter1 env x = pure x := by intro _ _; rfl) :
    DE S (.ListComp elt [⟨tg, iter, ifs, 0⟩, ⟨tg1, iter1, ifs1, 0⟩] scope pos) (eLc2 ti g tt ti1 g1 tt1 te (own.map (·.2)) vs1) := by
  obtain ⟨wi, pi, qi⟩ := hi
  obtain ⟨wg, pg, qg⟩ := hg
  obtain ⟨wt, pt, qt⟩ := ht
  obtain ⟨wi1, pi1, qi1⟩ := hi1
  obtain ⟨wg1, pg1, qg1⟩ := hg1
  obtain ⟨wt1, pt1, qt1⟩ := ht1
  obtain ⟨we, pe, qe⟩ := he
  refine ⟨tLc2 wi wg wt wi1 wg1 wt1 we (own.map (·.2)) vs1, fun X c => pe_lc2 c.calm (by rw [c.N]; exact c.nd) (pi X c) (blkOk_by (by rw [c.N, c.sc]; exact ok)) hv1 (fun s H A cl fp => pg _ (ctx_blk c s H scope cl A fp)) (fun s H A cl fp => pt _ (ctx_blk c s H scope cl A fp))
    (fun s H A cl fp => pi1 _ (ctx_blk c s H scope cl A fp)) (fun s H A cl fp => pg1 _ (ctx_blk c s H scope cl A fp)) (fun s H A cl fp => pt1 _ (ctx_blk c s H scope cl A fp)) (fun s H A cl fp => pe _ (ctx_blk c s H scope cl A fp)) (hs X.env) hs1, fun G H0 F H σ ρ Q C W s h k => ?_⟩
  refine qi G H0 F H σ ρ _ _ W s h fun J rs F1 H1 x1 j1 q1 => ?_
  intro D hD
  have hgD : ¬ inG G D := x1.w.fresh hD
  let St : Nat → Hp → Prop := fun i H2 => i ≤ rs.length ∧ ∃ F2 vs acc, Ext G F1 H1 F2 H2 ∧ H2 D = some (.lst vs) ∧ F2 D = none ∧ DfA F2 vs acc ∧ lc2Go g tt ti1 g1 tt1 te vs1 (wp ρ (own.map (·.2))) (rs.drop i) acc fun ds => Q (.o ds)
  refine ⟨fun i m H2 => m = rs.length - i ∧ St i H2, ⟨_, rfl, Nat.zero_le _, F1, [], [], Ext.new x1.w hD _, upd_same, x1.w.nf hD, .nil, q1⟩, ?_⟩
  rintro i m H2 ⟨rfl, hi, F2, vs, acc, x2, h2, f2, r2, q2⟩
  have fr2 : Fr false G F1 H1 F2 H2 := by simpa [Fr] using x2
  by_cases hlt : i < rs.length
  · have ei : rs[i]? = some rs[i] := List.getElem?_eq_getElem hlt
    obtain ⟨go, yl⟩ := (j1 F2 H2 fr2).2 i rs[i] ei
    rw [List.drop_eq_getElem_cons hlt] at q2
    refine .inr ⟨go, St (i + 1), fun H3 n => ⟨_, by omega, rfl, n⟩, fun x H3 y => ?_⟩
    obtain ⟨F3, x3, r3⟩ := yl x H3 y
    have s3 := (((s.ext x1).ext x2).ext x3).wipe (own.map (·.2))
    have xa := x2.trans x3
    have h3 : H3 D = some (.lst vs) := x3.h _ _ h2 hgD
    have f3 : F3 D = none := x3.fnone (some_ne h2) f2
    refine qg G H0 H2 F3 H3 _ _ x (rs[i]) _ _ x3.w s3 r3 q2 fun σ4 ρ4 u4 n4 l4 q4 => ⟨?_, ?_⟩
    · have e1 := wipe_same (vs := own.map (·.2)) l4 n4 hns
      rw [e1]
      exact wipe_twice σ _
    · have s4 := u4 F3 H3 Sub.rfl' s3
      refine qt G H0 F3 H3 σ4 ρ4 _ _ x3.w s4 q4 fun b F5 H5 x5 q5 => ?_
      have h5 : H5 D = some (.lst vs) := x5.h _ _ h3 hgD
      have f5 : F5 D = none := x5.fnone (some_ne h3) f3
      cases b with
      | false =>
        refine (if_neg Bool.false_ne_true).mpr ⟨hlt, F5, vs, acc, xa.trans x5, h5, f5, DfA.mono (x3.f.trans x5.f) r2, q5⟩
      | true =>
        refine (if_pos rfl).mpr (qi1 G H0 F5 H5 σ4 ρ4 _ _ x5.w (s4.ext x5) q5 fun J1 rs1 F6 H6 x6 j6 q6 => ?_)
        have h6 : H6 D = some (.lst vs) := x6.h _ _ h5 hgD
        have f6 : F6 D = none := x6.fnone (some_ne h5) f5
        have xb := (xa.trans x5).trans x6
        have s6 := (s4.ext x5).ext x6
        let St1 : Nat → Hp → Prop := fun j H2 => j ≤ rs1.length ∧ ∃ F7 vs acc, Sub F6 F7 ∧ Ext G F1 H1 F7 H2 ∧ H2 D = some (.lst vs) ∧ F7 D = none ∧ DfA F7 vs acc ∧ lcGo g1 tt1 te (wp ρ4 vs1) (rs1.drop j) acc fun acc' => lc2Go g tt ti1 g1 tt1 te vs1 (wp ρ (own.map (·.2))) (rs.drop (i + 1)) acc' fun ds => Q (.o ds)
        refine ⟨fun j m H2 => m = rs1.length - j ∧ St1 j H2, ⟨_, rfl, Nat.zero_le _, F6, vs, acc, Sub.rfl', xb, h6, f6, DfA.mono ((x3.f.trans x5.f).trans x6.f) r2, q6⟩, ?_⟩
        rintro j m H7 ⟨rfl, hj, F7, vs7, acc7, sb7, x7, h7, f7, r7, q7⟩
        have fr7 : Fr true G F6 H6 F7 H7 := by simpa [Fr] using ⟨sb7, x7.w⟩
        by_cases hlt1 : j < rs1.length
        · have ej : rs1[j]? = some rs1[j] := List.getElem?_eq_getElem hlt1
          obtain ⟨go1, yl1⟩ := (j6 F7 H7 fr7).2 j rs1[j] ej
          rw [List.drop_eq_getElem_cons hlt1] at q7
          refine .inr ⟨go1, St1 (j + 1), fun H8 n => ⟨_, by omega, rfl, n⟩, fun x H8 y => ?_⟩
          obtain ⟨F8, x8, r8⟩ := yl1 x H8 y
          have xc := x7.trans x8
          have sb8 : Sub F3 F8 := (((x5.f).trans x6.f).trans sb7).trans x8.f
          have s8a : Sta S.K S.w G H0 F8 H8 (L2.wipe σ (own.map (·.2))) (wp ρ (own.map (·.2))) := ((s.ext x1).ext xc).wipe _
          have s8 := (u4 F8 H8 sb8 s8a).wipe vs1
          have h8 : H8 D = some (.lst vs7) := x8.h _ _ h7 hgD
          have f8 : F8 D = none := x8.fnone (some_ne h7) f7
          refine qg1 G H0 H7 F8 H8 _ _ x (rs1[j]) _ _ x8.w s8 r8 q7 fun σ9 ρ9 u9 n9 l9 q9 => ⟨?_, ?_⟩
          · have e1 := wipe_same (vs := vs1) l9 n9 hns1
            rw [e1]
            exact wipe_twice σ4 _
          · have s9 := u9 F8 H8 Sub.rfl' s8
            refine qt1 G H0 F8 H8 σ9 ρ9 _ _ x8.w s9 q9 fun b F10 H10 x10 q10 => ?_
            have h10 : H10 D = some (.lst vs7) := x10.h _ _ h8 hgD
            have f10 : F10 D = none := x10.fnone (some_ne h8) f8
            cases b with
            | false =>
              refine (if_neg Bool.false_ne_true).mpr ⟨hlt1, F10, vs7, acc7, (sb7.trans x8.f).trans x10.f, xc.trans x10, h10, f10, DfA.mono (x8.f.trans x10.f) r7, q10⟩
            | true =>
              refine (if_pos rfl).mpr (qe G H0 F10 H10 σ9 ρ9 _ _ x10.w (s9.ext x10) q10 fun y v F11 H11 x11 r11 q11 => ?_)
              split at q11
              · rename_i d ed
                have h11 : H11 D = some (.lst vs7) := x11.h _ _ h10 hgD
                have f11 : F11 D = none := x11.fnone (some_ne h10) f10
                obtain ⟨F12, x12, s12, r12, n12⟩ := r11.freeze x11 ed
                have f12 : F12 D = none := n12 D f11 (some_ne h10)
                have hl : vs7.length < sizeLine := by
                  rw [r7.length]; exact Nat.lt_of_lt_of_le q11.1 (few (Nat.le_refl _))
                refine ⟨vs7, h11, hl, hlt1, F12, vs7 ++ [v], acc7 ++ [d], ((sb7.trans x8.f).trans x10.f).trans x12.f, ((xc.trans x10).trans x12).re hD f12 hgD, upd_same, f12, ?_, q11.2⟩
                exact (DfA.mono ((x8.f.trans x10.f).trans x12.f) r7).append (.cons r12 .nil)
              · exact False.elim q11
        · have e : j = rs1.length := by omega
          subst e
          rw [List.drop_length] at q7
          exact .inl ⟨(j6 F7 H7 fr7).1 _ (Nat.le_refl _), hlt, F7, vs7, acc7, x7, h7, f7, r7, q7⟩
  · have e : i = rs.length := by omega
    subst e
    rw [List.drop_length] at q2
    exact .inl ⟨(j1 F2 H2 fr2).1 _ (Nat.le_refl _), k (.o acc) _ F2 H2 (x1.trans x2) ⟨D, vs, rfl, hgD, h2, r2, x1.fresh hD, f2⟩ q2⟩
end
end DL
set_option Elab.async false
set_option linter.all false
set_option maxRecDepth 100000
set_option maxHeartbeats 1000000
namespace DL
open PySem PySem.Spec PyProof.Rows L2
/-! ### statements -/
structure DEnds where
  nx : Env → Prop
  rt : EV → Prop
  bk : Env → Prop := fun _ => False
  ct : Env → Prop := fun _ => False
abbrev TSd := DEnds → Env → Prop
structure KE (S : Sx) (G : Gp) (F0 H0 F : Hp) (D : DEnds) (C : Ends) : Prop where
  nx : ∀ σ ρ F' H', Sub F F' → Ext G F0 H0 F' H' → Sta S.K S.w G H0 F' H' σ ρ → D.nx ρ → C.nx σ H'
  rt : ∀ r v F' H', Sub F F' → Ext G F0 H0 F' H' → Rep S.K S.w G H0 F' H' v r → D.rt r → C.rt v H'
  bk : ∀ σ ρ F' H', Sub F F' → Ext G F0 H0 F' H' → Sta S.K S.w G H0 F' H' σ ρ → D.bk ρ → C.bk σ H'
  ct : ∀ σ ρ F' H', Sub F F' → Ext G F0 H0 F' H' → Sta S.K S.w G H0 F' H' σ ρ → D.ct ρ → C.ct σ H'
def SndS (S : Sx) (t : TSd) (ts : TS) : Prop := ∀ (G : Gp) (F0 H0 F H : Hp) (σ : L2.St) (ρ : Env) (D : DEnds) (C : Ends), Ext G F0 H0 F H → Sta S.K S.w G H0 F H σ ρ → t D ρ → KE S G F0 H0 F D C → ts C σ H
def DS (S : Sx) (st : Stmt) (t : TSd) : Prop := ∃ ts : TS, (∀ X, Ctx S X → PS X st ts) ∧ SndS S t ts
def DSs (S : Sx) (sts : List Stmt) (t : TSd) : Prop := ∃ ts : TS, (∀ X, Ctx S X → PSs X sts ts) ∧ SndS S t ts
theorem KE.then {S : Sx} {G : Gp} {F0 H0 F F1 : Hp} {D : DEnds} {C : Ends} (s : Sub F F1) (k : KE S G F0 H0 F D C) : KE S G F0 H0 F1 D C :=
  ⟨fun σ ρ F' H' a => k.nx σ ρ F' H' (s.trans a), fun r v F' H' a => k.rt r v F' H' (s.trans a), fun σ ρ F' H' a => k.bk σ ρ F' H' (s.trans a), fun σ ρ F' H' a => k.ct σ ρ F' H' (s.trans a)⟩
/-- a value that leaves -/
theorem Rep.out {K : PySem.W.Frag} {w : World} {G : Gp} {F0 H0 F H F2 H2 : Hp} {v : V} {r : EV} (x : Ext G F0 H0 F H) (h : Rep K w G H F2 H2 v r) : Rep K w G H0 F2 H2 v r := h.start fun _ e => x.fresh e
section
variable {S : Sx} {e a b c : Expr} {p pos : Pos} {ta tb : TD} {tA : TAd} {tc : TB} {t u : TSd} {st : Stmt} {rest body : List Stmt}
def sNil : TSd := fun D ρ => D.nx ρ
def sThen (t u : TSd) : TSd := fun D ρ => t { D with nx := u D } ρ
theorem dss_nil : DSs S [] sNil := ⟨tNext, fun X c => pss_nil, fun G F0 H0 F H σ ρ D C x s h k => k.nx σ ρ F H Sub.rfl' x s h⟩
theorem dss_one (h : DS S st t) : DSs S [st] t := let ⟨ts, p, q⟩ := h; ⟨ts, fun X c => pss_one (p X c), q⟩
theorem dss_cons (h : DS S st t) (h' : DSs S rest u) : DSs S (st :: rest) (sThen t u) := by
  obtain ⟨ts, p, q⟩ := h
  obtain ⟨us, p', q'⟩ := h'
  refine ⟨tSeq ts us, fun X c => pss_cons (p X c) (p' X c), fun G F0 H0 F H σ ρ D C x s h k => ?_⟩
  exact q G F0 H0 F H σ ρ { D with nx := u D } _ x s h ⟨fun σ1 ρ1 F1 H1 a x1 s1 h1 => q' G F0 H0 F1 H1 σ1 ρ1 D C x1 s1 h1 (k.then a), k.rt, k.bk, k.ct⟩
def sIf (tc : TB) (t u : TSd) : TSd := fun D ρ => tc ρ fun b => match b with
  | true => t D ρ
  | false => u D ρ
theorem ds_if (hc : DT S c tc) (h : DSs S body t) (h' : DSs S rest u) : DS S (.If c body rest pos) (sIf tc t u) := by
  obtain ⟨wc, pc, qc⟩ := hc
  obtain ⟨ts, p, q⟩ := h
  obtain ⟨us, p', q'⟩ := h'
  refine ⟨tIfS wc ts us, fun X c => ps_if (pc X c) (p X c) (p' X c), fun G F0 H0 F H σ ρ D C x s h k => ?_⟩
  refine qc G H0 F H σ ρ _ _ x.w s h fun b F1 H1 x1 q1 => ?_
  cases b with
  | true => exact (if_pos rfl).mpr (q G F0 H0 F1 H1 σ ρ D C (x.trans x1) (s.ext x1) q1 (k.then x1.f))
  | false => exact (if_neg Bool.false_ne_true).mpr (q' G F0 H0 F1 H1 σ ρ D C (x.trans x1) (s.ext x1) q1 (k.then x1.f))
def sRet (ta : TD) : TSd := fun D ρ => ta ρ D.rt
theorem ds_ret (ha : DE S e ta) : DS S (.Return (some e) pos) (sRet ta) := by
  obtain ⟨ts, p, q⟩ := ha
  exact ⟨tRet ts, fun X c => ps_ret (p X c), fun G F0 H0 F H σ ρ D C x s h k => q G H0 F H σ ρ _ _ x.w s h fun r v F1 H1 x1 r1 q1 => k.rt r v F1 H1 x1.f (x.trans x1) (r1.out x) q1⟩
def sExpr (ta : TD) : TSd := fun D ρ => ta ρ fun _ => D.nx ρ
theorem ds_expr (ha : DE S e ta) (hs : ∀ (X : Cx), swapsWith e none pos.line X.env = pure false := by intro _; rfl) : DS S (.Expr e pos) (sExpr ta) := by
  obtain ⟨ts, p, q⟩ := ha
  exact ⟨tDrop ts, fun X c => ps_expr (p X c) (hs X), fun G F0 H0 F H σ ρ D C x s h k => q G H0 F H σ ρ _ _ x.w s h fun r v F1 H1 x1 r1 q1 => k.nx σ ρ F1 H1 x1.f (x.trans x1) (s.ext x1) q1⟩
def sNever : TSd := fun _ _ => False
theorem ds_never : DS S st sNever := ⟨fun _ _ _ => False, fun X c => ps_never, fun G F0 H0 F H σ ρ D C x s h k => h⟩
def sBreak : TSd := fun D ρ => D.bk ρ
theorem ds_break : DS S (.Break pos) sBreak := ⟨tBreak, fun X c => ps_break, fun G F0 H0 F H σ ρ D C x s h k => k.bk σ ρ F H Sub.rfl' x s h⟩
def sCont : TSd := fun D ρ => D.ct ρ
theorem ds_cont : DS S (.Continue pos) sCont := ⟨tCont, fun X c => ps_continue, fun G F0 H0 F H σ ρ D C x s h k => k.ct σ ρ F H Sub.rfl' x s h⟩
/-! ### stores -/
def sSet (i : Nat) (ta : TD) : TSd := fun D ρ => ta ρ fun r => keep r = true ∧ D.nx (ρ.set i (some r))
theorem ds_set {x : Str} {pos' : Pos} (i : Nat) (hN : S.N[i]? = some x) (hl : L2.Loc S.sc x) (ha : DE S e ta) (hf : S.fn x = true ∨ S.sc.names.lookup x = some .local := by first | exact .inl rfl | exact .inr rfl)
    (hs : ∀ env : PySem.Env, env.scope = S.sc → swapsWith e (some (.Name x pos')) pos.line env = pure false := by intro _ _; rfl) : DS S (.Assign [.Name x pos'] e pos) (sSet i ta) := by
  obtain ⟨ts, p, q⟩ := ha
  refine ⟨tAsg ts (gName i), fun X c => ps_set (by rw [c.N]; exact c.nd) (by rw [c.N]; exact hN) (by rw [c.sc]; exact hl) (p X c) (hs X.env c.sc) (by rw [c.fn, c.sc]; exact hf), fun G F0 H0 F H σ ρ D C x s h k => ?_⟩
  exact q G H0 F H σ ρ _ _ x.w s h fun r v F1 H1 x1 r1 q1 => k.nx _ _ F1 H1 x1.f (x.trans x1) (s.set x1 (fun a => x.fresh) r1 q1.1 i) q1.2
/-- y = [.. for ..] -/
theorem ds_setLc {y : Str} {py spos : Pos} {elt tg iter : Expr} {ifs : List Expr} {scope : Scope} {own : List (Str × Nat)} (i : Nat) (hN : S.N[i]? = some y) (hl : S.sc.names.lookup y = some .local) (hk : S.sc.kind = .function) (h : DLc S elt tg iter ifs scope own ta)
    (ok : blkC S.N S.sc scope own = true) (hln : (py.line == pos.line) = true) (hno : (scope.names.any fun (n, k) => n == y && (k == .local || k == .cell)) = false)
    (hs : ∀ (env : PySem.Env) x, foldedSetIterable iter env x = pure x := by intro _ _; rfl) : DS S (.Assign [.Name y py] (.ListComp elt [⟨tg, iter, ifs, 0⟩] scope pos) spos) (sSet i ta) := by
  obtain ⟨wi, wg, wt, we, pi, pb, q⟩ := h
  refine ⟨_, fun X c => ps_setLc (i := i) c.calm (by rw [c.N]; exact c.nd) (by rw [c.N]; exact hN) (by rw [c.sc]; exact hl) (sw_true (by rw [c.sc]; exact hk) (by rw [c.sc]; exact hl) hln hno) (pi X c) (blkOk_by (by rw [c.N, c.sc]; exact ok)) (fun s H A cl fp => (pb X c s H A cl fp).1) (fun s H A cl fp => (pb X c s H A cl fp).2.1) (fun s H A cl fp => (pb X c s H A cl fp).2.2) (hs X.env), fun G F0 H0 F H σ ρ D C x s h k => ?_⟩
  exact q G H0 F H σ ρ _ _ x.w s h fun r v F1 H1 x1 r1 q1 => k.nx _ _ F1 H1 x1.f (x.trans x1) (s.set x1 (fun a => x.fresh) r1 q1.1 i) q1.2
theorem sw_trueS {elt : Expr} {gs : List Comprehension} {scope : Scope} {pos py : Pos} {y : Str} {l : Nat} {env : PySem.Env} (hk : env.scope.kind = .function) (hy : env.scope.names.lookup y = some .local) (hl : (py.line == pos.line) = true)
    (ha : (scope.names.any fun (n, k) => n == y && (k == .local || k == .cell)) = false) : swapsWith (.SetComp elt gs scope pos) (some (.Name y py)) l env = pure true := by
  have ky : env.kindOf y = some .local := hy
  have hb : env.blockKind = .function := by unfold Env.blockKind; rw [hk]; rfl
  unfold swapsWith
  simp only [hb, ky, ha, Expr.pos, hl]
  rfl
/-- y = {.. for ..} -/
theorem ds_setSc {y : Str} {py spos : Pos} {elt tg iter : Expr} {ifs : List Expr} {scope : Scope} {own : List (Str × Nat)} (i : Nat) (hN : S.N[i]? = some y) (hl : S.sc.names.lookup y = some .local) (hk : S.sc.kind = .function) (h : DSc S elt tg iter ifs scope own ta)
    (ok : blkC S.N S.sc scope own = true) (hln : (py.line == pos.line) = true) (hno : (scope.names.any fun (n, k) => n == y && (k == .local || k == .cell)) = false)
    (hs : ∀ (env : PySem.Env) x, foldedSetIterable iter env x = pure x := by intro _ _; rfl) : DS S (.Assign [.Name y py] (.SetComp elt [⟨tg, iter, ifs, 0⟩] scope pos) spos) (sSet i ta) := by
  obtain ⟨wi, wg, wt, we, pi, pb, q⟩ := h
  refine ⟨tAsg (CR.tSci S.w wi wg wt we (own.map (·.2))) (gName i), fun X c => by rw [← c.w]; exact CR.ps_setSci (i := i) c.calm (by rw [c.N]; exact c.nd) (pi X c) (blkOk_by (by rw [c.N, c.sc]; exact ok)) (fun s H A cl fp => (pb X c s H A cl fp).1) (fun s H A cl fp => (pb X c s H A cl fp).2.1) (fun s H A cl fp => (pb X c s H A cl fp).2.2) (by rw [c.N]; exact hN) (by rw [c.sc]; exact hl) (sw_trueS (by rw [c.sc]; exact hk) (by rw [c.sc]; exact hl) hln hno) (hs X.env), fun G F0 H0 F H σ ρ D C x s h k => ?_⟩
  exact q G H0 F H σ ρ _ _ x.w s h fun r v F1 H1 x1 r1 q1 => k.nx _ _ F1 H1 x1.f (x.trans x1) (s.set x1 (fun a => x.fresh) r1 q1.1 i) q1.2
/-- a tuple is unpacked -/
def sAsg (ta : TD) (tg : TGd) : TSd := fun D ρ => ta ρ fun r => tg r ρ D.nx
theorem ds_asg {tg : Expr} {ns : List Nat} {g : TGd} (ha : DE S e ta) (hg : DG S tg ns g) (h1 : ∀ env : PySem.Env, swapsWithSole [tg] e pos.line env = pure false := by intro _; rfl) (h2 : ∀ env : PySem.Env, swappedStores [tg] e env = pure none := by intro _; rfl)
    (h3 : ∀ env : PySem.Env, (assignEach [tg] env).map (·.2) = [assign tg env] := by intro _; rfl) : DS S (.Assign [tg] e pos) (sAsg ta g) := by
  obtain ⟨ts, p, q⟩ := ha
  obtain ⟨wg, pg, qg⟩ := hg
  refine ⟨tAsg ts wg, fun X c => ps_asg (p X c) (pg X c) (h1 X.env) (h2 X.env) (h3 X.env), fun G F0 H0 F H σ ρ D C x s h k => ?_⟩
  refine q G H0 F H σ ρ _ _ x.w s h fun r v F1 H1 x1 r1 q1 => ?_
  exact qg G H0 H F1 H1 σ ρ v r _ _ x1.w (s.ext x1) r1 q1 fun σ2 ρ2 s2 _ _ q2 => k.nx _ _ F1 H1 x1.f (x.trans x1) (s2 F1 H1 Sub.rfl' (s.ext x1)) q2
end
/-! ### two or three stores at once -/
section
variable {K : PySem.W.Frag} {w : World} {G : Gp} {H0 F H F' H' : Hp} {v : V} {r : EV} {σ : L2.St} {ρ : Env}
/-- a slot is stored: nobody owns it -/
theorem Sta.put (s : Sta K w G H0 F H σ ρ) (h : Rep K w G H0 F H v r) (hk : keep r = true) (i : Nat) (hu : own r = true → ∀ j y, j ≠ i → ρ[j]? = some (some y) → own y = true → σ[j]? ≠ some (some v)) : Sta K w G H0 F H (σ.set i (some v)) (ρ.set i (some r)) := by
  have at' : ∀ {j : Nat} {ev : EV}, (ρ.set i (some r))[j]? = some (some ev) → (i = j ∧ ev = r ∧ j < ρ.length) ∨ (i ≠ j ∧ ρ[j]? = some (some ev)) := fun {j ev} e => by
    by_cases hj : i = j
    · subst hj
      have hl : i < ρ.length := by
        have := (List.getElem?_eq_some_iff.mp e).1
        rwa [List.length_set] at this
      rw [List.getElem?_set_self hl] at e
      cases e
      exact .inl ⟨rfl, rfl, hl⟩
    · rw [List.getElem?_set_ne hj] at e
      exact .inr ⟨hj, e⟩
  refine ⟨by rw [List.length_set, List.length_set]; exact s.len, fun j ev e => ?_, fun j ev e => ?_, fun j k p y z ne e1 o1 e2 o2 f1 f2 => ?_⟩
  · rcases at' e with ⟨rfl, rfl, hl⟩ | ⟨hj, e⟩
    · exact ⟨v, by rw [List.getElem?_set_self (by rw [s.len]; exact hl)], h⟩
    · obtain ⟨u, a, b⟩ := s.at_ j ev e
      exact ⟨u, by rw [List.getElem?_set_ne hj]; exact a, b⟩
  · rcases at' e with ⟨rfl, rfl, hl⟩ | ⟨hj, e⟩
    · exact hk
    · exact s.nol j ev e
  · rcases at' e1 with ⟨rfl, rfl, hl⟩ | ⟨hj, e1'⟩
    · rcases at' e2 with ⟨q, _, _⟩ | ⟨hk', e2'⟩
      · exact ne q
      · rw [List.getElem?_set_self (by rw [s.len]; exact hl)] at f1
        rw [List.getElem?_set_ne hk'] at f2
        cases f1
        exact hu o1 k z (Ne.symm ne) e2' o2 f2
    · rcases at' e2 with ⟨rfl, rfl, hl⟩ | ⟨hk', e2'⟩
      · rw [List.getElem?_set_self (by rw [s.len]; exact hl)] at f2
        rw [List.getElem?_set_ne hj] at f1
        cases f2
        exact hu o2 j y ne e1' o1 f1
      · rw [List.getElem?_set_ne hj] at f1
        rw [List.getElem?_set_ne hk'] at f2
        exact s.one j k p y z ne e1' o1 e2' o2 f1 f2
/-- the first is in its place, the next one comes -/
theorem Reps.ne_first {vs : List V} {rs : List EV} {u : V} {x : EV} (h : Reps K w G H0 F H (u :: vs) (x :: rs)) {j : Nat} {v : V} {y : EV} (ev : vs[j]? = some v) (er : rs[j]? = some y) (o1 : own x = true) (o2 : own y = true) : v ≠ u := by
  cases h with
  | cons h t ap => exact ap o1 j v y ev er o2
theorem set_get {α : Type} {xs : List α} {i j : Nat} {x y : α} (h : (xs.set i x)[j]? = some y) : (j = i ∧ y = x) ∨ (j ≠ i ∧ xs[j]? = some y) := by
  by_cases e : i = j
  · subst e
    rw [List.getElem?_set] at h
    simp only [if_true] at h
    split at h
    · cases h; exact .inl ⟨rfl, rfl⟩
    · cases h
  · rw [List.getElem?_set_ne e] at h
    exact .inr ⟨Ne.symm e, h⟩
theorem Sta.set2 (s : Sta K w G H0 F H σ ρ) (x : Ext G F H F' H') (h0 : ∀ a, H a = none → H0 a = none) {u v : V} {q r : EV} (h : Reps K w G H F' H' [u, v] [q, r]) (hq : keep q = true) (hr : keep r = true) (i j : Nat) :
    Sta K w G H0 F' H' ((σ.set i (some u)).set j (some v)) ((ρ.set i (some q)).set j (some r)) := by
  have hh := h
  cases h with
  | cons h1 t ap =>
    cases t with
    | cons h2 t2 ap2 =>
      have s1 := s.set x h0 h1 hq i
      refine s1.put (h2.start h0) hr j fun o k y ne e oy f => ?_
      rcases set_get e with ⟨rfl, e'⟩ | ⟨n2, e'⟩
      · cases e'
        have hl : k < σ.length := by
          have := (List.getElem?_eq_some_iff.mp f).1
          rwa [List.length_set] at this
        rw [List.getElem?_set_self hl] at f
        cases f
        exact hh.ne_first (j := 0) rfl rfl oy o rfl
      · rw [List.getElem?_set_ne (Ne.symm n2)] at f
        obtain ⟨z, a, b⟩ := s.at_ k y e'
        rw [a] at f
        cases f
        obtain ⟨p, ev, hp, _⟩ := b.own_at oy
        obtain ⟨p2, ev2, _, hp2⟩ := h2.own_at o
        rw [ev] at ev2
        cases ev2
        exact hp hp2
theorem Sta.set3 (s : Sta K w G H0 F H σ ρ) (x : Ext G F H F' H') (h0 : ∀ a, H a = none → H0 a = none) {u v z : V} {q r y : EV} (h : Reps K w G H F' H' [u, v, z] [q, r, y]) (hq : keep q = true) (hr : keep r = true) (hy : keep y = true) (i j l : Nat) :
    Sta K w G H0 F' H' (((σ.set i (some u)).set j (some v)).set l (some z)) (((ρ.set i (some q)).set j (some r)).set l (some y)) := by
  have hh := h
  cases h with
  | cons h1 t ap =>
    cases t with
    | cons h2 t2 ap2 =>
      cases t2 with
      | cons h3 t3 ap3 =>
        have s2 := s.set2 x h0 (.cons h1 (.cons h2 .nil (fun _ j u y e => by simp at e)) (fun o j u y e1 e2 oy => by
          cases j with
          | zero => exact ap o 0 u y (by simpa using e1) (by simpa using e2) oy
          | succ j => simp at e1)) hq hr i j
        refine s2.put (h3.start h0) hy l fun o k y' ne e oy f => ?_
        have fin : ∀ {p p2 : V}, p = p2 → p2 ≠ p → False := fun e n => n e.symm
        rcases set_get e with ⟨rfl, e'⟩ | ⟨n2, e'⟩
        · cases e'
          have hl : k < (σ.set i (some u)).length := by
            have := (List.getElem?_eq_some_iff.mp f).1
            rwa [List.length_set] at this
          rw [List.getElem?_set_self hl] at f
          cases f
          exact ap2 oy 0 _ _ rfl rfl o rfl
        · rw [List.getElem?_set_ne (Ne.symm n2)] at f
          rcases set_get e' with ⟨rfl, e''⟩ | ⟨n3, e''⟩
          · cases e''
            have hl : k < σ.length := by
              have := (List.getElem?_eq_some_iff.mp f).1
              rwa [List.length_set] at this
            rw [List.getElem?_set_self hl] at f
            cases f
            exact ap oy 1 _ _ rfl rfl o rfl
          · rw [List.getElem?_set_ne (Ne.symm n3)] at f
            obtain ⟨z', a, b⟩ := s.at_ k y' e''
            rw [a] at f
            cases f
            obtain ⟨p, ev, hp, _⟩ := b.own_at oy
            obtain ⟨p2, ev2, _, hp2⟩ := h3.own_at o
            rw [ev] at ev2
            cases ev2
            exact hp hp2
end
section
variable {S : Sx} {e a b c : Expr} {p pos : Pos} {ta tb : TD} {tA : TAd} {tc : TB} {t u : TSd} {st : Stmt} {rest body : List Stmt}
def sPar (i j : Nat) (tA : TAd) : TSd := fun D ρ => tA ρ fun rs => match rs with
  | [q, r] => keep q = true ∧ keep r = true ∧ D.nx ((ρ.set i (some q)).set j (some r))
  | _ => False
theorem ds_par {x y : Str} {px py pt pt2 : Pos} {kt k2 : Nat} (i j : Nat) (hi : S.N[i]? = some x) (hj : S.N[j]? = some y) (hne : i ≠ j) (hx : S.sc.names.lookup x = some .local) (hy : S.sc.names.lookup y = some .local) (hA : DA S [a, b] tA)
    (h1 : ∀ env : PySem.Env, env.scope = S.sc → swappedStores [.Tuple [.Name x px, .Name y py] kt pt] (.Tuple [a, b] k2 pt2) env = pure (some [x, y]))
    (h2 : ∀ env : PySem.Env, swapsWithSole [.Tuple [.Name x px, .Name y py] kt pt] (.Tuple [a, b] k2 pt2) pos.line env = pure false := by intro _; rfl) :
    DS S (.Assign [.Tuple [.Name x px, .Name y py] kt pt] (.Tuple [a, b] k2 pt2) pos) (sPar i j tA) := by
  obtain ⟨ts, p, q⟩ := hA
  refine ⟨tPar i j ts, fun X c => ps_par c.calm (by rw [c.N]; exact c.nd) (by rw [c.N]; exact hi) (by rw [c.N]; exact hj) hne (by rw [c.sc]; exact hx) (by rw [c.sc]; exact hy) (p X c) (h1 X.env c.sc) (h2 X.env), fun G F0 H0 F H σ ρ D C x s h k => ?_⟩
  refine q G H0 F H σ ρ _ _ x.w s h fun rs vs F1 H1 x1 r1 l1 q1 => ?_
  split at q1
  · rename_i q' r'
    cases r1 with
    | cons h1 t ap =>
      cases t with
      | cons h2 t2 ap2 =>
        cases t2
        exact ⟨_, _, rfl, k.nx _ _ F1 H1 x1.f (x.trans x1) (s.set2 x1 (fun a => x.fresh) (.cons h1 (.cons h2 .nil ap2) ap) q1.1 q1.2.1 i j) q1.2.2⟩
  · exact False.elim q1
/-- the same where a name is a cell: by way of a tuple -/
theorem ds_parC {x y : Str} {px py pt pt2 : Pos} {kt k2 : Nat} (i j : Nat) (hi : S.N[i]? = some x) (hj : S.N[j]? = some y) (hx : L2.Loc S.sc x) (hy : L2.Loc S.sc y) (hA : DA S [a, b] tA)
    (h1 : ∀ env : PySem.Env, env.scope = S.sc → swappedStores [.Tuple [.Name x px, .Name y py] kt pt] (.Tuple [a, b] k2 pt2) env = pure none)
    (h2 : ∀ env : PySem.Env, swapsWithSole [.Tuple [.Name x px, .Name y py] kt pt] (.Tuple [a, b] k2 pt2) pos.line env = pure false := by intro _; rfl)
    (hfx : S.fn x = true ∨ S.sc.names.lookup x = some .local := by first | exact .inl rfl | exact .inr rfl) (hfy : S.fn y = true ∨ S.sc.names.lookup y = some .local := by first | exact .inl rfl | exact .inr rfl) :
    DS S (.Assign [.Tuple [.Name x px, .Name y py] kt pt] (.Tuple [a, b] k2 pt2) pos) (sPar i j tA) := by
  obtain ⟨ts, p, q⟩ := hA
  refine ⟨tAsg (tTup ts) (gTup S.K 2 (gCons (gName i) (gCons (gName j) gNil))), fun X c => ps_asg (pe_tup (p X c)) (by
    rw [← c.K]
    exact pg_tup c.calm (pgs_cons (pg_name (by rw [c.N]; exact c.nd) (by rw [c.N]; exact hi) (by rw [c.sc]; exact hx) (by rw [c.fn, c.sc]; exact hfx)) (pgs_cons (pg_name (by rw [c.N]; exact c.nd) (by rw [c.N]; exact hj) (by rw [c.sc]; exact hy) (by rw [c.fn, c.sc]; exact hfy)) pgs_nil))) (h2 X.env) (h1 X.env c.sc) (by rfl), fun G F0 H0 F H σ ρ D C x s h k => ?_⟩
  refine q G H0 F H σ ρ _ _ x.w s h fun rs vs F1 H1 x1 r1 l1 q1 => ?_
  split at q1
  · rename_i q' r'
    cases r1 with
    | cons h1 t ap =>
      cases t with
      | cons h2 t2 ap2 =>
        cases t2
        rename_i va vb
        refine ⟨by show 2 ≤ sizeLine; decide, fun p hp => ?_⟩
        have x2 := Ext.new x1.w hp (.tup [va, vb])
        refine ⟨p, [_, _], rfl, .inl (.inl upd_same), rfl, _, _, rfl, _, _, rfl, rfl, ?_⟩
        exact k.nx _ _ F1 _ x1.f (x.trans (x1.trans x2)) (s.set2 (x1.trans x2) (fun a => x.fresh) ((Reps.cons h1 (.cons h2 .nil ap2) ap).ext x2) q1.1 q1.2.1 i j) q1.2.2
  · exact False.elim q1
def sPar3 (i j l : Nat) (tA : TAd) : TSd := fun D ρ => tA ρ fun rs => match rs with
  | [q, r, y] => keep q = true ∧ keep r = true ∧ keep y = true ∧ D.nx (((ρ.set i (some q)).set j (some r)).set l (some y))
  | _ => False
theorem ds_par3 {x y z : Str} {px py pz pt pt2 : Pos} {kt k2 : Nat} (i j l : Nat) (hi : S.N[i]? = some x) (hj : S.N[j]? = some y) (hl : S.N[l]? = some z) (hij : i ≠ j) (hil : i ≠ l) (hjl : j ≠ l) (hx : S.sc.names.lookup x = some .local) (hy : S.sc.names.lookup y = some .local) (hz : S.sc.names.lookup z = some .local) (hA : DA S [a, b, c] tA)
    (h1 : ∀ env : PySem.Env, env.scope = S.sc → swappedStores [.Tuple [.Name x px, .Name y py, .Name z pz] kt pt] (.Tuple [a, b, c] k2 pt2) env = pure (some [x, y, z]))
    (h2 : ∀ env : PySem.Env, swapsWithSole [.Tuple [.Name x px, .Name y py, .Name z pz] kt pt] (.Tuple [a, b, c] k2 pt2) pos.line env = pure false := by intro _; rfl) :
    DS S (.Assign [.Tuple [.Name x px, .Name y py, .Name z pz] kt pt] (.Tuple [a, b, c] k2 pt2) pos) (sPar3 i j l tA) := by
  obtain ⟨ts, p, q⟩ := hA
  refine ⟨tPar3 i j l ts, fun X c => ps_par3 c.calm (by rw [c.N]; exact c.nd) (by rw [c.N]; exact hi) (by rw [c.N]; exact hj) (by rw [c.N]; exact hl) hij hil hjl (by rw [c.sc]; exact hx) (by rw [c.sc]; exact hy) (by rw [c.sc]; exact hz) (p X c) (h1 X.env c.sc) (h2 X.env), fun G F0 H0 F H σ ρ D C x s h k => ?_⟩
  refine q G H0 F H σ ρ _ _ x.w s h fun rs vs F1 H1 x1 r1 l1 q1 => ?_
  split at q1
  · have rr := r1
    cases r1 with
    | cons h1 t ap =>
      cases t with
      | cons h2 t2 ap2 =>
        cases t2 with
        | cons h3 t3 ap3 =>
          cases t3
          exact ⟨_, _, _, rfl, k.nx _ _ F1 H1 x1.f (x.trans x1) (s.set3 x1 (fun a => x.fresh) rr q1.1 q1.2.1 q1.2.2.1 i j l) q1.2.2.2⟩
  · exact False.elim q1
end
end DL
set_option Elab.async false
set_option linter.all false
set_option maxRecDepth 100000
set_option maxHeartbeats 1000000
namespace DL
open PySem PySem.Spec PyProof.Rows L2
section
variable {S : Sx} {e a b c : Expr} {p pos : Pos} {ta tb te : TD} {tA : TAd} {tc : TB} {t u : TSd} {st : Stmt} {rest body : List Stmt}
/-! ### in place -/
theorem r2_AddT {S : Sx} : R2Ok S (rCatA S.K) fAddT := by
  intro G H0 H0' F H u v x y Q C W hx hy hf k
  unfold fAddT at hf
  split at hf
  · rename_i xs ys e1 e2
    obtain ⟨p, vs, rfl, hp, rp⟩ := hx.tup W e1
    obtain ⟨q, ws, rfl, hq, rq⟩ := hy.tup W e2
    have l1 := rp.length
    have l2 := rq.length
    refine ⟨p, q, vs, ws, rfl, rfl, hp.sq W.sub, hq.sq W.sub, by omega, fun e => ?_, fun _ e => ?_, fun _ _ t ht => kt W k (rp.append rq) ht hf.2⟩
    · have e' := nil_of_len l1 e
      subst e'
      exact kd W k (Df.tup hq rq) hf.2
    · have e' := nil_of_len l2 e
      subst e'
      have h2 := hf.2
      rw [List.append_nil] at h2
      exact kd W k (Df.tup hp rp) h2
  · exact False.elim hf
theorem r2_ipAdd {S : Sx} : R2Ok S (ipI fun i j => i + j) fAdd := by
  intro G H0 H0' F H u v x y Q C W hx hy hf k
  unfold fAdd fII at hf
  split at hf
  · cases hx; cases hy
    exact ⟨_, _, rfl, rfl, kd W k (.int _) hf⟩
  · exact False.elim hf
theorem r2_ipMul {S : Sx} : R2Ok S (fun x y H Q => ∃ i j, x = .int i ∧ y = .int j ∧ CMul i j ∧ Q (.int (i * j)) H) fMul := by
  intro G H0 H0' F H u v x y Q C W hx hy hf k
  unfold fMul fIC at hf
  split at hf
  · cases hx; cases hy
    exact ⟨_, _, rfl, rfl, hf.1, kd W k (.int _) hf.2⟩
  · exact False.elim hf
def sAug (i : Nat) (f : EV → EV → (EV → Prop) → Prop) (te : TD) : TSd := fun D ρ => match ρ[i]? with
  | some (some x) => te ρ fun y => f (rd x) y fun r => keep r = true ∧ D.nx (ρ.set i (some r))
  | _ => False
theorem ds_aug {x : Str} {pos' : Pos} {op : Operator} {ti : TIp} {f : EV → EV → (EV → Prop) → Prop} (i : Nat) (hN : S.N[i]? = some x) (hl : L2.Loc S.sc x) (ha : DE S e te) (ho : ∀ X, Ctx S X → PIp X op ti) (hr : R2Ok S ti f) (hf : S.fn x = true ∨ S.sc.names.lookup x = some .local := by first | exact .inl rfl | exact .inr rfl) :
    DS S (.AugAssign (.Name x pos') op e pos) (sAug i f te) := by
  obtain ⟨ts, p, q⟩ := ha
  refine ⟨tAug i ts ti, fun X c => ps_aug (by rw [c.N]; exact c.nd) (by rw [c.N]; exact hN) (by rw [c.sc]; exact hl) (p X c) (ho X c) (by rw [c.fn, c.sc]; exact hf), fun G F0 H0 F H σ ρ D C x s h k => ?_⟩
  unfold sAug at h
  split at h
  · rename_i ev ei
    obtain ⟨v, e1, r1⟩ := s.at_ i ev ei
    refine ⟨v, e1, q G H0 F H σ ρ _ _ x.w s h fun r u F1 H1 x1 ru q1 => ?_⟩
    refine hr G H0 H F1 H1 v u (rd ev) r _ _ x1.w (r1.ext x1).rd ru q1 fun z w F2 H2 x2 rz q2 => ?_
    exact k.nx _ _ F2 H2 (x1.f.trans x2.f) ((x.trans x1).trans x2) ((s.ext x1).set x2 (fun a => (x.trans x1).fresh) rz q2.1 i) q2.2
  · exact False.elim h
/-! ### for, while -/
def forGo (tg : TGd) (tb : TSd) (D : DEnds) : List EV → Env → Prop
  | [], ρ => D.nx ρ
  | r :: rs, ρ => tg r ρ fun ρ2 => tb { nx := forGo tg tb D rs, rt := D.rt, bk := D.nx, ct := forGo tg tb D rs } ρ2
def sFor (ti : TId) (tg : TGd) (tb : TSd) : TSd := fun D ρ => ti ρ fun rs => forGo tg tb D rs ρ
theorem ds_for {tg iter : Expr} {ns : List Nat} {g : TGd} {ti : TId} (hi : DI S true tg iter ti) (hg : DG S tg ns g) (hb : DSs S body t) (hs : ∀ (env : PySem.Env) x, foldedSetIterable iter env x = pure x := by intro _ _; rfl) : DS S (.For tg iter body [] pos) (sFor ti g t) := by
  obtain ⟨wi, pi, qi⟩ := hi
  obtain ⟨wg, pg, qg⟩ := hg
  obtain ⟨ts, p, q⟩ := hb
  refine ⟨tFor wi wg ts, fun X c => ps_for (by rw [c.xe]; exact PassesOwn.never) c.calm (pi X c) (pg X c) (p X c) (hs X.env), fun G F0 H0 F H σ ρ D C x s h k => ?_⟩
  refine qi G H0 F H σ ρ _ _ x.w s h fun J rs F1 H1 x1 j1 q1 => ?_
  let St : Nat → L2.St → Hp → Prop := fun i σ H => i ≤ rs.length ∧ ∃ F2 ρ, Sub F1 F2 ∧ Ext G F0 H0 F2 H ∧ Sta S.K S.w G H0 F2 H σ ρ ∧ forGo g t D (rs.drop i) ρ
  refine ⟨fun i m σ H => m = rs.length - i ∧ St i σ H, ⟨_, rfl, Nat.zero_le _, F1, ρ, Sub.rfl', x.trans x1, s.ext x1, q1⟩, ?_⟩
  rintro i m σ2 H2 ⟨rfl, hi, F2, ρ2, sb, x2, s2, q2⟩
  have fr : Fr true G F1 H1 F2 H2 := by simpa [Fr] using ⟨sb, x2.w⟩
  by_cases hlt : i < rs.length
  · obtain ⟨go, yl⟩ := (j1 F2 H2 fr).2 i rs[i] (List.getElem?_eq_getElem hlt)
    rw [List.drop_eq_getElem_cons hlt] at q2
    refine .inr ⟨go, St (i + 1), fun σ' H' n => ⟨_, by omega, rfl, n⟩, fun v H3 y => ?_⟩
    obtain ⟨F3, x3, r3⟩ := yl v H3 y
    refine qg G H0 H2 F3 H3 σ2 ρ2 v (rs[i]) _ _ x3.w (s2.ext x3) r3 q2 fun σ4 ρ4 u4 n4 l4 q4 => ?_
    refine q G F0 H0 F3 H3 σ4 ρ4 _ _ (x2.trans x3) (u4 F3 H3 Sub.rfl' (s2.ext x3)) q4 ⟨fun σ5 ρ5 F5 H5 a x5 s5 h5 => ?_, fun r w F5 H5 a x5 r5 h5 => ?_, fun σ5 ρ5 F5 H5 a x5 s5 h5 => ?_, fun σ5 ρ5 F5 H5 a x5 s5 h5 => ?_⟩
    · exact ⟨hlt, F5, ρ5, (sb.trans x3.f).trans a, x5, s5, h5⟩
    · exact k.rt r w F5 H5 (((x1.f.trans sb).trans x3.f).trans a) x5 r5 h5
    · exact k.nx σ5 ρ5 F5 H5 (((x1.f.trans sb).trans x3.f).trans a) x5 s5 h5
    · exact ⟨hlt, F5, ρ5, (sb.trans x3.f).trans a, x5, s5, h5⟩
  · have e : i = rs.length := by omega
    subst e
    rw [List.drop_length] at q2
    exact .inl ⟨(j1 F2 H2 fr).1 _ (Nat.le_refl _), k.nx σ2 ρ2 F2 H2 (x1.f.trans sb) x2 s2 q2⟩
def sWhile (tc : TB) (tb : TSd) : TSd := fun D ρ => ∃ W : Nat → Env → Prop, (∃ m, W m ρ) ∧ ∀ m ρ, W m ρ → tc ρ fun b => match b with
  | true => ∃ N : Env → Prop, (∀ ρ', N ρ' → ∃ m', m' < m ∧ W m' ρ') ∧ tb { nx := N, rt := D.rt, bk := D.nx, ct := N } ρ
  | false => D.nx ρ
theorem ds_while (hc : DT S c tc) (hb : DSs S body t) : DS S (.While c body [] pos) (sWhile tc t) := by
  obtain ⟨wc, pc, qc⟩ := hc
  obtain ⟨ts, p, q⟩ := hb
  refine ⟨tWhile wc ts, fun X c => ps_while (by rw [c.xe]; exact PassesOwn.never) (pc X c) (p X c), fun G F0 H0 F H σ ρ D C x s h k => ?_⟩
  obtain ⟨W, ⟨m0, w0⟩, turn⟩ := h
  let St : Nat → L2.St → Hp → Prop := fun m σ H => ∃ F2 ρ, Sub F F2 ∧ Ext G F0 H0 F2 H ∧ Sta S.K S.w G H0 F2 H σ ρ ∧ W m ρ
  refine ⟨St, ⟨m0, F, ρ, Sub.rfl', x, s, w0⟩, ?_⟩
  rintro m σ2 H2 ⟨F2, ρ2, sb, x2, s2, w2⟩
  refine qc G H0 F2 H2 σ2 ρ2 _ _ x2.w s2 (turn m ρ2 w2) fun b F3 H3 x3 q3 => ?_
  cases b with
  | false => exact (if_neg Bool.false_ne_true).mpr (k.nx σ2 ρ2 F3 H3 (sb.trans x3.f) (x2.trans x3) (s2.ext x3) q3)
  | true =>
    obtain ⟨N, hN, q4⟩ := q3
    refine (if_pos rfl).mpr ⟨fun σ H => ∃ F2 ρ, Sub F F2 ∧ Ext G F0 H0 F2 H ∧ Sta S.K S.w G H0 F2 H σ ρ ∧ N ρ, fun σ' H' ⟨F5, ρ5, a, b, c, n⟩ => ?_, ?_⟩
    · obtain ⟨m', hm, w'⟩ := hN ρ5 n
      exact ⟨m', hm, F5, ρ5, a, b, c, w'⟩
    · refine q G F0 H0 F3 H3 σ2 ρ2 _ _ (x2.trans x3) (s2.ext x3) q4 ⟨fun σ5 ρ5 F5 H5 a x5 s5 h5 => ?_, fun r w F5 H5 a x5 r5 h5 => ?_, fun σ5 ρ5 F5 H5 a x5 s5 h5 => ?_, fun σ5 ρ5 F5 H5 a x5 s5 h5 => ?_⟩
      · exact ⟨F5, ρ5, (sb.trans x3.f).trans a, x5, s5, h5⟩
      · exact k.rt r w F5 H5 ((sb.trans x3.f).trans a) x5 r5 h5
      · exact k.nx σ5 ρ5 F5 H5 ((sb.trans x3.f).trans a) x5 s5 h5
      · exact ⟨F5, ρ5, (sb.trans x3.f).trans a, x5, s5, h5⟩
/-! ### what is one's own is changed -/
/-- a list of one's own gets new items -/
theorem Sta.relist {K : PySem.W.Frag} {w : World} {G : Gp} {F0 H0 F H : Hp} {σ : L2.St} {ρ : Env} {i : Nat} {xs ys : List PyData} {p : Addr} {vs ws : List V} (x : Ext G F0 H0 F H) (s : Sta K w G H0 F H σ ρ) (e : ρ[i]? = some (some (.o xs))) (f : σ[i]? = some (some (.ref p))) (hp : H p = some (.lst vs)) (h0 : H0 p = none) (hf : F p = none) (hg : ¬ inG G p)
    (hd : DfA F ws ys) : Ext G F0 H0 F (upd H p (.lst ws)) ∧ Sta K w G H0 F (upd H p (.lst ws)) σ (ρ.set i (some (.o ys))) := by
  refine ⟨x.re h0 hf hg, s.mutate e rfl f ⟨p, ws, rfl, hg, upd_same, hd, h0, hf⟩ (fun q u hq hu z => ?_) rfl⟩
  subst z
  rw [hp] at hq
  cases hq
  rcases hu with ⟨_, h⟩ | ⟨_, _, _, h⟩ | ⟨_, _, h⟩ <;> cases h
def sApp (i : Nat) (te : TD) : TSd := fun D ρ => match ρ[i]? with
  | some (some (.o xs)) => te ρ fun y => match frz y with
    | some d => xs.length < 1000 ∧ D.nx (ρ.set i (some (.o (xs ++ [d]))))
    | none => False
  | _ => False
end
/-- a call of a method of a list that stands in a slot -/
abbrev mcall (x : Str) (px : Pos) (m : Str) (apos : Pos) (es : List Expr) (cpos : Pos) : Expr := .Call (.Attribute (.Name x px) m apos) es [] cpos
theorem few_args {e : Expr} {cpos : Pos} (h : ∀ env : PySem.Env, starEach [e] env = (false, eval e env) :: starEach [] env) (env : PySem.Env) : ((backTo cpos (starEach [e] env)).all (fun x => !x.1) && (backToKw cpos (keywordEach [] env)).all (fun x => x.1.isSome)
      && decide ([e].length + ([] : List Keyword).length + (if ([] : List Keyword).isEmpty then 0 else 1) < 30)) = true := by
  rw [h env]
  rfl
section
variable {S : Sx} {e a b c : Expr} {p pos px apos cpos : Pos} {ta tb te : TD} {tA : TAd} {tc : TB} {t u : TSd} {st : Stmt} {rest body : List Stmt} {x : Str}
theorem bm_at {T id : String} {m : Str} {r : V → List V → Hp → VK → Prop} {u1 : TA} (pa : PlainAttrs T) (slot : Slot T m id) (hty : typeOf (.builtin id) = pure (.type "method_descriptor")) (hm : ∀ X, Ctx S X → MtR X id r) (i : Nat) (hN : S.N[i]? = some x) (hv : Vis S.sc x)
    (hd : (x == ("__debug__" : Str)) = false) (hcd : (x == ("__classdict__" : Str)) = false) (p1 : ∀ X, Ctx S X → PA X [e] u1) (hs : ∀ env : PySem.Env, starEach [e] env = (false, eval e env) :: starEach [] env) (hline : (apos.endLine == cpos.line) = true) (X : Cx) (c : Ctx S X) :
    PE X (mcall x px m apos [e] cpos) (tBM S.K T r (tVar i) u1) := by
  rw [← c.K]
  exact pe_bm pa slot hty (hm X c) (pe_var (i := i) (by rw [c.N]; exact hN) (by rw [c.sc]; exact hv) hd hcd) (p1 X c) (by rfl) (few_args hs X.env) hline (hs X.env) (by rfl)
theorem ds_app (i : Nat) (hN : S.N[i]? = some x) (hv : Vis S.sc x) (he : DE S e te) (hd : (x == ("__debug__" : Str)) = false := by decide) (hcd : (x == ("__classdict__" : Str)) = false := by decide) (hline : (apos.endLine == cpos.line) = true := by rfl)
    (hs : ∀ env : PySem.Env, starEach [e] env = (false, eval e env) :: starEach [] env := by intro _; rfl) (hsw : ∀ (X : Cx), swapsWith (mcall x px "append" apos [e] cpos) none pos.line X.env = pure false := by intro _; rfl) :
    DS S (.Expr (mcall x px "append" apos [e] cpos) pos) (sApp i te) := by
  obtain ⟨u1, p1, h1⟩ := da_cons he da_nil hs
  refine ⟨tDrop (tBM S.K "list" rAppend (tVar i) u1), fun X c => ps_expr (bm_at PySem.F.plainAttrs_list PySem.F.slot_list_append PySem.F.type_list_append (fun X c => mt_append) i hN hv hd hcd p1 hs hline X c) (hsw X), ?_⟩
  intro G F0 H0 F H σ ρ D C x s h k
  unfold sApp at h
  split at h
  · rename_i xs ei
    obtain ⟨v, e1, p, vs, rfl, g, hp, hd, hh0, hf⟩ := s.at_ i _ ei
    refine ⟨_, e1, .inl ⟨rfl, vs, SqL.of hp⟩, ?_⟩
    refine h1 G H0 F H σ ρ (fun rs => match rs with
      | [y] => (match frz y with
        | some d => xs.length < 1000 ∧ D.nx (ρ.set i (some (.o (xs ++ [d]))))
        | none => False)
      | _ => False) _ x.w s h fun rs ws F1 H1 x1 r1 l1 q1 => ?_
    dsimp only at q1
    split at q1
    · rename_i y
      split at q1
      · rename_i d ed
        cases r1 with
        | cons r t ap =>
          cases t
          obtain ⟨F2, x2, s2, r2, n2⟩ := r.freeze x1 ed
          have hp2 : H1 p = some (.lst vs) := x2.h _ _ hp g
          have hf2 : F2 p = none := x2.fnone (some_ne hp) hf
          have hlen := hd.length
          refine ⟨p, vs, _, rfl, rfl, hp2, by rw [hlen]; exact Nat.lt_of_lt_of_le q1.1 (few (Nat.le_refl _)), ?_⟩
          obtain ⟨x3, s3⟩ := Sta.relist (x.trans x2) (s.ext x2) ei e1 hp2 hh0 hf2 g ((DfA.mono x2.f hd).append (.cons r2 .nil))
          exact k.nx _ _ F2 _ x2.f x3 s3 q1.2
      · exact False.elim q1
    · exact False.elim q1
  · exact False.elim h
/-- xs.remove(n) -/
def sRem (i : Nat) (te : TD) : TSd := fun D ρ => match ρ[i]? with
  | some (some (.o xs)) => te ρ fun y => match y with
    | .d (.int k) => ∃ ns, intsOf xs = some ns ∧ k ∈ ns ∧ D.nx (ρ.set i (some (.o ((ns.erase k).map .int))))
    | _ => False
  | _ => False
theorem first_at {ns : List Int} {k : Int} (h : k ∈ ns) : ∃ j, ns[j]? = some k ∧ (∀ m, m < j → ns[m]? ≠ some k) ∧ ns.eraseIdx j = ns.erase k := by
  induction ns with
  | nil => cases h
  | cons n ns ih =>
    by_cases e : n = k
    · subst e
      exact ⟨0, rfl, fun m hm => absurd hm (Nat.not_lt_zero _), by simp⟩
    · obtain ⟨j, h1, h2, h3⟩ := ih ((List.mem_cons.mp h).resolve_left (Ne.symm e))
      refine ⟨j + 1, by simpa using h1, fun m hm => ?_, ?_⟩
      · cases m with
        | zero => simpa using e
        | succ m => simpa using h2 m (by omega)
      · rw [List.eraseIdx_cons_succ, h3, List.erase_cons_tail (by simpa using e)]
theorem ds_rem (i : Nat) (hN : S.N[i]? = some x) (hv : Vis S.sc x) (he : DE S e te) (hd : (x == ("__debug__" : Str)) = false := by decide) (hcd : (x == ("__classdict__" : Str)) = false := by decide) (hline : (apos.endLine == cpos.line) = true := by rfl)
    (hs : ∀ env : PySem.Env, starEach [e] env = (false, eval e env) :: starEach [] env := by intro _; rfl) (hsw : ∀ (X : Cx), swapsWith (mcall x px "remove" apos [e] cpos) none pos.line X.env = pure false := by intro _; rfl) :
    DS S (.Expr (mcall x px "remove" apos [e] cpos) pos) (sRem i te) := by
  obtain ⟨u1, p1, h1⟩ := da_cons he da_nil hs
  refine ⟨tDrop (tBM S.K "list" rRemI (tVar i) u1), fun X c => ps_expr (bm_at PySem.F.plainAttrs_list PySem.F.slot_list_remove PySem.F.type_list_remove (fun X c => mt_remove) i hN hv hd hcd p1 hs hline X c) (hsw X), ?_⟩
  intro G F0 H0 F H σ ρ D C x s h k
  unfold sRem at h
  split at h
  · rename_i xs ei
    obtain ⟨v, e1, p, vs, rfl, g, hp, hd, hh0, hf⟩ := s.at_ i _ ei
    refine ⟨_, e1, .inl ⟨rfl, vs, SqL.of hp⟩, ?_⟩
    refine h1 G H0 F H σ ρ (fun rs => match rs with
      | [y] => (match y with
        | .d (.int k) => ∃ ns, intsOf xs = some ns ∧ k ∈ ns ∧ D.nx (ρ.set i (some (.o ((ns.erase k).map .int))))
        | _ => False)
      | _ => False) _ x.w s h fun rs ws F1 H1 x1 r1 l1 q1 => ?_
    dsimp only at q1
    split at q1
    · rename_i y
      split at q1
      · rename_i n
        cases r1 with
        | cons r t ap =>
          cases t
          cases r
          obtain ⟨ns, en, hn, q⟩ := q1
          have en := intsOf_eq en
          subst en
          have ev := hd.ints
          subst ev
          have hp2 : H1 p = some _ := x1.h _ _ hp g
          have hf2 : F1 p = none := x1.fnone (some_ne hp) hf
          obtain ⟨j, j1, j2, j3⟩ := first_at hn
          refine ⟨p, ns, n, j, rfl, rfl, hp2, j1, j2, ?_⟩
          rw [j3]
          obtain ⟨x3, s3⟩ := Sta.relist (x.trans x1) (s.ext x1) ei e1 hp2 hh0 hf2 g (DfA.of_ints (ns.erase n))
          exact k.nx _ _ F1 _ x1.f x3 s3 q
      · exact False.elim q1
    · exact False.elim q1
  · exact False.elim h
/-- xs.add(n) -/
def sAdd (i : Nat) (te : TD) : TSd := fun D ρ => match ρ[i]? with
  | some (some (.s ns)) => te ρ fun y => match y with
    | .d (.int k) => ns.length < 1000 ∧ D.nx (ρ.set i (some (.s (addN ns k))))
    | _ => False
  | _ => False
theorem ds_add (i : Nat) (hN : S.N[i]? = some x) (hv : Vis S.sc x) (he : DE S e te) (hd : (x == ("__debug__" : Str)) = false := by decide) (hcd : (x == ("__classdict__" : Str)) = false := by decide) (hline : (apos.endLine == cpos.line) = true := by rfl)
    (hs : ∀ env : PySem.Env, starEach [e] env = (false, eval e env) :: starEach [] env := by intro _; rfl) (hsw : ∀ (X : Cx), swapsWith (mcall x px "add" apos [e] cpos) none pos.line X.env = pure false := by intro _; rfl) :
    DS S (.Expr (mcall x px "add" apos [e] cpos) pos) (sAdd i te) := by
  obtain ⟨u1, p1, h1⟩ := da_cons he da_nil hs
  refine ⟨tDrop (tSAdd S.w (tVar i) u1), fun X c => ps_expr (by rw [← c.w]; exact pe_sadd (pe_var (i := i) (by rw [c.N]; exact hN) (by rw [c.sc]; exact hv) hd hcd) (p1 X c) (by rfl) (few_args hs X.env) hline (hs X.env) (by rfl)) (hsw X), ?_⟩
  intro G F0 H0 F H σ ρ D C x s h k
  unfold sAdd at h
  split at h
  · rename_i ns ei
    obtain ⟨v, e1, p, rfl, g, hp, nd, hh0, hf⟩ := s.at_ i _ ei
    refine ⟨_, e1, ⟨p, _, _, rfl, hp⟩, ?_⟩
    refine h1 G H0 F H σ ρ (fun rs => match rs with
      | [y] => (match y with
        | .d (.int k) => ns.length < 1000 ∧ D.nx (ρ.set i (some (.s (addN ns k))))
        | _ => False)
      | _ => False) _ x.w s h fun rs ws F1 H1 x1 r1 l1 q1 => ?_
    dsimp only at q1
    split at q1
    · rename_i y
      split at q1
      · rename_i n
        cases r1 with
        | cons r t ap =>
          cases t
          cases r
          have hp2 : H1 p = some _ := x1.h _ _ hp g
          have hf2 : F1 p = none := x1.fnone (some_ne hp) hf
          refine ⟨p, n, _, _, rfl, rfl, hp2, by have := q1.1; show ns.length + 1 < 4096; omega, ?_⟩
          rw [addN_setO]
          refine k.nx _ _ F1 _ x1.f ((x.trans x1).re hh0 hf2 g) ((s.ext x1).mutate (y := .s (addN ns n)) ei rfl e1 ⟨p, rfl, g, upd_same, addN_nodup nd, hh0, hf2⟩ (fun q u hq hu z => ?_) rfl) q1.2
          subst z
          rw [hp2] at hq
          cases hq
          rcases hu with ⟨_, h⟩ | ⟨_, _, _, h⟩ | ⟨_, _, h⟩ <;> cases h
      · exact False.elim q1
    · exact False.elim q1
  · exact False.elim h
/-- xs.append(ys.pop(n)) -/
def sAppPop (i j : Nat) (te : TD) : TSd := fun D ρ => match ρ[i]?, ρ[j]? with
  | some (some (.o xs)), some (some (.o ys)) => te ρ fun y => match y with
    | .d (.int n) => 0 ≤ n ∧ xs.length < 1000 ∧ ys.length < 1000 ∧ ∃ d, ys[n.toNat]? = some d ∧ D.nx ((ρ.set j (some (.o (ys.eraseIdx n.toNat)))).set i (some (.o (xs ++ [d]))))
    | _ => False
  | _, _ => False
theorem DfA.eraseIdx {F : Hp} : ∀ {vs : List V} {ds : List PyData} (i : Nat), DfA F vs ds → DfA F (vs.eraseIdx i) (ds.eraseIdx i)
  | _, _, _, .nil => .nil
  | _, _, 0, .cons _ t => t
  | _, _, i + 1, .cons h t => .cons h (DfA.eraseIdx i t)
theorem ds_appPop {z : Str} {pz apos2 cpos2 : Pos} (i j : Nat) (hij : i ≠ j) (hN : S.N[i]? = some x) (hv : Vis S.sc x) (hN2 : S.N[j]? = some z) (hv2 : Vis S.sc z) (he : DE S e te) (hd : (x == ("__debug__" : Str)) = false := by decide) (hcd : (x == ("__classdict__" : Str)) = false := by decide) (hline : (apos.endLine == cpos.line) = true := by rfl)
    (hd2 : (z == ("__debug__" : Str)) = false := by decide) (hcd2 : (z == ("__classdict__" : Str)) = false := by decide) (hline2 : (apos2.endLine == cpos2.line) = true := by rfl)
    (hs : ∀ env : PySem.Env, starEach [e] env = (false, eval e env) :: starEach [] env := by intro _; rfl) (hs2 : ∀ env : PySem.Env, starEach [mcall z pz "pop" apos2 [e] cpos2] env = (false, eval (mcall z pz "pop" apos2 [e] cpos2) env) :: starEach [] env := by intro _; rfl)
    (hsw : ∀ (X : Cx), swapsWith (mcall x px "append" apos [mcall z pz "pop" apos2 [e] cpos2] cpos) none pos.line X.env = pure false := by intro _; rfl) :
    DS S (.Expr (mcall x px "append" apos [mcall z pz "pop" apos2 [e] cpos2] cpos) pos) (sAppPop i j te) := by
  obtain ⟨u1, p1, h1⟩ := da_cons he da_nil hs
  refine ⟨tDrop (tBM S.K "list" rAppend (tVar i) (tCons (tBM S.K "list" rPopAt (tVar j) u1) tNil)), fun X c => ps_expr (bm_at PySem.F.plainAttrs_list PySem.F.slot_list_append PySem.F.type_list_append (fun X c => mt_append) i hN hv hd hcd
    (fun X c => pa_cons (bm_at PySem.F.plainAttrs_list PySem.F.slot_list_pop PySem.F.type_list_pop (fun X c => mt_popAt) j hN2 hv2 hd2 hcd2 p1 hs hline2 X c) pa_nil (hs2 X.env)) hs2 hline X c) (hsw X), ?_⟩
  intro G F0 H0 F H σ ρ D C x s h k
  unfold sAppPop at h
  split at h
  · rename_i xs ys ei ej
    obtain ⟨v, e1, p, vs, rfl, g, hp, hd, hh0, hf⟩ := s.at_ i _ ei
    obtain ⟨v2, e2, p2, vs2, rfl, g2, hp2, hd2, hh2, hf2⟩ := s.at_ j _ ej
    have npp : p ≠ p2 := fun z => by subst z; exact s.one i j p _ _ hij ei rfl ej rfl e1 e2
    refine ⟨_, e1, .inl ⟨rfl, vs, SqL.of hp⟩, _, e2, .inl ⟨rfl, vs2, SqL.of hp2⟩, ?_⟩
    refine h1 G H0 F H σ ρ (fun rs => match rs with
      | [y] => (match y with
        | .d (.int n) => 0 ≤ n ∧ xs.length < 1000 ∧ ys.length < 1000 ∧ ∃ d, ys[n.toNat]? = some d ∧ D.nx ((ρ.set j (some (.o (ys.eraseIdx n.toNat)))).set i (some (.o (xs ++ [d]))))
        | _ => False)
      | _ => False) _ x.w s h fun rs ws F1 H1 x1 r1 l1 q1 => ?_
    dsimp only at q1
    split at q1
    · rename_i y
      split at q1
      · rename_i n
        cases r1 with
        | cons r t ap =>
          cases t
          cases r
          obtain ⟨n0, lx, ly, d, ed, q⟩ := q1
          have a1 : H1 p = some (.lst vs) := x1.h _ _ hp g
          have b1 : F1 p = none := x1.fnone (some_ne hp) hf
          have a2 : H1 p2 = some (.lst vs2) := x1.h _ _ hp2 g2
          have b2 : F1 p2 = none := x1.fnone (some_ne hp2) hf2
          obtain ⟨v, ev, dv⟩ := (DfA.mono x1.f hd2).get ed
          have hl := hd2.length
          have hl1 := hd.length
          have hn : n.toNat < vs2.length := (List.getElem?_eq_some_iff.mp ev).1
          refine ⟨p2, vs2, n, n.toNat, v, rfl, rfl, a2, by omega, by omega, ?_, ev, ?_⟩
          · exact (ixN_seq (j := n.toNat) (by unfold ixN; rw [if_pos n0, if_pos (by omega)])).1
          obtain ⟨x3, s3⟩ := Sta.relist (x.trans x1) (s.ext x1) ej e2 a2 hh2 b2 g2 (DfA.eraseIdx n.toNat (DfA.mono x1.f hd2))
          refine ⟨p, vs, v, rfl, rfl, by rw [upd_ne npp]; exact a1, by rw [hl1]; exact Nat.lt_of_lt_of_le lx (few (Nat.le_refl _)), ?_⟩
          obtain ⟨x4, s4⟩ := Sta.relist x3 s3 (by rw [List.getElem?_set_ne (Ne.symm hij)]; exact ei) e1 (by rw [upd_ne npp]; exact a1) hh0 b1 g ((DfA.mono x1.f hd).append (.cons dv .nil))
          exact k.nx _ _ F1 _ x1.f x4 s4 q
      · exact False.elim q1
    · exact False.elim q1
  · exact False.elim h
/-! ### a list of one's own stands still from here on -/
def sFrz (i : Nat) (t : TSd) : TSd := fun D ρ => match ρ[i]? with
  | some (some (.o xs)) => t D (ρ.set i (some (.d (.list xs))))
  | _ => t D ρ
theorem Sta.frz {K : PySem.W.Frag} {w : World} {G : Gp} {H0 F H : Hp} {σ : L2.St} {ρ : Env} {i : Nat} {xs : List PyData} {p : Addr} {vs : List V} (s : Sta K w G H0 F H σ ρ) (e : ρ[i]? = some (some (.o xs))) (f : σ[i]? = some (some (.ref p))) (hd : DfA F vs xs) (hf : F p = none) :
    Sta K w G H0 (upd F p (.lst vs)) H σ (ρ.set i (some (.d (.list xs)))) := by
  have s1 : Sub F (upd F p (.lst vs)) := sub_upd hf
  have hi : i < ρ.length := (List.getElem?_eq_some_iff.mp e).1
  refine ⟨by rw [List.length_set]; exact s.len, fun j ev e2 => ?_, fun j ev e2 => ?_, fun j k q a b ne e1 o1 e2 o2 f1 f2 => ?_⟩
  · rcases set_get e2 with ⟨rfl, e'⟩ | ⟨n2, e'⟩
    · cases e'
      exact ⟨_, f, Df.lst upd_same (DfA.mono s1 hd)⟩
    · obtain ⟨u, a, b⟩ := s.at_ j ev e'
      exact ⟨u, a, b.frzStep s1 fun o z => by subst z; exact s.one i j p _ _ (Ne.symm n2) e rfl e' o f a⟩
  · rcases set_get e2 with ⟨rfl, e'⟩ | ⟨n2, e'⟩
    · cases e'; rfl
    · exact s.nol j ev e'
  · rcases set_get e1 with ⟨rfl, e'⟩ | ⟨n2, e'⟩
    · cases e'; cases o1
    · rcases set_get e2 with ⟨rfl, e''⟩ | ⟨n3, e''⟩
      · cases e''; cases o2
      · exact s.one j k q a b ne e' o1 e'' o2 f1 f2
theorem dss_frz {sts : List Stmt} (i : Nat) (h : DSs S sts t) : DSs S sts (sFrz i t) := by
  obtain ⟨ts, p, q⟩ := h
  refine ⟨ts, p, fun G F0 H0 F H σ ρ D C x s h k => ?_⟩
  unfold sFrz at h
  split at h
  · rename_i xs ei
    obtain ⟨v, e1, a, vs, rfl, g, hp, hd, hh0, hf⟩ := s.at_ i _ ei
    exact q G F0 H0 _ H σ _ D C (x.frz hh0 hp g) (s.frz ei e1 hd hf) h (k.then (sub_upd hf))
  · exact q G F0 H0 F H σ ρ D C x s h k
end
end DL
set_option Elab.async false
set_option linter.all false
set_option maxRecDepth 100000
set_option maxHeartbeats 1000000
namespace DL
open PySem PySem.Spec PyProof.Rows L2
/-! ### defs, with the guards in sight -/
abbrev E0' : XK := fun _ _ _ => False
structure FnGd (P : Program) (w : World) (K : PySem.W.Frag) (mg : Str → Option Value) (base : Heap) (k : Nat) (f : Addr) (fd : FuncData) (ps : List Str) (sp : Sp) : Prop where
  len : ∀ vs H Q E, sp vs H Q E → vs.length = ps.length
  run : ∀ (A : Around) (outer : List PySem.Env) (s : Shared) (H : Hp) (args : Args) (us : List Value) (vs : List V) (Q : VK), Room k A → A.guards = some [] → Env0 P w K mg base A outer s H → BindsTo s fd args (ps.zip us) → Vals vs us → sp vs H Q E0' →
    codeAny (model P w) A (.call (.ref f) args) (CR CX0 outer P w H s Q E0') s
theorem fnGd_of {P : Program} {w : World} {K : PySem.W.Frag} {mg : Str → Option Value} {base : Heap} {k : Nat} {x qual : Str} {params : Arguments} {body : List Stmt} {scope : Scope} {dvs : List V} {kws : List (Str × V)} {f : Addr} {fd : FuncData}
    {N ps : List Str} {sp : Sp} (F : FunD K x qual params body scope dvs kws f fd) (S : FnScope N ps scope) (len : ∀ vs H Q E, sp vs H Q E → vs.length = ps.length)
    (hbody : ∀ (cdv : Value) (A : Around) (outer : List PySem.Env) (s : Shared) (H : Hp) (vs : List V) (Q : VK), PySem.W.codeIn K cdv qual = true → Room k (A.deeper (envOfC qual scope s.heap.objs.size f cdv)) → A.guards = some [] → sp vs H Q E0' →
      ∃ t, PSs (cxOf CX0 P w K mg base N qual scope f cdv A outer s H E0').nox body t ∧ t { nx := fun _ H' => Q .non H', rt := Q } (start N vs) H) : FnGd P w K mg base (k + 1) f fd ps sp := by
  obtain ⟨oc, od, dV, kV, doc, pm, an, cdv, ct, osl, rfl, lk, hcd, _, _⟩ := F.ex
  refine ⟨len, fun A outer s H args us vs Q hr hgd e0 hb r hsp => ?_⟩
  have KX : K.In s.heap := e0.mod.kin.keeps fun b o e => (e0.bs b o e).1
  have lim : s.heap.NoLimit := e0.mod.nolimit.keeps fun b o e => (e0.bs b o e).1
  have bound : ∀ y ∈ ps.zip us, scope.names.lookup y.1 = some .local ∨ (scope.names.lookup y.1 = some .cell ∧ ((cellsFrom (s.heap.objs.size + 1) scope.names []).lookup y.1).isSome = true) := fun y hy =>
    (S.par y.1 (List.of_mem_zip (a := y.1) (b := y.2) hy).1).imp id fun q => ⟨q, PySem.W.cellsFrom_some _ _ _ (.inl q)⟩
  refine codeAny_call_function hr.depth (KX _ _ lk) rfl S.co S.gen rfl (PySem.W.codeRec_of KX hcd) (hb _ _ _ _ ?_)
  refine wpAny_newFunctionEnv_cells S.kind bound fun env he s1 entered => ?_
  subst he
  refine ⟨lim.keeps entered.toInCall.keep, codeAny_func ?_⟩
  obtain ⟨t, ht, hq⟩ := hbody cdv A outer s H vs Q hcd (hr.deeper _) hgd hsp
  have I := inv_start (CX := CX0) (E := E0') S hr.hd e0 (len _ _ _ _ hsp) r entered
  have close : ∀ {τ : L2.St} {H' : Hp} {v : V} {u : Value} {s' : Shared}, Inv (cxOf CX0 P w K mg base N qual scope f cdv A outer s H E0') [] τ H' s' → RelV v u → Q v H' → CE outer P w H s Q u s' := fun J rv q => ⟨_, _, J.os, J.bare, J.base, J.hok, rv, q⟩
  refine wpAny_mono (ht.nox.run [] s1 (start N vs) H _ I hq) (fun fl s' hs => ?_) fun e s' hs => hs
  cases fl with
  | ret u =>
    obtain ⟨v, τ, H', J, rv, q⟩ := hs
    exact close J rv q
  | next =>
    obtain ⟨τ, H', J, q⟩ := hs
    exact close (v := V.non) (u := Value.none) J rfl q
  | brk =>
    obtain ⟨_, _, _, q⟩ := hs
    exact False.elim q
  | cont =>
    obtain ⟨_, _, _, q⟩ := hs
    exact False.elim q
/-! ### calls of them -/
section
variable {X : Cx} {k : Nat} {f C : Addr} {fd : FuncData} {ps ks : List Str} {sp : Sp} {x : Str} {p pos : Pos} {e : Expr} {es : List Expr} {kws : List Keyword} {t tk : TA}
theorem run_G {pins : List (Addr × Obj)} {σ : L2.St} {H : Hp} {s : Shared} {Q : VK} {args : Args} {us : List Value} {vs : List V} (F : FnGd X.prog X.w X.K X.mg X.base k f fd ps sp) (hr : Room k X.A) (hg : X.A.guards = some []) (I : Inv X pins σ H s) (hb : BindsTo s fd args (ps.zip us)) (r : Vals vs us)
    (h : sp vs H Q E0') : codeAny (model X.prog X.w) X.A (.call (.ref f) args) (fun r s' => match r with
      | .ok (.ret u) => EP X pins σ Q u s'
      | _ => False) s :=
  codeAny_mono (F.run X.A X.stack s H args us vs Q hr hg I.env0 hb r h) fun r s' hq => by
    cases r with
    | error e => exact hq
    | ok fl => cases fl with
      | ret u => exact I.after hq
      | next => exact hq
      | brk => exact hq
      | cont => exact hq
theorem fin_G {pins : List (Addr × Obj)} {σ : L2.St} {Q : VK} {s : Shared} {f : Addr} {us : List Value} {kw : List (Str × Value)} (h : codeAny (model X.prog X.w) X.A (.call (.ref f) ⟨us, kw⟩) (fun r s' => match r with
      | .ok (.ret u) => EP X pins σ Q u s'
      | _ => False) s) : wpAny (model X.prog X.w) X.A (call (.ref f) us kw) (EP X pins σ Q) X.xe s :=
  wpAny_call (codeAny_mono h fun r s' hq => by
    cases r with
    | error e => exact hq.elim
    | ok fl => cases fl with
      | ret u => exact hq
      | next => exact hq.elim
      | brk => exact hq.elim
      | cont => exact hq.elim)
/-- f(e, ..) -/
theorem pe_callG (F : FnGd X.prog X.w X.K X.mg X.base k f fd ps sp) (hr : Room k X.A) (hgd : X.A.guards = some []) (hg : Gl X x) (hm : X.mg x = some (.ref f)) (hk : PySem.W.keepIn X.K (.ref f) = true) (hb : Binds X.K fd ps [])
    (ha : PA X (e :: es) t) (hdb : (x == ("__debug__" : Str)) = false) (he : starEach (e :: es) X.env = (false, eval e X.env) :: starEach es X.env) (hpl : (backTo pos (starEach es X.env)).any (·.1) = false) :
    PE X (.Call (.Name x p) (e :: es) [] pos) (tCall sp [] E0' t) := by
  refine ⟨fun pins s σ H Q I h => wpAny_Call_Name_kw (ld_glob I hg hm ?_ hdb)⟩
  refine PySem.W.callWith_K (h₀ := X.base) I.ok.mod.kin hk (thn (ha.run pos pins s σ H _ I h) fun us s1 ⟨vs, H1, I1, r, q⟩ => ⟨I1.kIn, ?_⟩) he hpl
  have r2 : Vals (vs ++ []) (us ++ []) := r.append .nil
  have hl : (us ++ ([] : List Value)).length = ps.length := by rw [← r2.length]; exact F.len _ _ _ _ q
  exact fin_G (run_G F hr hgd I1 (hb s1 us I1.kIn hl) r2 q)
/-- f(.., b = v, a = u): every parameter by its name, from the last to the first -/
def RBinds (K : PySem.W.Frag) (fd : FuncData) (ps : List Str) : Prop := ∀ (s : Shared) (ws : List Value), K.In s.heap → ws.length = ps.length → BindsTo s fd ⟨[], ps.reverse.zip ws⟩ (ps.zip ws.reverse)
def tCallR (sp : Sp) (tk : TA) : TE := fun σ H Q => tk σ H fun zs H2 => sp zs.reverse H2 Q E0'
theorem Vals.rev : ∀ {vs : List V} {us : List Value}, Vals vs us → Vals vs.reverse us.reverse
  | _, _, .nil => .nil
  | _, _, .cons r t => by
    rw [List.reverse_cons, List.reverse_cons]
    exact Vals.append (Vals.rev t) (.cons r .nil)
theorem pe_callR (F : FnGd X.prog X.w X.K X.mg X.base k f fd ps sp) (hr : Room k X.A) (hgd : X.A.guards = some []) (hg : Gl X x) (hm : X.mg x = some (.ref f)) (hk : PySem.W.keepIn X.K (.ref f) = true) (hb : RBinds X.K fd ps)
    (hkw : PK X kws tk) (hall : (backToKw pos (keywordEach kws X.env)).all (·.1.isSome) = true) (hks : (backToKw pos (keywordEach kws X.env)).filterMap (·.1) = ps.reverse)
    (hdb : (x == ("__debug__" : Str)) = false) (hpl : ((backTo pos (starEach [] X.env)).any (·.1) || (backToKw pos (keywordEach kws X.env)).any (·.1.isNone)) = false) :
    PE X (.Call (.Name x p) [] kws pos) (tCallR sp tk) := by
  refine ⟨fun pins s σ H Q I h => wpAny_Call_Name_kw (ld_glob I hg hm ?_ hdb)⟩
  refine PySem.W.callWith_KW0 (h₀ := X.base) (first := []) I.ok.mod.kin hk hall (thn (hkw.run pos pins s σ H _ I h) fun ws s2 ⟨zs, H2, I2, rz, q2⟩ => ⟨I2.kIn, ?_⟩) hpl
  rw [hks]
  have r2 := Vals.rev rz
  have hl : ws.length = ps.length := by
    have := F.len _ _ _ _ q2
    rw [← this, r2.length, List.length_reverse]
  exact fin_G (run_G F hr hgd I2 (hb s2 ws I2.kIn hl) r2 q2)
/-- C(e, ..) -/
def tMakeG (C : Addr) (sp : Sp) (t : TA) : TE := fun σ H Q => t σ H fun vs H1 => ∀ x dx, H1 x = none → H1 dx = none → dx ≠ x → sp (.ref x :: vs) (upd (upd H1 dx (.own x)) x (.ins C dx [])) (fun v H2 => v = .non ∧ Q (.ref x) H2) E0'
theorem make_guards {A : Around} {C : Addr} {us : List Value} {kw : List (Str × Value)} (h : A.guards = some []) : (A.under (.builtin "type.__call__" ⟨.ref C :: us, kw⟩)).guards = some [] := by
  have e : (A.under (.builtin "type.__call__" ⟨.ref C :: us, kw⟩)).guards = A.guards := by
    first | rfl | simp [Around.under, Code.guards, Code.isGuard, guardIds, pushGuards]
  rw [e, h]
theorem pe_makeG (M : Mk X.K C f) (F : FnGd X.prog X.w X.K X.mg X.base k f fd ps sp) (hr : Room (k + 1) X.A) (hgd : X.A.guards = some []) (hg : Gl X x) (hm : X.mg x = some (.ref C)) (hb : Binds X.K fd ps [])
    (ha : PA X (e :: es) t) (hdb : (x == ("__debug__" : Str)) = false) (he : starEach (e :: es) X.env = (false, eval e X.env) :: starEach es X.env) (hpl : (backTo pos (starEach es X.env)).any (·.1) = false) :
    PE X (.Call (.Name x p) (e :: es) [] pos) (tMakeG C sp t) := by
  refine ⟨fun pins s σ H Q I h => wpAny_Call_Name_kw (ld_glob I hg hm ?_ hdb)⟩
  refine PySem.W.callWith_K (h₀ := X.base) I.ok.mod.kin M.kp (thn (ha.run pos pins s σ H _ I h) fun us s1 ⟨vs, H1, I1, r, q⟩ => ⟨I1.kIn, ?_⟩) he hpl
  have hq := q (s1.heap.objs.size + 1) s1.heap.objs.size (I1.hok.fresh (Nat.le_succ _)) (I1.hok.fresh (Nat.le_refl _)) (Nat.ne_of_lt (Nat.lt_succ_self _))
  have I2 := Inv.made (C := C) I1
  have r2 : Vals (V.ref (s1.heap.objs.size + 1) :: vs) (Value.ref (s1.heap.objs.size + 1) :: us) := .cons rfl r
  have hl : (Value.ref (s1.heap.objs.size + 1) :: us ++ ([] : List Value)).length = ps.length := by
    have e := r2.length
    rw [F.len _ _ _ _ hq] at e
    rw [List.append_nil]
    exact e.symm
  have r3 : Vals (V.ref (s1.heap.objs.size + 1) :: vs) (Value.ref (s1.heap.objs.size + 1) :: us ++ ([] : List Value)) := by rw [List.append_nil]; exact r2
  refine wpAny_call (make_map (f := f) I1.kIn M.makes M.init (beq_iff_eq.mp M.fn) (codeAny_mono (F.run _ X.stack _ _ ⟨Value.ref (s1.heap.objs.size + 1) :: us, []⟩ _ _ _ (hr.make C us []) (make_guards hgd)
    (I2.env0.make C us []) (hb _ (Value.ref (s1.heap.objs.size + 1) :: us) I2.kIn hl) r3 hq) fun r s' hq' => ?_))
  cases r with
  | error e => exact hq'.elim
  | ok fl =>
    cases fl with
    | ret u =>
      obtain ⟨v, H', I3, rv, ev, q3⟩ := I2.after hq'
      subst ev
      exact ⟨rv, ⟨V.ref (s1.heap.objs.size + 1), H', I3, rfl, q3⟩⟩
    | next => exact hq'.elim
    | brk => exact hq'.elim
    | cont => exact hq'.elim
end
end DL
set_option Elab.async false
set_option linter.all false
set_option maxRecDepth 100000
set_option maxHeartbeats 1000000
namespace DL
open PySem PySem.Spec PyProof.Rows L2
/-! ### what a def does with data -/
abbrev FD := List EV → (EV → Prop) → Prop
def isArg : EV → Bool
  | .d _ => true
  | .hp => true
  | .net _ => true
  | .scr _ => true
  | _ => false
def spV (K : PySem.W.Frag) (w : World) (n : Nat) (sp : FD) : Sp := fun vs H Q _ => ∃ G F rs T, vs.length = n ∧ Wd G F H ∧ Reps K w G H F H vs rs ∧ rs.all isArg = true ∧ sp rs T ∧ ∀ r v F' H', Ext G F H F' H' → Rep K w G H F' H' v r → T r → Q v H'
theorem arg_own {r : EV} (h : isArg r = true) : own r = false := by cases r <;> first | rfl | cases h
theorem arg_keep {r : EV} (h : isArg r = true) : keep r = true := by cases r <;> first | rfl | cases h
/-- the slots at a def's entry -/
def ent (n : Nat) (rs : List EV) : Env := rs.map some ++ List.replicate (n - rs.length) none
theorem ent_at {n i : Nat} {rs : List EV} {ev : EV} (h : (ent n rs)[i]? = some (some ev)) : rs[i]? = some ev := by
  unfold ent at h
  by_cases hi : i < rs.length
  · rw [List.getElem?_append_left (by simpa using hi), List.getElem?_map] at h
    cases e : rs[i]? with
    | none => rw [e] at h; cases h
    | some a => rw [e] at h; cases h; rfl
  · rw [List.getElem?_append_right (by simpa using hi), List.getElem?_replicate] at h
    split at h <;> cases h
theorem Reps.at {K : PySem.W.Frag} {w : World} {G : Gp} {H0 F H : Hp} : ∀ {vs : List V} {rs : List EV} {j : Nat} {y : EV}, Reps K w G H0 F H vs rs → rs[j]? = some y → ∃ u, vs[j]? = some u ∧ Rep K w G H0 F H u y
  | _, _, _, _, .nil, e => by simp at e
  | _, _, 0, _, .cons h _ _, e => by
    simp at e; subst e; exact ⟨_, rfl, h⟩
  | _, _, j + 1, _, .cons _ t _, e => by
    obtain ⟨u, a, b⟩ := Reps.at (j := j) t (by simpa using e)
    exact ⟨u, by simpa using a, b⟩
theorem sta_start {K : PySem.W.Frag} {w : World} {G : Gp} {F H : Hp} {N : List Str} {vs : List V} {rs : List EV} (h : Reps K w G H F H vs rs) (ha : rs.all isArg = true) : Sta K w G H F H (start N vs) (ent N.length rs) := by
  have hl := h.length
  refine ⟨?_, fun i ev e => ?_, fun i ev e => ?_, fun i j p x y ne e1 o1 e2 o2 f1 f2 => ?_⟩
  · unfold L2.start ent
    simp only [List.length_append, List.length_map, List.length_replicate]
    omega
  · obtain ⟨u, a, b⟩ := h.at (ent_at e)
    refine ⟨u, ?_, b⟩
    unfold L2.start
    have hi := (List.getElem?_eq_some_iff.mp a).1
    rw [List.getElem?_append_left (by simpa using hi), List.getElem?_map, a]
    rfl
  · exact arg_keep (List.all_eq_true.mp ha ev (List.mem_of_getElem? (ent_at e)))
  · rw [arg_own (List.all_eq_true.mp ha x (List.mem_of_getElem? (ent_at e1)))] at o1
    cases o1
/-- the body's reading keeps the promise -/
def BodyD (t : TSd) (n m : Nat) (sp : FD) : Prop := ∀ rs T, rs.length = m → sp rs T → t { nx := fun _ => T (.d .none), rt := T } (ent n rs)
theorem fnD_of {P : Program} {w : World} {K : PySem.W.Frag} {mg : Str → Option Value} {base : Heap} {k : Nat} {x qual : Str} {params : Arguments} {body : List Stmt} {scope : Scope} {dvs : List V} {kws : List (Str × V)} {f : Addr} {fd : FuncData}
    {N ps : List Str} {sp : FD} {t : TSd} (F : FunD K x qual params body scope dvs kws f fd) (S : FnScope N ps scope) (hb : DSs ⟨N, scope, fun _ => true, P, w, K, mg, base, k⟩ body t) (ht : BodyD t N.length ps.length sp) : FnGd P w K mg base (k + 1) f fd ps (spV K w ps.length sp) := by
  obtain ⟨ts, p, q⟩ := hb
  refine fnGd_of F S (fun vs H Q E ⟨G, F, rs, T, l, _⟩ => l) fun cdv A outer s H vs Q hcd hr hg ⟨G, F1, rs, T, l, W, rr, ra, hsp, kk⟩ => ?_
  refine ⟨ts, p _ ⟨rfl, rfl, rfl, rfl, rfl, rfl, rfl, rfl, rfl, rfl, S.nd, hr, hg, kdsCode_of hcd⟩, ?_⟩
  refine q G F1 H F1 H _ _ _ _ (Ext.rfl' W) (sta_start rr ra) (ht rs T (by rw [← rr.length]; exact l) hsp) ⟨fun σ ρ F' H' _ x s h => ?_, fun r v F' H' _ x rv h => kk r v F' H' x rv h, fun _ _ _ _ _ _ _ h => h.elim, fun _ _ _ _ _ _ _ h => h.elim⟩
  exact kk (.d .none) .non F' H' x Df.non h
/-! ### handing over -/
def arg : EV → Option EV
  | .d x => some (.d x)
  | .dn x => some (.d x)
  | .l xs => some (.d (.list xs))
  | .o xs => some (.d (.list xs))
  | .hp => some .hp
  | .net x => some (.net x)
  | .scr ns => some (.scr ns)
  | _ => none
def argA : List EV → Option (List EV)
  | [] => some []
  | r :: rs => match arg r, argA rs with
    | some a, some as => some (a :: as)
    | _, _ => none
def pureE : EV → Bool
  | .l _ => false
  | .o _ => false
  | _ => true
/-- nothing in it leans on a list that stands for a while only -/
def lfr : EV → Bool
  | .d x => lf x
  | .dn x => lf x
  | .o xs => lfA xs
  | .net x => lf x
  | _ => false
section
variable {K : PySem.W.Frag} {w : World} {G : Gp} {H0 F H : Hp}
/-- the lists that are lent -/
def lent (H F : Hp) (L : List Addr) : Hp := fun a => if a ∈ L then H a else F a
theorem lent_sub (W : Wd G F H) (L : List Addr) : Sub F (lent H F L) := fun a o e => by
  unfold lent
  split
  · exact W.sub a o e
  · exact e
theorem lent_wd {L : List Addr} (W : Wd G F H) (hL : ∀ a ∈ L, ¬ inG G a) : Wd G (lent H F L) H := by
  refine ⟨fun a o e => ?_, ?_⟩
  · unfold lent at e
    split at e
    · exact e
    · exact W.sub a o e
  · have h := W.heap
    unfold HeapOk at h ⊢
    unfold inG at hL
    split
    · obtain ⟨ab, f1, f2, ns, st, h1, h2, c⟩ := h
      rename_i a b
      have n1 : a ∉ L := fun z => hL a z (.inl rfl)
      have n2 : b ∉ L := fun z => hL b z (.inr rfl)
      exact ⟨ab, by unfold lent; rw [if_neg n1]; exact f1, by unfold lent; rw [if_neg n2]; exact f2, ns, st, h1, h2, c⟩
    · trivial
structure LOk (G : Gp) (H : Hp) (L : List Addr) : Prop where
  g : ∀ a ∈ L, ¬ inG G a
  l : ∀ a ∈ L, ∃ vs, H a = some (.lst vs)
/-- back from a call -/
def back (F F' : Hp) (L : List Addr) : Hp := fun a => if a ∈ L then F a else F' a
theorem back_nil {F F' : Hp} : back F F' [] = F' := by
  funext a
  unfold back
  simp
theorem back_ext {F' H' : Hp} {L : List Addr} (W : Wd G F H) (o : LOk G H L) (x : Ext G (lent H F L) H F' H') : Ext G F H (back F F' L) H' := by
  refine ⟨fun a u e => ?_, fun a e => ?_, x.h, x.n, ⟨fun a u e => ?_, ?_⟩⟩
  · unfold back
    split
    · exact e
    · exact x.f a u (lent_sub W L a u e)
  · unfold back
    split
    · rfl
    · rename_i n
      rw [x.nf a e]
      unfold lent
      rw [if_neg n]
  · unfold back at e
    split at e
    · rename_i m
      exact x.h a u (W.sub a u e) (o.g a m)
    · exact x.w.sub a u e
  · have h := x.w.heap
    have hg := o.g
    unfold HeapOk at h ⊢
    unfold inG at hg
    split
    · obtain ⟨ab, f1, f2, ns, st, h1, h2, c⟩ := h
      rename_i a b
      have n1 : a ∉ L := fun z => hg a z (.inl rfl)
      have n2 : b ∉ L := fun z => hg b z (.inr rfl)
      exact ⟨ab, by unfold back; rw [if_neg n1]; exact f1, by unfold back; rw [if_neg n2]; exact f2, ns, st, h1, h2, c⟩
    · trivial
theorem back_at {F' H' : Hp} {L : List Addr} (o : LOk G H L) (x : Ext G (lent H F L) H F' H') {a : Addr} {u : HO} (e : F' a = some u) (hu : ∀ vs, u ≠ .lst vs) : back F F' L a = some u := by
  unfold back
  split
  · rename_i m
    obtain ⟨vs, hv⟩ := o.l a m
    have := x.nf a (some_ne hv)
    rw [e] at this
    unfold lent at this
    rw [if_pos m, hv] at this
    exact absurd (Option.some.inj this) (hu vs)
  · exact e
theorem back_tp {F' H' : Hp} {L : List Addr} (o : LOk G H L) (x : Ext G (lent H F L) H F' H') (a : Addr) (xs : List V) (h : Tp F' a xs) : Tp (back F F' L) a xs :=
  h.imp (fun e => back_at o x e (by intro _ z; cases z)) fun ⟨ob, d, e⟩ => ⟨ob, d, back_at o x e (by intro _ z; cases z)⟩
theorem back_rep {F' H' : Hp} {L : List Addr} {v : V} {r : EV} (o : LOk G H L) (x : Ext G (lent H F L) H F' H') (h : Rep K w G H F' H' v r) (hr : L = [] ∨ lfr r = true) : Rep K w G H (back F F' L) H' v r := by
  rcases hr with rfl | hr
  · rw [back_nil]; exact h
  · cases r with
    | d y => exact Df.thaw (back_tp o x) h hr
    | dn y =>
      obtain ⟨h, a, ob, u, e, f, d⟩ := h
      exact ⟨Df.thaw (back_tp o x) h hr, a, ob, u, e, back_at o x f (by intro _ z; cases z), d⟩
    | o ys =>
      obtain ⟨p, vs, e, g, a, b, c, d⟩ := h
      refine ⟨p, vs, e, g, a, DfA.thaw (back_tp o x) b hr, c, ?_⟩
      unfold back
      split
      · rename_i m
        obtain ⟨vs, hv⟩ := o.l p m
        rw [hv] at c
        cases c
      · exact d
    | net y =>
      obtain ⟨p, C, dx, u, e, g, a, b, c⟩ := h
      exact ⟨p, C, dx, u, e, g, a, Df.thaw (back_tp o x) b hr, c⟩
    | _ => cases hr
theorem arg_isArg {r a : EV} (h : arg r = some a) : isArg a = true := by
  cases r <;> first | (cases h; rfl) | cases h
theorem argA_isArg : ∀ {rs as : List EV}, argA rs = some as → as.all isArg = true
  | [], as, h => by cases h; rfl
  | r :: rs, as, h => by
    unfold argA at h
    split at h
    · rename_i a as' e1 e2
      cases h
      rw [List.all_cons, arg_isArg e1, argA_isArg e2]
      rfl
    · cases h
theorem argA_length : ∀ {rs as : List EV}, argA rs = some as → as.length = rs.length
  | [], as, h => by cases h; rfl
  | r :: rs, as, h => by
    unfold argA at h
    split at h
    · rename_i a as' e1 e2
      cases h
      rw [List.length_cons, List.length_cons, argA_length e2]
    · cases h
/-- which lists are lent -/
theorem Reps.lend : ∀ {vs : List V} {rs as : List EV}, Wd G F H → Reps K w G H0 F H vs rs → argA rs = some as → ∃ L, LOk G H L ∧ (rs.all pureE = true → L = []) ∧ ∀ M, (∀ a ∈ L, a ∈ M) → Reps K w G H (lent H F M) H vs as
  | _, _, as, W, .nil, e => by
    cases e
    exact ⟨[], ⟨(fun _ h => nomatch h), (fun _ h => nomatch h)⟩, fun _ => rfl, fun M _ => .nil⟩
  | _, _, as, W, .cons (v := v) (vs := vs0) (r := r) (rs := rs) h t ap, e => by
    unfold argA at e
    split at e
    · rename_i a as' e1 e2
      cases e
      obtain ⟨L, ok, pu, rep⟩ := Reps.lend W t e2
      have na : own a = false := arg_own (arg_isArg e1)
      have app : own a = true → ∀ (j : Nat) (u : V) (y : EV), vs0[j]? = some u → as'[j]? = some y → own y = true → u ≠ v := fun z => by rw [na] at z; cases z
      have listy : ∀ xs, (∃ p vs, v = .ref p ∧ ¬ inG G p ∧ H p = some (.lst vs) ∧ DfA F vs xs) → a = .d (.list xs) → pureE r = false → ∃ L, LOk G H L ∧ ((r :: rs).all pureE = true → L = []) ∧ ∀ M, (∀ a ∈ L, a ∈ M) → Reps K w G H (lent H F M) H (v :: vs0) (a :: as') := by
        rintro xs ⟨p, vs, rfl, g, hp, hd⟩ rfl np
        refine ⟨p :: L, ⟨fun b hb => ?_, fun b hb => ?_⟩, fun z => (by rw [List.all_cons, np] at z; cases z), fun M hM => .cons ?_ (rep M fun b hb => hM b (List.mem_cons_of_mem _ hb)) (fun z => nomatch z)⟩
        · rcases List.mem_cons.mp hb with rfl | hb
          · exact g
          · exact ok.g b hb
        · rcases List.mem_cons.mp hb with rfl | hb
          · exact ⟨vs, hp⟩
          · exact ok.l b hb
        · refine Df.lst (a := p) (xs := vs) ?_ (DfA.mono (lent_sub W M) hd)
          unfold lent
          rw [if_pos (hM p List.mem_cons_self)]
          exact hp
      cases r with
      | d x => cases e1; exact ⟨L, ok, fun z => pu (by simpa [pureE] using z), fun M hM => .cons (Df.mono (lent_sub W M) h) (rep M hM) app⟩
      | dn x => cases e1; exact ⟨L, ok, fun z => pu (by simpa [pureE] using z), fun M hM => .cons (Df.mono (lent_sub W M) h.1) (rep M hM) app⟩
      | hp => cases e1; exact ⟨L, ok, fun z => pu (by simpa [pureE] using z), fun M hM => .cons h (rep M hM) app⟩
      | scr ns => cases e1; exact ⟨L, ok, fun z => pu (by simpa [pureE] using z), fun M hM => .cons h (rep M hM) app⟩
      | net x =>
        cases e1
        obtain ⟨q, C, dx, u, e3, g, c, d⟩ := h
        exact ⟨L, ok, fun z => pu (by simpa [pureE] using z), fun M hM => .cons ⟨q, C, dx, u, e3, g, c, Df.mono (lent_sub W M) d.1, d.2⟩ (rep M hM) app⟩
      | l xs => cases e1; exact listy xs h rfl rfl
      | o xs =>
        cases e1
        obtain ⟨p, vs, a, b, c, d, _⟩ := h
        exact listy xs ⟨p, vs, a, b, c, d⟩ rfl rfl
      | _ => cases e1
    · cases e
end
/-- a call of a def, on data -/
def fCall (sp : FD) (rs : List EV) (Q : EV → Prop) : Prop := match argA rs with
  | some as => sp as fun r => (rs.all pureE = true ∨ lfr r = true) ∧ Q r
  | none => False
theorem spV_call {S : Sx} {n : Nat} {sp : FD} {G : Gp} {H0 F H : Hp} {vs : List V} {rs : List EV} {Q : EV → Prop} {C : VK} (W : Wd G F H) (r : Reps S.K S.w G H0 F H vs rs) (l : rs.length = n) (h : fCall sp rs Q) (k : Kn S G F H Q C) : spV S.K S.w n sp vs H C E0' := by
  unfold fCall at h
  split at h
  · rename_i as e
    obtain ⟨L, ok, pu, rep⟩ := r.lend W e
    refine ⟨G, lent H F L, as, _, by rw [r.length]; exact l, lent_wd W ok.g, rep L fun _ h => h, argA_isArg e, h, fun y v F' H' x ry hy => ?_⟩
    exact k y v (back F F' L) H' (back_ext W ok x) (back_rep ok x ry (hy.1.imp pu id)) hy.2
  · exact h.elim
section
variable {S : Sx} {e : Expr} {es : List Expr} {p pos : Pos} {tA : TAd} {x : Str} {k : Nat} {f C : Addr} {fd : FuncData} {ps : List Str} {sp : FD} {kws : List Keyword}
/-- a def of the text, ready to be called -/
structure Def (S : Sx) (x : Str) (k : Nat) (ps : List Str) (sp : FD) : Prop where
  ex : ∃ f fd, FnGd S.P S.w S.K S.mg S.base k f fd ps (spV S.K S.w ps.length sp) ∧ S.mg x = some (.ref f) ∧ PySem.W.keepIn S.K (.ref f) = true ∧ Binds S.K fd ps [] ∧ RBinds S.K fd ps
theorem Room.le {j k : Nat} {A : Around} (h : Room k A) (l : j ≤ k) : Room j A := h.mono l
theorem de_call (D : Def S x k ps sp) (hk : k ≤ S.k) (hg : S.sc.names.lookup x = some .globalImplicit) (ha : DA S (e :: es) tA) (hn : (e :: es).length = ps.length) (hdb : (x == ("__debug__" : Str)) = false := by decide)
    (hs : ∀ env : PySem.Env, starEach (e :: es) env = (false, eval e env) :: starEach es env := by intro _; rfl) (hpl : ∀ env : PySem.Env, (backTo pos (starEach es env)).any (·.1) = false := by intro _; rfl) :
    DE S (.Call (.Name x p) (e :: es) [] pos) (eCB (fCall sp) tA) := by
  obtain ⟨f, fd, F, hm, hkp, hb, _⟩ := D.ex
  obtain ⟨t, pt, q⟩ := ha
  refine ⟨tCall (spV S.K S.w ps.length sp) [] E0' t, fun X c => pe_callG (by rw [c.P, c.w, c.K, c.mg, c.base]; exact F) (Room.le c.hr hk) c.gd (ctx_gl c hg) (by rw [c.mg]; exact hm) (by rw [c.K]; exact hkp) (by rw [c.K]; exact hb) (pt X c) hdb (hs X.env) (hpl X.env), fun G H0 F H σ ρ Q C W s h kk => ?_⟩
  refine q G H0 F H σ ρ _ _ W s h fun rs vs F1 H1 x1 r1 l1 q1 => ?_
  show spV _ _ _ _ (vs ++ []) _ _ _
  rw [List.append_nil]
  exact spV_call x1.w r1 (l1.trans hn) q1 (kk.then x1)
/-- the values of keywords -/
def DK (S : Sx) (kws : List Keyword) (n : Nat) (t : TAd) : Prop := ∃ te : TA, (∀ X, Ctx S X → PK X kws te) ∧ ∀ (G : Gp) (H0 F H : Hp) (σ : L2.St) (ρ : Env) (Q : List EV → Prop) (C : List V → Hp → Prop),
  Wd G F H → Sta S.K S.w G H0 F H σ ρ → t ρ Q → KnA S G F H n Q C → te σ H C
theorem dk_nil : DK S [] 0 aNil := ⟨tNil, fun X c => pk_nil, fun G H0 F H σ ρ Q C W s h k => k [] [] F H (Ext.rfl' W) .nil rfl h⟩
theorem dk_cons {nm : Option Str} {kpos : Pos} {n : Nat} {ta : TD} {tr : TAd} (ha : DE S e ta) (hr : DK S kws n tr) : DK S (⟨nm, e, kpos⟩ :: kws) (n + 1) (aCons ta tr) := by
  obtain ⟨x, p, q⟩ := ha
  obtain ⟨y, p', q'⟩ := hr
  refine ⟨tCons x y, fun X c => pk_cons (p X c) (p' X c), fun G H0 F H σ ρ Q C W s h k => q G H0 F H σ ρ _ _ W s h fun r v F1 H1 x1 r1 q1 => ?_⟩
  refine q' G H0 F1 H1 σ ρ _ _ x1.w (s.ext x1) q1 fun rs vs F2 H2 x2 r2 l2 q2 => ?_
  refine k _ _ F2 H2 (x1.trans x2) (.cons (r1.ext x2) (r2.start fun a => x1.fresh) fun ho j u z e1 e2 o2 en => ?_) (by rw [List.length_cons, l2]) q2
  subst en
  obtain ⟨p1, ev1, hn1, _⟩ := r1.own_at ho
  obtain ⟨p2, ev2, _, hn2⟩ := (r2.get e1 e2).own_at o2
  rw [ev1] at ev2
  cases ev2
  exact hn1 hn2
theorem Reps.snoc {K : PySem.W.Frag} {w : World} {G : Gp} {H0 F H : Hp} : ∀ {vs : List V} {rs : List EV} {v : V} {r : EV}, Reps K w G H0 F H vs rs → Rep K w G H0 F H v r → (own r = true → ∀ (j : Nat) (u : V) (y : EV), vs[j]? = some u → rs[j]? = some y → own y = true → u ≠ v) → Reps K w G H0 F H (vs ++ [v]) (rs ++ [r])
  | _, _, v, r, .nil, h, ap => .cons h .nil fun _ j u y e => by simp at e
  | _, _, v, r, .cons (v := a) (vs := vs) (rs := rs) h0 t0 ap0, h, ap => .cons h0 (Reps.snoc t0 h fun o j u y e1 e2 => ap o (j + 1) u y (by simpa using e1) (by simpa using e2)) fun o j u y e1 e2 oy => by
    have hl := t0.length
    have e1 : (vs ++ [v])[j]? = some u := e1
    have e2 : (rs ++ [r])[j]? = some y := e2
    by_cases hj : j < vs.length
    · rw [List.getElem?_append_left hj] at e1
      rw [List.getElem?_append_left (by omega)] at e2
      exact ap0 o j u y e1 e2 oy
    · rw [List.getElem?_append_right (by omega)] at e1
      rw [List.getElem?_append_right (by omega)] at e2
      have hz : j - vs.length = 0 := by
        have := (List.getElem?_eq_some_iff.mp e1).1
        simp at this
        omega
      rw [hz] at e1
      rw [show j - rs.length = 0 by omega] at e2
      simp at e1 e2
      subst e1 e2
      exact fun z => ap oy 0 a _ rfl rfl o z.symm
theorem Reps.rev {K : PySem.W.Frag} {w : World} {G : Gp} {H0 F H : Hp} : ∀ {vs : List V} {rs : List EV}, Reps K w G H0 F H vs rs → Reps K w G H0 F H vs.reverse rs.reverse
  | _, _, .nil => .nil
  | _, _, .cons (v := v) (vs := vs) (rs := rs) h t ap => by
    rw [List.reverse_cons, List.reverse_cons]
    refine Reps.snoc (Reps.rev t) h fun o j u y e1 e2 oy => ?_
    have hl := t.length
    have hj : j < vs.length := by
      have := (List.getElem?_eq_some_iff.mp e1).1
      simpa using this
    rw [List.getElem?_reverse hj] at e1
    rw [List.getElem?_reverse (by omega)] at e2
    rw [show rs.length - 1 - j = vs.length - 1 - j by omega] at e2
    exact ap o _ u y e1 e2 oy
theorem de_callR {n : Nat} (D : Def S x k ps sp) (hk : k ≤ S.k) (hg : S.sc.names.lookup x = some .globalImplicit) (ha : DK S kws n tA) (hn : n = ps.length) (hdb : (x == ("__debug__" : Str)) = false := by decide)
    (hall : ∀ env : PySem.Env, (backToKw pos (keywordEach kws env)).all (·.1.isSome) = true := by intro _; rfl) (hks : ∀ env : PySem.Env, (backToKw pos (keywordEach kws env)).filterMap (·.1) = ps.reverse := by intro _; rfl)
    (hpl : ∀ env : PySem.Env, ((backTo pos (starEach [] env)).any (·.1) || (backToKw pos (keywordEach kws env)).any (·.1.isNone)) = false := by intro _; rfl) :
    DE S (.Call (.Name x p) [] kws pos) (eCB (fun rs => fCall sp rs.reverse) tA) := by
  obtain ⟨f, fd, F, hm, hkp, _, hb⟩ := D.ex
  obtain ⟨t, pt, q⟩ := ha
  refine ⟨tCallR (spV S.K S.w ps.length sp) t, fun X c => pe_callR (by rw [c.P, c.w, c.K, c.mg, c.base]; exact F) (Room.le c.hr hk) c.gd (ctx_gl c hg) (by rw [c.mg]; exact hm) (by rw [c.K]; exact hkp) (by rw [c.K]; exact hb) (pt X c) (hall X.env) (hks X.env) hdb (hpl X.env), fun G H0 F H σ ρ Q C W s h kk => ?_⟩
  refine q G H0 F H σ ρ _ _ W s h fun rs vs F1 H1 x1 r1 l1 q1 => ?_
  exact spV_call x1.w r1.rev (by rw [List.length_reverse, l1, hn]) q1 (kk.then x1)
end
end DL
set_option Elab.async false
set_option linter.all false
set_option maxRecDepth 100000
set_option maxHeartbeats 1000000
namespace DL
open PySem PySem.Spec PyProof.Rows L2
section
variable {S : Sx} {e a b c o : Expr} {p pos apos cpos : Pos} {ta tb te to : TD} {x : Str}
/-! ### the rest of the expressions -/
def eNeg (ta : TD) : TD := fun ρ Q => ta ρ fun x => match x with
  | .d (.int i) => Q (.d (.int (-i)))
  | _ => False
theorem de_neg (ha : DE S a ta) : DE S (.UnaryOp .USub a pos) (eNeg ta) := by
  obtain ⟨u1, p1, h1⟩ := ha
  refine ⟨tUn (rU fun i => .int (-i)) u1, fun X c => pe_un un_neg (p1 X c), fun G H0 F H σ ρ Q C W s h k => h1 G H0 F H σ ρ _ _ W s h fun x u F1 H1 x1 r1 q1 => ?_⟩
  split at q1
  · cases r1
    exact ⟨_, rfl, kd x1.w (k.then x1) (.int _) q1⟩
  · exact q1.elim
theorem de_pow (ha : DE S a ta) (hb : DE S b tb) : DE S (.BinOp a .Pow b pos) (e2 fPow ta tb) := de_op (fun _ _ => op_pow) (r2_IC fun F i j => Df.int _) ha hb
/-- t * n, n from 1 on -/
def fRep1 : EV → EV → (EV → Prop) → Prop
  | .d (.tuple xs), .d (.int n), Q => xs ≠ [] ∧ 1 ≤ n ∧ n ≤ 1000 ∧ xs.length ≤ 1000 ∧ Q (.d (.tuple (List.replicate n.toNat xs).flatten))
  | _, _, _ => False
theorem OpR.or2 {X : Cx} {op : Value → Value → Sem Value} {r r' : R2} (h : OpR X op r) (h' : OpR X op r') : OpR X op (fun x y H Q => r x y H Q ∨ r' x y H Q) := fun pins s σ H x y v u Q I rx ry q => by
  rcases q with q | q
  · exact h pins s σ H x y v u Q I rx ry q
  · exact h' pins s σ H x y v u Q I rx ry q
theorem de_rep1 (ha : DE S a ta) (hb : DE S b tb) : DE S (.BinOp a .Mult b pos) (e2 fRep1 ta tb) := de_op (r := fun x y H Q => rRepT S.K x y H Q ∨ ∃ l xs, x = .ref l ∧ y = .int 1 ∧ SqT S.K H l xs ∧ Q (.ref l) H) (fun X c => by
    rw [← c.K]; exact OpR.or2 op_repT CR.op_rep1) (by
  intro G H0 H0' F H u v x y Q C W hx hy hf k
  unfold fRep1 at hf
  split at hf
  · rename_i xs n
    obtain ⟨p, vs, rfl, hp, rp⟩ := hx.tup W rfl
    cases hy
    have l1 := rp.length
    obtain ⟨f1, f2, f3, f4, f5⟩ := hf
    by_cases hn : n = 1
    · subst hn
      have e : (List.replicate (1 : Int).toNat xs).flatten = xs := by simp
      rw [e] at f5
      exact .inr ⟨p, vs, rfl, rfl, hp.sq W.sub, kd W k (.tup hp rp) f5⟩
    · exact .inl ⟨p, n, vs, rfl, rfl, hp.sq W.sub, fun e => f1 (nil_of_len l1 e), by omega, f3, by omega, fun t ht => kt W k (rp.rep _) ht f5⟩
  · exact hf.elim) ha hb
/-- xs[::-1] of a list -/
def eBackL (ta : TD) : TD := fun ρ Q => ta ρ fun x => match asL x with
  | some xs => Q (.o xs.reverse)
  | none => False
theorem de_backL {k : Nat} {p1 p2 p3 : Pos} (ha : DE S a ta) : DE S (.Subscript a (.Slice none none (some (.UnaryOp .USub (.Constant (.int 1) k p1) p2)) p3) pos) (eBackL ta) := by
  obtain ⟨u1, p1, h1⟩ := ha
  refine ⟨tRevL S.K u1, fun X c => by rw [← c.K]; exact pe_revL (p1 X c), fun G H0 F H σ ρ Q C W s h k => h1 G H0 F H σ ρ _ _ W s h fun x u F1 H1 x1 r1 q1 => ?_⟩
  split at q1
  · rename_i xs ex
    obtain ⟨p, vs, rfl, hp, rp⟩ := r1.lst x1.w ex
    exact ⟨p, vs, rfl, SqL.of hp, fun q hq => ko x1.w (k.then x1) rp.rev hq q1⟩
  · exact q1.elim
/-- script[lo:hi] -/
def eSlS (ta : TD) (tl th : TOd) : TD := fun ρ Q => ta ρ fun x => tl ρ fun lo => th ρ fun hi => match x with
  | .scr ns => Q (.o ((DL.cut ns lo hi).map .int))
  | _ => False
theorem cut_map {α β : Type} (f : α → β) (xs : List α) (lo hi : Option Int) : DL.cut (xs.map f) lo hi = (DL.cut xs lo hi).map f := by
  unfold DL.cut
  rw [List.length_map, List.map_take, List.map_drop]
theorem de_slS {lo hi : Option Expr} {tl th : TOd} {p2 : Pos} (ha : DE S a ta) (hl : DO S lo tl) (hh : DO S hi th) : DE S (.Subscript a (.Slice lo hi none p2) pos) (eSlS ta tl th) := by
  obtain ⟨u1, p1, h1⟩ := ha
  obtain ⟨u2, p2, h2⟩ := hl
  obtain ⟨u3, p3, h3⟩ := hh
  refine ⟨tSl (rSlL S.K) u1 u2 u3, fun X c => pe_slice (by rw [← c.K]; exact sl_list) (p1 X c) (p2 X c) (p3 X c), fun G H0 F H σ ρ Q C W s h k => ?_⟩
  refine h1 G H0 F H σ ρ _ _ W s h fun x u F1 H1 x1 r1 q1 => h2 G H0 F1 H1 σ ρ _ _ x1.w (s.ext x1) q1 fun l F2 H2 x2 q2 => h3 G H0 F2 H2 σ ρ _ _ x2.w ((s.ext x1).ext x2) q2 fun hi' F3 H3 x3 q3 => ?_
  split at q3
  · rename_i ns
    obtain ⟨q, rfl, z⟩ := (r1.ext x2).ext x3
    have hs : SqL S.K H3 q (ns.map V.int) := by
      rcases z with ⟨_, ob, z⟩ | z
      · exact .inl (.inr ⟨ob, z⟩)
      · exact z H3
    refine ⟨q, _, rfl, hs, fun t ht => ?_⟩
    have e : cutV (ns.map V.int) l hi' = (DL.cut ns l hi').map V.int := cut_map V.int ns l hi'
    rw [e]
    exact ko x3.w (k.then ((x1.trans x2).trans x3)) (DfA.of_ints _) ht q3
  · exact q3.elim
/-- xs.index(n) of a list of ints -/
def fLix (xs : List PyData) (Q : EV → Prop) (rs : List EV) : Prop := match rs with
  | [.d (.int k)] => ∃ ns, intsOf xs = some ns ∧ k ∈ ns ∧ Q (.d (.int (ns.idxOf k : Nat)))
  | _ => False
def eLix (to ta : TD) : TD := fun ρ Q => to ρ fun x => match asL x with
  | some xs => ta ρ fun y => fLix xs Q [y]
  | none => False
theorem idx_first {ns : List Int} {k : Int} (h : k ∈ ns) : ns[ns.idxOf k]? = some k ∧ ∀ m, m < ns.idxOf k → ns[m]? ≠ some k := by
  induction ns with
  | nil => cases h
  | cons n ns ih =>
    by_cases e : n = k
    · subst e
      have ex : (n :: ns).idxOf n = 0 := List.idxOf_cons_self
      rw [ex]
      exact ⟨rfl, fun m hm => absurd hm (Nat.not_lt_zero _)⟩
    · have h' := (List.mem_cons.mp h).resolve_left (Ne.symm e)
      obtain ⟨a, b⟩ := ih h'
      have ex : (n :: ns).idxOf k = ns.idxOf k + 1 := by
        rw [List.idxOf_cons, show (n == k) = false from beq_eq_false_iff_ne.mpr e]
        rfl
      rw [ex]
      refine ⟨by simpa using a, fun m hm => ?_⟩
      cases m with
      | zero => simpa using e
      | succ m => simpa using b m (by omega)
theorem asL_rd {x : EV} {xs : List PyData} (e : asL x = some xs) : asL (rd x) = some xs := by
  cases x <;> first | exact e | rfl
theorem de_lix (ho : DE S o to) (ha : DE S a ta) (hline : (apos.endLine == cpos.line) = true := by rfl) (hbase : ∀ env : PySem.Env, attributeBase o "index" env (eval o env) = eval o env := by intro _; rfl)
    (hs : ∀ env : PySem.Env, starEach [a] env = (false, eval a env) :: starEach [] env := by intro _; rfl) : DE S (.Call (.Attribute o "index" apos) [a] [] cpos) (eLix to ta) := by
  obtain ⟨u0, p0, h0⟩ := ho
  obtain ⟨u1, p1, h1⟩ := da_cons ha da_nil hs
  refine ⟨tBM S.K "list" (rIndex S.K) u0 u1, fun X c => by rw [← c.K]; exact pe_bm PySem.F.plainAttrs_list PySem.F.slot_list_index PySem.F.type_list_index mt_index (p0 X c) (p1 X c) (hbase X.env) (few_args hs X.env) hline (hs X.env) (by rfl), fun G H0 F H σ ρ Q C W s h k => ?_⟩
  refine h0 G H0 F H σ ρ _ _ W s h fun x u F1 H1 x1 r1 q1 => ?_
  split at q1
  · rename_i xs ex
    obtain ⟨p, vs, rfl, hp, rp⟩ := r1.lst x1.w ex
    refine ⟨.inl ⟨rfl, vs, SqL.of hp⟩, ?_⟩
    refine h1 G H0 F1 H1 σ ρ (fLix xs Q) _ x1.w (s.ext x1) q1 fun rs ws F2 H2 x2 r2 l2 q2 => ?_
    unfold fLix at q2
    split at q2
    · rename_i n
      cases r2 with
      | cons r t ap =>
        cases t
        cases r
        obtain ⟨ns, en, hn, q⟩ := q2
        have en := intsOf_eq en
        subst en
        obtain ⟨p', vs', ep, hp', rp'⟩ := ((r1.ext x2).rd (H1 := H2)).lst x2.w (asL_rd ex)
        cases ep
        have ev' := rp'.ints
        subst ev'
        obtain ⟨i1, i2⟩ := idx_first hn
        refine ⟨p, ns.map V.int, .int n, ns.idxOf n, .int n, rfl, rfl, SqL.of hp', rfl, by simp [flatV], by rw [List.getElem?_map, i1]; rfl, by simp [eqV], fun m z hm hz => ?_, kd x2.w (k.then (x1.trans x2)) (.int _) q⟩
        rw [List.getElem?_map] at hz
        cases e3 : ns[m]? with
        | none => rw [e3] at hz; cases hz
        | some j =>
          rw [e3] at hz
          cases hz
          have : j ≠ n := fun z => i2 m hm (by rw [e3, z])
          simp [eqV, this]
    · exact q2.elim
  · exact q1.elim
/-- t.index(n) -/
def fTix (ns : List Int) (Q : EV → Prop) (rs : List EV) : Prop := match rs with
  | [.d (.int k)] => k ∈ ns ∧ Q (.d (.int (ns.idxOf k : Nat)))
  | _ => False
def eTix (to ta : TD) : TD := fun ρ Q => to ρ fun x => match x with
  | .dn (.tuple xs) => ∃ ns, intsOf xs = some ns ∧ ta ρ fun y => fTix ns Q [y]
  | _ => False
theorem de_tix (ho : DE S o to) (ha : DE S a ta) (hline : (apos.endLine == cpos.line) = true := by rfl) (hbase : ∀ env : PySem.Env, attributeBase o "index" env (eval o env) = eval o env := by intro _; rfl)
    (hs : ∀ env : PySem.Env, starEach [a] env = [(false, eval a env)] := by intro _; rfl) : DE S (.Call (.Attribute o "index" apos) [a] [] cpos) (eTix to ta) := by
  obtain ⟨u0, p0, h0⟩ := ho
  obtain ⟨u1, p1, h1⟩ := da_cons ha da_nil (fun env => hs env)
  refine ⟨CR.tTix S.K u0 u1, fun X c => by rw [← c.K]; exact CR.pe_tix (p0 X c) (p1 X c) (hbase X.env) (few_args (fun env => hs env) X.env) hline (hs X.env) (by rfl), fun G H0 F H σ ρ Q C W s h k => ?_⟩
  refine h0 G H0 F H σ ρ _ _ W s h fun x u F1 H1 x1 r1 q1 => ?_
  split at q1
  · rename_i xs
    obtain ⟨ns, en, q1⟩ := q1
    have en := intsOf_eq en
    subst en
    obtain ⟨hd, p, ob, uo, rfl, hf, hdn⟩ := r1
    have hh : F1 p = some (.frz ob (.tup (ns.map V.int))) := by
      cases hd with
      | tup tp rp =>
        rcases tp with tp | ⟨ob', _, tp⟩
        · rw [hf] at tp; cases tp
        · rw [hf] at tp; cases tp; have := rp.ints; subst this; exact hf
    refine ⟨p, ob, ns, rfl, x1.w.sub _ _ hh, hdn, ?_⟩
    refine h1 G H0 F1 H1 σ ρ (fTix ns Q) _ x1.w (s.ext x1) q1 fun rs ws F2 H2 x2 r2 l2 q2 => ?_
    unfold fTix at q2
    split at q2
    · rename_i n
      cases r2 with
      | cons r t ap =>
        cases t
        cases r
        exact ⟨n, rfl, x2.w.sub _ _ (x2.f _ _ hh), q2.1, kd x2.w (k.then (x1.trans x2)) (.int _) q2.2⟩
    · exact q2.elim
  · exact q1.elim
/-! ### Net(..) -/
/-- what Net.__init__ promises; ok: what it takes -/
def spNet (K : PySem.W.Frag) (C : Addr) (ok : PyData → Prop) : Sp := fun vs H Q _ => ∃ (G : Gp) (F : Hp) (p dx : Addr) (u : V) (d : PyData), vs = [.ref p, u] ∧ ¬ inG G p ∧ Wd G F H ∧ H p = some (.ins C dx []) ∧ Df F u d ∧ ok d ∧
  ∀ F' H', Ext G F H F' H' → Q .non (upd H' p (.ins C dx [(("things" : Str), u)]))
structure DefNet (S : Sx) (k : Nat) (ok : PyData → Prop) : Prop where
  ex : ∃ C f fd, Mk S.K C f ∧ FnGd S.P S.w S.K S.mg S.base k f fd ["self", "things"] (spNet S.K C ok) ∧ S.mg "Net" = some (.ref C) ∧ Binds S.K fd ["self", "things"] [] ∧ Cls S.K C ∧ NoAttr S.K C "things"
def eNet (ok : PyData → Prop) (ta : TD) : TD := fun ρ Q => ta ρ fun x => match x with
  | .d d => ok d ∧ Q (.net d)
  | _ => False
theorem de_net {k : Nat} {ok : PyData → Prop} (D : DefNet S k ok) (hk : k + 1 ≤ S.k) (hg : S.sc.names.lookup ("Net" : Str) = some .globalImplicit) (ha : DE S a ta)
    (hs : ∀ env : PySem.Env, starEach [a] env = (false, eval a env) :: starEach [] env := by intro _; rfl) (hpl : ∀ env : PySem.Env, (backTo pos (starEach [] env)).any (·.1) = false := by intro _; rfl) :
    DE S (.Call (.Name "Net" p) [a] [] pos) (eNet ok ta) := by
  obtain ⟨C, f, fd, M, F, hm, hb, cls, na⟩ := D.ex
  obtain ⟨u1, p1, h1⟩ := ha
  refine ⟨tMakeG C (spNet S.K C ok) (tCons u1 tNil), fun X c => pe_makeG (by rw [c.K]; exact M) (by rw [c.P, c.w, c.K, c.mg, c.base]; exact F) (Room.le c.hr hk) c.gd (ctx_gl c hg) (by rw [c.mg]; exact hm) (by rw [c.K]; exact hb) (pa_cons (p1 X c) pa_nil (hs X.env)) (by decide) (hs X.env) (hpl X.env), fun G H0 F H σ ρ Q C' W s h kk => ?_⟩
  refine h1 G H0 F H σ ρ _ _ W s h fun x u F1 H1 x1 r1 q1 => ?_
  split at q1
  · rename_i d
    intro q dx hq hdx hne
    have xa := Ext.new x1.w hdx (.own q)
    have hq2 : upd H1 dx (.own q) q = none := by rw [upd_ne (Ne.symm hne)]; exact hq
    have xb := xa.trans (Ext.new xa.w hq2 (.ins C dx []))
    refine ⟨G, F1, q, dx, u, d, rfl, x1.w.fresh hq, xb.w, upd_same, r1, q1.1, fun F' H' xc => ⟨rfl, ?_⟩⟩
    have xd := xb.trans xc
    have hF : F' q = none := (xd.nf q · |>.trans (x1.w.nf hq)) |> fun z => by
      rw [xc.nf q (by rw [upd_same]; intro z; cases z)]
      exact x1.w.nf hq
    have xe := xd.re (o := .ins C dx [(("things" : Str), u)]) hq hF (x1.w.fresh hq)
    exact kk (.net d) (.ref q) F' _ (x1.trans xe) ⟨q, C, dx, u, rfl, x1.w.fresh hq, upd_same, Df.mono xd.f r1, cls, na⟩ q1.2
  · exact q1.elim
/-- its __init__, by the checks that it calls -/
theorem net_init {P : Program} {w : World} {K : PySem.W.Frag} {mg : Str → Option Value} {base : Heap} {k : Nat} {st : Stmt} {f fc C : Addr} {fd fdc : FuncData} {ok : PyData → Prop} {p1 p2 p3 p4 p5 p6 p7 p8 : Pos} {N : List Str} (F : FunD K "__init__" "Net.__init__" (defArgs st) (defBody st) (defScope st) [] [] f fd)
    (S : FnScope ["self", "things"] ["self", "things"] (defScope st)) (hb : defBody st = [.Expr (.Call (.Name "check_things" p1) [.Name "things" p2] [] p3) p4, .Assign [.Attribute (.Name "self" p5) "things" p6] (.Name "things" p7) p8])
    (FC : FnGd P w K mg base k fc fdc ["value"] (spV K w 1 fun rs T => ∃ d, rs = [.d d] ∧ ok d ∧ T (.d .none))) (hm : mg "check_things" = some (.ref fc)) (hk : PySem.W.keepIn K (.ref fc) = true) (hbi : Binds K fdc ["value"] []) (cls : Cls K C) (na : NoAttr K C "things")
    (hg : (defScope st).names.lookup ("check_things" : Str) = some .globalImplicit) (hl1 : Vis (defScope st) "self") (hl2 : Vis (defScope st) "things") : FnGd P w K mg base (k + 1) f fd ["self", "things"] (spNet K C ok) := by
  refine fnGd_of F S (fun vs H Q E ⟨G, F, p, dx, u, d, e, _⟩ => by rw [e]; rfl) fun cdv A outer s H vs Q hcd hr hgd ⟨G, F1, p, dx, u, d, ev, hp, W, hH, hd, hok, kk⟩ => ?_
  subst ev
  rw [hb]
  refine ⟨_, pss_cons (ps_expr (pe_callG (X := (cxOf CX0 P w K mg base ["self", "things"] "Net.__init__" (defScope st) f cdv A outer s H E0').nox) FC hr hgd hg hm hk hbi (pa_cons (pe_var (i := 1) rfl hl2) pa_nil) (by decide) rfl rfl)) (pss_one (ps_fld (pe_var (i := 0) rfl hl1) (pe_var (i := 1) rfl hl2) rfl)), ?_⟩
  refine ⟨u, rfl, G, F1, [.d d], (fun _ => True), rfl, W, .cons hd .nil (fun z => nomatch z), rfl, ⟨d, rfl, hok, trivial⟩, fun r v F' H' x ry _ => ?_⟩
  have hH' : H' p = some (.ins C dx []) := x.h _ _ hH hp
  exact ⟨u, rfl, .ref p, rfl, p, C, dx, [], rfl, hH', cls, na, by decide, kk F' H' x⟩
end
end DL
set_option Elab.async false
set_option linter.all false
set_option maxRecDepth 100000
set_option maxHeartbeats 1000000
namespace DL
open PySem PySem.Spec PyProof.Rows L2
/-! ### the built-ins by name -/
def e1 (f : EV → (EV → Prop) → Prop) (ta : TD) : TD := fun ρ Q => ta ρ fun x => f x Q
def eA2 (f : List EV → (EV → Prop) → Prop) (ta tb : TD) : TD := fun ρ Q => ta ρ fun x => tb ρ fun y => f [x, y] Q
def blts : List Str := ["len", "isinstance", "all", "any", "sum", "abs", "range", "enumerate", "zip", "sorted", "tuple", "list", "min", "max", "repr", "int", "bool", "str"]
/-- no name of the module hides a built-in -/
structure Bt (mg : Str → Option Value) : Prop where
  n : ∀ x ∈ blts, mg x = none
abbrev Gs (S : Sx) (x : Str) : Prop := S.sc.names.lookup x = some .globalImplicit
section
variable {S : Sx} {e a b : Expr} {p pos p2 pos2 tpos : Pos} {ta tb : TD}
theorem db_len (B : Bt S.mg) (hg : Gs S "len") (ha : DE S a ta) (hs : ∀ env : PySem.Env, starEach [a] env = (false, eval a env) :: starEach [] env := by intro _; rfl) : DE S (.Call (.Name "len" p) [a] [] pos) (e1 fLen ta) :=
  de_callB (f := f1 fLen) (fun X c => by rw [← c.K]; exact call_len) rc_len hg (B.n _ (by decide)) boot_len (da_cons ha da_nil hs) (hs := hs)
theorem db_all (B : Bt S.mg) (hg : Gs S "all") (ha : DE S a ta) (hs : ∀ env : PySem.Env, starEach [a] env = (false, eval a env) :: starEach [] env := by intro _; rfl) : DE S (.Call (.Name "all" p) [a] [] pos) (e1 fAll ta) :=
  de_callB (f := f1 fAll) (fun X c => by rw [← c.K]; exact cr_all c.calm) rc_all hg (B.n _ (by decide)) boot_all (da_cons ha da_nil hs) (hs := hs)
theorem db_any (B : Bt S.mg) (hg : Gs S "any") (ha : DE S a ta) (hs : ∀ env : PySem.Env, starEach [a] env = (false, eval a env) :: starEach [] env := by intro _; rfl) : DE S (.Call (.Name "any" p) [a] [] pos) (e1 fAny ta) :=
  de_callB (f := f1 fAny) (fun X c => by rw [← c.K]; exact cr_any c.calm) rc_any hg (B.n _ (by decide)) boot_any (da_cons ha da_nil hs) (hs := hs)
theorem db_sum (B : Bt S.mg) (hg : Gs S "sum") (ha : DE S a ta) (hs : ∀ env : PySem.Env, starEach [a] env = (false, eval a env) :: starEach [] env := by intro _; rfl) : DE S (.Call (.Name "sum" p) [a] [] pos) (e1 fSum ta) :=
  de_callB (f := f1 fSum) (fun X c => by rw [← c.K]; exact cr_sum c.calm) rc_sum hg (B.n _ (by decide)) boot_sum (da_cons ha da_nil hs) (hs := hs)
theorem db_sumT (B : Bt S.mg) (hg : Gs S "sum") (ha : DE S a ta) (hs : ∀ env : PySem.Env, starEach [a] env = (false, eval a env) :: starEach [] env := by intro _; rfl) : DE S (.Call (.Name "sum" p) [a] [] pos) (e1 fSumT ta) :=
  de_callB (f := f1 fSumT) (fun X c => by rw [← c.K]; exact CR.cr_sumT c.calm) rc_sumT hg (B.n _ (by decide)) boot_sum (da_cons ha da_nil hs) (hs := hs)
theorem db_maxT (B : Bt S.mg) (hg : Gs S "max") (ha : DE S a ta) (hs : ∀ env : PySem.Env, starEach [a] env = (false, eval a env) :: starEach [] env := by intro _; rfl) : DE S (.Call (.Name "max" p) [a] [] pos) (e1 fMaxT ta) :=
  de_callB (f := f1 fMaxT) (fun X c => by rw [← c.K]; exact CR.cr_maxT c.hr) rc_maxT hg (B.n _ (by decide)) boot_max (da_cons ha da_nil hs) (hs := hs)
theorem db_minI (B : Bt S.mg) (hg : Gs S "min") (ha : DE S a ta) (hs : ∀ env : PySem.Env, starEach [a] env = (false, eval a env) :: starEach [] env := by intro _; rfl) : DE S (.Call (.Name "min" p) [a] [] pos) (e1 fMinI ta) :=
  de_callB (f := f1 fMinI) (fun X c => by rw [← c.K]; exact cr_min c.calm) rc_minI hg (B.n _ (by decide)) boot_min (da_cons ha da_nil hs) (hs := hs)
theorem db_minD (B : Bt S.mg) (hg : Gs S "min") (ha : DE S a ta) (hs : ∀ env : PySem.Env, starEach [a] env = (false, eval a env) :: starEach [] env := by intro _; rfl) : DE S (.Call (.Name "min" p) [a] [] pos) (e1 fMinD ta) :=
  de_callB (f := f1 fMinD) (fun X c => by rw [← c.K]; exact CR.cr_minD c.hr) rc_minD hg (B.n _ (by decide)) boot_min (da_cons ha da_nil hs) (hs := hs)
theorem db_max2 (B : Bt S.mg) (hg : Gs S "max") (ha : DE S a ta) (hb : DE S b tb) (hs : ∀ env : PySem.Env, starEach [a, b] env = (false, eval a env) :: starEach [b] env := by intro _; rfl) (hs2 : ∀ env : PySem.Env, starEach [b] env = (false, eval b env) :: starEach [] env := by intro _; rfl)
    (hpl : ∀ env : PySem.Env, (backTo pos (starEach [b] env)).any (·.1) = false := by intro _; rfl) : DE S (.Call (.Name "max" p) [a, b] [] pos) (eA2 fMax2 ta tb) :=
  de_callB (f := fMax2) (fun X c => call_max2 c.calm) rc_max2 hg (B.n _ (by decide)) boot_max (da_cons ha (da_cons hb da_nil hs2) hs) (hs := hs) (hpl := hpl)
theorem db_isi (B : Bt S.mg) (hg : Gs S "isinstance") (ha : DE S a ta) (hb : DE S b tb) (hs : ∀ env : PySem.Env, starEach [a, b] env = (false, eval a env) :: starEach [b] env := by intro _; rfl) (hs2 : ∀ env : PySem.Env, starEach [b] env = (false, eval b env) :: starEach [] env := by intro _; rfl)
    (hpl : ∀ env : PySem.Env, (backTo pos (starEach [b] env)).any (·.1) = false := by intro _; rfl) : DE S (.Call (.Name "isinstance" p) [a, b] [] pos) (eA2 fIsi' ta tb) :=
  de_callB (f := fIsi') (fun X c => by rw [← c.K]; exact call_isi) rc_isi hg (B.n _ (by decide)) boot_isinstance (da_cons ha (da_cons hb da_nil hs2) hs) (hs := hs) (hpl := hpl)
theorem db_abs (B : Bt S.mg) (hg : Gs S "abs") (ha : DE S a ta) (hs : ∀ env : PySem.Env, starEach [a] env = (false, eval a env) :: starEach [] env := by intro _; rfl) : DE S (.Call (.Name "abs" p) [a] [] pos) (e1 fAbs ta) :=
  de_callB (f := f1 fAbs) (fun X c => call_abs) rc_abs hg (B.n _ (by decide)) boot_abs (da_cons ha da_nil hs) (hs := hs)
theorem db_sortL (B : Bt S.mg) (hg : Gs S "sorted") (ha : DE S a ta) (hs : ∀ env : PySem.Env, starEach [a] env = (false, eval a env) :: starEach [] env := by intro _; rfl) : DE S (.Call (.Name "sorted" p) [a] [] pos) (e1 fSortL ta) :=
  de_callB (f := f1 fSortL) (fun X c => by rw [← c.K]; exact cr_sortedI) rc_sortL hg (B.n _ (by decide)) boot_sorted (da_cons ha da_nil hs) (hs := hs)
theorem db_sortT (B : Bt S.mg) (hg : Gs S "sorted") (ha : DE S a ta) (hs : ∀ env : PySem.Env, starEach [a] env = (false, eval a env) :: starEach [] env := by intro _; rfl) : DE S (.Call (.Name "sorted" p) [a] [] pos) (e1 fSortT ta) :=
  de_callB (f := f1 fSortT) (fun X c => by rw [← c.K]; exact CR.cr_sortTup) rc_sortT hg (B.n _ (by decide)) boot_sorted (da_cons ha da_nil hs) (hs := hs)
theorem db_sortS (B : Bt S.mg) (hg : Gs S "sorted") (ha : DE S a ta) (hs : ∀ env : PySem.Env, starEach [a] env = (false, eval a env) :: starEach [] env := by intro _; rfl) : DE S (.Call (.Name "sorted" p) [a] [] pos) (e1 fSortS ta) :=
  de_callB (f := f1 fSortS) (fun X c => by rw [← c.w]; exact cr_sortedSet c.calm) rc_sortS hg (B.n _ (by decide)) boot_sorted (da_cons ha da_nil hs) (hs := hs)
theorem db_list (B : Bt S.mg) (hg : Gs S "list") (ha : DE S a ta) (hs : ∀ env : PySem.Env, starEach [a] env = (false, eval a env) :: starEach [] env := by intro _; rfl) : DE S (.Call (.Name "list" p) [a] [] pos) (e1 fList ta) :=
  de_callTy (f := f1 fList) (fun X c => by rw [← c.K]; exact call_list_of) rc_list hg (B.n _ (by decide)) PyProof.Rows.boot_list (da_cons ha da_nil hs) (hs := hs)
theorem db_int (B : Bt S.mg) (hg : Gs S "int") (ha : DE S a ta) (hs : ∀ env : PySem.Env, starEach [a] env = (false, eval a env) :: starEach [] env := by intro _; rfl) : DE S (.Call (.Name "int" p) [a] [] pos) (e1 fInt ta) :=
  de_callTy (f := f1 fInt) (fun X c => call_int1) rc_int hg (B.n _ (by decide)) PyProof.Rows.boot_int (da_cons ha da_nil hs) (hs := hs)
theorem db_bool (B : Bt S.mg) (hg : Gs S "bool") (ha : DE S a ta) (hs : ∀ env : PySem.Env, starEach [a] env = (false, eval a env) :: starEach [] env := by intro _; rfl) : DE S (.Call (.Name "bool" p) [a] [] pos) (e1 fBool ta) :=
  de_callTy (f := f1 fBool) (fun X c => call_bool1) rc_bool hg (B.n _ (by decide)) PyProof.Rows.boot_bool (da_cons ha da_nil hs) (hs := hs)
theorem db_str (B : Bt S.mg) (hg : Gs S "str") (ha : DE S a ta) (hs : ∀ env : PySem.Env, starEach [a] env = (false, eval a env) :: starEach [] env := by intro _; rfl) : DE S (.Call (.Name "str" p) [a] [] pos) (e1 fStr ta) :=
  de_callTy (f := f1 fStr) (fun X c => call_str_int) rc_str hg (B.n _ (by decide)) PyProof.Rows.boot_str (da_cons ha da_nil hs) (hs := hs)
theorem db_repr (B : Bt S.mg) (hg : Gs S "repr") (ha : DE S a ta) (hs : ∀ env : PySem.Env, starEach [a] env = (false, eval a env) :: starEach [] env := by intro _; rfl) : DE S (.Call (.Name "repr" p) [a] [] pos) (e1 fRepr ta) :=
  de_callB (f := f1 fRepr) (fun X c => by rw [← c.K]; exact CR.cr_repr c.hr c.gd) rc_repr hg (B.n _ (by decide)) boot_repr (da_cons ha da_nil hs) (hs := hs)
theorem db_tuple (B : Bt S.mg) (hg : Gs S "tuple") (ha : DE S a ta) (hs : ∀ env : PySem.Env, starEach [a] env = (false, eval a env) :: starEach [] env := by intro _; rfl) : DE S (.Call (.Name "tuple" p) [a] [] pos) (eTuple ta) := de_tuple hg (B.n _ (by decide)) ha hs
theorem db_tupleN (B : Bt S.mg) (hg : Gs S "tuple") (ha : DE S a ta) (hs : ∀ env : PySem.Env, starEach [a] env = (false, eval a env) :: starEach [] env := by intro _; rfl) : DE S (.Call (.Name "tuple" p) [a] [] pos) (eTupleN ta) := de_tupleN hg (B.n _ (by decide)) ha hs
theorem db_tupRg (B : Bt S.mg) (hg : Gs S "tuple") (hg2 : Gs S "range") (ha : DE S a ta) (hs : ∀ env : PySem.Env, starEach [a] env = (false, eval a env) :: starEach [] env := by intro _; rfl) : DE S (.Call (.Name "tuple" p) [.Call (.Name "range" p2) [a] [] pos2] [] pos) (eTupRg ta) := de_tupRg hg (B.n _ (by decide)) hg2 (B.n _ (by decide)) ha hs
theorem dib_rng {m : Bool} {tg : Expr} (B : Bt S.mg) (hg : Gs S "range") (ha : DE S a ta) (hs : ∀ env : PySem.Env, starEach [a] env = [(false, eval a env)] := by intro _; rfl) : DI S m tg (.Call (.Name "range" p) [a] [] pos) (iR ta) := di_rng hg (B.n _ (by decide)) ha hs
theorem dib_enum {m : Bool} {elts : List Expr} {kk : Nat} (B : Bt S.mg) (hg : Gs S "enumerate") (ha : DE S a ta) (hs : ∀ env : PySem.Env, starEach [a] env = [(false, eval a env)] := by intro _; rfl) : DI S m (.Tuple elts kk tpos) (.Call (.Name "enumerate" p) [a] [] pos) (iE m ta) := di_enum hg (B.n _ (by decide)) ha hs
theorem dib_zip {m : Bool} {elts : List Expr} {kk : Nat} (B : Bt S.mg) (hg : Gs S "zip") (ha : DE S a ta) (hb : DE S b tb) (hs : ∀ env : PySem.Env, starEach [a, b] env = (false, eval a env) :: starEach [b] env := by intro _; rfl) (hs2 : ∀ env : PySem.Env, starEach [b] env = (false, eval b env) :: starEach [] env := by intro _; rfl)
    (hpl : ∀ env : PySem.Env, (backTo pos (starEach [b] env)).any (·.1) = false := by intro _; rfl) : DI S m (.Tuple elts kk tpos) (.Call (.Name "zip" p) [a, b] [] pos) (iZ ta tb) := di_zip hg (B.n _ (by decide)) ha hb hs hs2 hpl
theorem db_cls {x : Str} {T : String} (B : Bt S.mg) (hg : Gs S x) (hm : x ∈ blts) (hv : bootBuiltins x = some (.type T)) (hn : x ≠ "__name__" := by decide) (hdb : (x == ("__debug__" : Str)) = false := by decide) : DE S (.Name x p) (eC (.ty T)) := de_cls hg (B.n _ hm) hv hn hdb
end
/-! texts, the same or not -/
def fEqS : EV → EV → (EV → Prop) → Prop
  | .d (.str a), .d (.str b), Q => Q (.d (.bool (decide (a = b))))
  | _, _, _ => False
def fNeS : EV → EV → (EV → Prop) → Prop
  | .d (.str a), .d (.str b), Q => Q (.d (.bool (!decide (a = b))))
  | _, _, _ => False
theorem dec_strV {a b : Str} : decide (V.str a = V.str b) = decide (a = b) := by
  rw [Bool.eq_iff_iff, decide_eq_true_iff, decide_eq_true_iff]
  exact ⟨fun h => V.str.inj h, fun h => by rw [h]⟩
theorem r2_EqS {S : Sx} : R2Ok S rEq fEqS := by
  intro G H0 H0' F H u v x y Q C W hx hy hf k
  unfold fEqS at hf
  split at hf
  · cases hx; cases hy
    refine ⟨rfl, ?_⟩
    rw [dec_strV]
    exact kd W k (.bl _) hf
  · exact hf.elim
theorem r2_NeS {S : Sx} : R2Ok S rNe fNeS := by
  intro G H0 H0' F H u v x y Q C W hx hy hf k
  unfold fNeS at hf
  split at hf
  · cases hx; cases hy
    refine ⟨rfl, ?_⟩
    rw [dec_strV]
    exact kd W k (.bl _) hf
  · exact hf.elim
section
variable {S : Sx} {a b : Expr} {pos : Pos} {ta tb : TD}
theorem de_eqS (ha : DE S a ta) (hb : DE S b tb) : DE S (.Compare a [.Eq] [b] pos) (e2 fEqS ta tb) := de_cmp (fun _ _ => op_eq) r2_EqS ha hb (nomark _)
theorem de_neS (ha : DE S a ta) (hb : DE S b tb) : DE S (.Compare a [.NotEq] [b] pos) (e2 fNeS ta tb) := de_cmp (fun _ _ => op_ne) r2_NeS ha hb (nomark _)
theorem dt_eqS (ha : DE S a ta) (hb : DE S b tb) : DT S (.Compare a [.Eq] [b] pos) (eT (e2 fEqS ta tb)) := dt_cmp (fun _ _ => op_eq) r2_EqS ha hb (nomark _)
theorem dt_neS (ha : DE S a ta) (hb : DE S b tb) : DT S (.Compare a [.NotEq] [b] pos) (eT (e2 fNeS ta tb)) := dt_cmp (fun _ _ => op_ne) r2_NeS ha hb (nomark _)
end
/-- a def of the text, wherever it is called -/
structure DefW (P : Program) (w : World) (K : PySem.W.Frag) (mg : Str → Option Value) (base : Heap) (x : Str) (k : Nat) (ps : List Str) (sp : FD) : Prop where
  ex : ∃ f fd, FnGd P w K mg base k f fd ps (spV K w ps.length sp) ∧ mg x = some (.ref f) ∧ PySem.W.keepIn K (.ref f) = true ∧ Binds K fd ps [] ∧ RBinds K fd ps
theorem DefW.at {P : Program} {w : World} {K : PySem.W.Frag} {mg : Str → Option Value} {base : Heap} {x : Str} {j k : Nat} {ps : List Str} {sp : FD} (D : DefW P w K mg base x j ps sp) {N : List Str} {sc : Scope} {fn : Str → Bool} : Def ⟨N, sc, fn, P, w, K, mg, base, k⟩ x j ps sp := ⟨D.ex⟩
structure NetW (P : Program) (w : World) (K : PySem.W.Frag) (mg : Str → Option Value) (base : Heap) (k : Nat) (ok : PyData → Prop) : Prop where
  ex : ∃ C f fd, Mk K C f ∧ FnGd P w K mg base k f fd ["self", "things"] (spNet K C ok) ∧ mg "Net" = some (.ref C) ∧ Binds K fd ["self", "things"] [] ∧ Cls K C ∧ NoAttr K C "things"
theorem NetW.at {P : Program} {w : World} {K : PySem.W.Frag} {mg : Str → Option Value} {base : Heap} {j k : Nat} {ok : PyData → Prop} (D : NetW P w K mg base j ok) {N : List Str} {sc : Scope} {fn : Str → Bool} : DefNet ⟨N, sc, fn, P, w, K, mg, base, k⟩ j ok := ⟨D.ex⟩
end DL
set_option Elab.async false
set_option linter.all false
set_option maxRecDepth 100000
set_option maxHeartbeats 0
namespace K20
open PySem PySem.Spec PyProof.Rows L2
def top (i : Nat) : Stmt := PySem.Challenge.pw_allworlds_k20_whole_clusters_sizes_and_f.main.body.getD i (.Pass ⟨0, 0, 0, 0⟩)
abbrev s_fill_count : Stmt := top 1
abbrev s_is_integer : Stmt := top 9
abbrev s_is_number : Stmt := top 10
abbrev s_is_name : Stmt := top 11
abbrev s_are_numbers : Stmt := top 12
abbrev s_is_ascending : Stmt := top 13
abbrev s_is_listing : Stmt := top 14
abbrev s_shared_divisor : Stmt := top 17
abbrev s_common_bottom : Stmt := top 18
abbrev s_fraction_of : Stmt := top 19
abbrev s_is_fraction : Stmt := top 20
abbrev s_total_of_all : Stmt := top 21
abbrev s_are_weights : Stmt := top 23
abbrev s_is_row : Stmt := top 24
abbrev s_is_thing : Stmt := top 25
abbrev s_check_things : Stmt := top 26
abbrev s_parents_of : Stmt := top 28
abbrev s_family_of : Stmt := top 29
abbrev s_scopes_in : Stmt := top 31
abbrev s_is_sequence : Stmt := top 32
abbrev s_tied_things : Stmt := top 33
abbrev s_cluster_behind : Stmt := top 34
abbrev s_clusters_by : Stmt := top 35
abbrev s_scopes_left : Stmt := top 36
abbrev s_scopes_without : Stmt := top 37
abbrev s_flows_by : Stmt := top 38
abbrev s_settled_sequence : Stmt := top 39
abbrev s_lot_size : Stmt := top 40
abbrev s_sizes_by : Stmt := top 41
abbrev s_joined_cost : Stmt := top 42
abbrev s_cost_by : Stmt := top 43
abbrev s_greedy_sequence : Stmt := top 44
abbrev s__law_heap : Stmt := top 46
abbrev s__law_draw : Stmt := top 47
abbrev s__law_pick : Stmt := top 48
abbrev s__law_shuffled : Stmt := top 49
abbrev s__law_cluster : Stmt := top 50
abbrev s__law_size : Stmt := top 51
abbrev s__law_scopes : Stmt := top 52
abbrev s__law_net : Stmt := top 53
abbrev s__law_joined : Stmt := top 54
abbrev s__law_left : Stmt := top 55
abbrev s__law_flows : Stmt := top 56
abbrev s__law_flowing : Stmt := top 57
abbrev s__law_greedy : Stmt := top 58
abbrev s__law_clusters : Stmt := top 59
abbrev s__law_costs_right : Stmt := top 60
abbrev s__law_flows_right : Stmt := top 61
abbrev s__law_behind_right : Stmt := top 62
abbrev s__law_odd : Stmt := top 63
abbrev s__law_is_sequence : Stmt := top 64
abbrev s_law : Stmt := top 65
abbrev s_Net_init : Stmt := inClass (top 27) 0
end K20
set_option Elab.async false
set_option linter.all false
namespace K20
open PySem PySem.Spec PyProof.Rows L2 DL
def letters : Str := "abcdefghijklmnopqrstuvwxyz"
def one : PyData := .tuple [.int 1, .int 1]
structure Md (K : PySem.W.Frag) (mg : Str → Option Value) where
  tL : Tok
  tN : Tok
  letters : mg "LETTERS" = some (.str K20.letters tL)
  longest : mg "LONGEST_NAME" = some (.int 6 tN)
  aO : Addr
  one : mg "ONE" = some (.ref aO)
  oneT : ∀ H : Hp, SqT K H aO [.int 1, .int 1]
  oneD : ∀ H : Hp, DpAll K H [.int 1, .int 1] [.int 1, .int 1]
/-! ### data -/
def tI (ns : List Int) : PyData := .tuple (ns.map .int)
def lI (ns : List Int) : PyData := .list (ns.map .int)
def tS (ss : List (List Int)) : PyData := .tuple (ss.map tI)
def lS (ss : List (List Int)) : PyData := .list (ss.map tI)
def oD : Option Int → PyData
  | none => .none
  | some i => .int i
def tO (fs : List (Option Int)) : PyData := .tuple (fs.map oD)
/-- things below b, none twice -/
structure Sq (b : Int) (g : List Int) : Prop where
  nd : g.Nodup
  r : ∀ x ∈ g, 0 ≤ x ∧ x < b
structure Sc (b : Int) (ss : List (List Int)) : Prop where
  b8 : b ≤ 8
  len : ss.length ≤ 60
  s : ∀ s ∈ ss, Sq b s
/-! ### what the text computes -/
def tied (ss : List (List Int)) (t : Int) : List Int := (ss.filter fun s => decide (t ∈ s)).flatten
/-- the law's clusters -/
def act (g : List Int) (t : Int) (r s : List Int) : Bool := s.any fun a => decide (a ∈ r) && (decide (a = t) || decide (a ∈ g))
def swp1 (g : List Int) (t : Int) (r s : List Int) : List Int := if act g t r s = true then r ++ s.filter (fun a => decide (a ∉ r)) else r
def swp (ss : List (List Int)) (g : List Int) (t : Int) (r : List Int) : List Int := ss.foldl (swp1 g t) r
def swps (ss : List (List Int)) (g : List Int) (t : Int) : Nat → List Int → List Int
  | 0, r => r
  | n + 1, r => if (swp ss g t r).length = r.length then swp ss g t r else swps ss g t n (swp ss g t r)
def cl (ss : List (List Int)) (g : List Int) (t : Int) : List Int := srt ((swps ss g t (ss.length + 1) [t]).filter fun a => decide (a = t) || decide (a ∉ g))
def cls (ss : List (List Int)) (q : List Int) : List (List Int) := q.mapIdx fun i v => cl ss (q.take i) v
/-- what a thing leaves behind -/
def jn (ss : List (List Int)) (x : Int) : List Int := srt (((tied ss x).filter fun a => decide (a ≠ x)).foldl addN [])
def elim1 (ss : List (List Int)) (x : Int) : List (List Int) := (ss.filter fun s => decide (x ∉ s)) ++ [jn ss x]
def elim (ss : List (List Int)) (q : List Int) : List (List Int) := q.foldl elim1 ss
/-- the law's union of scopes -/
def lj (ss : List (List Int)) (x : Int) : List Int := srt (ss.foldl (fun f s => if x ∈ s then f ++ s.filter (fun a => decide (a ∉ f)) else f) [x])
def flws (cs : List (List Int)) (q : List Int) : List (Option Int) := cs.mapIdx fun i c => ((q.drop (i + 1)).filter fun a => decide (a ∈ c)).head?
/-- where a thing flows -/
def fo (l : List (Int × Option Int)) (v : Int) : Option Int := match l.find? fun e => decide (e.1 = v) with
  | some e => e.2
  | none => none
def rdy (fl : Int → Option Int) (left : List Int) : List Int := left.filter fun v => !(left.any fun u => decide (fl u = some v))
def stl (fl : Int → Option Int) : Nat → List Int → List Int
  | 0, _ => []
  | n + 1, left => match rdy fl left with
    | [] => []
    | v :: _ => v :: stl fl n (left.erase v)
def settle (ss : List (List Int)) (q : List Int) : List Int := stl (fo (q.zip (flws (cls ss q) q))) q.length (srt q)
def prd (cs : List Int) (lot : List Int) : Int := lot.foldl (fun m x => m * cs.getD x.toNat 0) 1
def szs (cs : List Int) (ss : List (List Int)) (q : List Int) : List Int := (cls ss q).map (prd cs)
/-- the law's greedy choice -/
def gpick (sz : Int → Int) (left : List Int) : Int := left.getD ((left.map sz).idxOf ((left.map sz).foldl min ((left.map sz).getD 0 0))) 0
def grd (cs : List Int) (ss : List (List Int)) : Nat → List Int → List Int → List Int
  | 0, _, found => found
  | n + 1, left, found => grd cs ss n (left.erase (gpick (fun v => prd cs (cl ss found v)) left)) (found ++ [gpick (fun v => prd cs (cl ss found v)) left])
def isI : PyData → Bool
  | .int _ => true
  | _ => false
def isN : PyData → Bool
  | .int i => decide (0 ≤ i)
  | _ => false
def isT : PyData → Option (List PyData)
  | .tuple xs => some xs
  | _ => none
def isq (lot : List Int) (x : PyData) : Bool := match isT x with
  | some xs => match intsOf xs with
    | some ns => decide (srt ns = lot)
    | none => false
  | none => false
/-! ### nets -/
structure Thg where
  name : Str
  c : Int
  ps : List Int
def row (c : Int) : PyData := .tuple (List.replicate c.toNat (.tuple [.int 1, .int c]))
def thgD (cs : List Int) (t : Thg) : PyData := .tuple [.str t.name, .int t.c, tI t.ps, .tuple (List.replicate (prd cs t.ps).toNat (row t.c))]
def nmOk (x : Str) : Prop := 1 ≤ x.length ∧ x.length ≤ 3 ∧ ∀ c ∈ x.cps.toList, c ∈ letters.cps.toList
structure TsOk (ts : List Thg) : Prop where
  len : 1 ≤ ts.length ∧ ts.length ≤ 8
  nm : ∀ t ∈ ts, nmOk t.name
  df : (ts.map (·.name)).Nodup
  c : ∀ t ∈ ts, t.c = 2 ∨ t.c = 3
  ps : ∀ (i : Nat) t, ts[i]? = some t → t.ps.Pairwise (· < ·) ∧ t.ps.length ≤ 3 ∧ ∀ x ∈ t.ps, 0 ≤ x ∧ x < i
def tsD (ts : List Thg) : PyData := .tuple (ts.map (thgD (ts.map (·.c))))
def okThings (d : PyData) : Prop := ∃ ts, TsOk ts ∧ d = tsD ts
def fam (ts : List Thg) : List (List Int) := ts.mapIdx fun i t => t.ps ++ [(i : Int)]
/-! ### promises -/
def sp_fill_count : FD := fun rs T => ∃ ns : List Int, rs = [.d (lI ns)] ∧ (∀ n ∈ ns, 0 ≤ n ∧ n ≤ 1000) ∧ T (.d (.int (ns.foldl (· * ·) 1)))
def sp_is_integer : FD := fun rs T => ∃ x, rs = [.d x] ∧ T (.d (.bool (isI x)))
def sp_is_number : FD := fun rs T => ∃ x, rs = [.d x] ∧ T (.d (.bool (isN x)))
def sp_is_name : FD := fun rs T => ∃ x, rs = [.d (.str x)] ∧ nmOk x ∧ T (.d (.bool true))
def sp_are_numbers : FD := fun rs T => ∃ x, rs = [.d x] ∧ (∀ xs, x = .tuple xs → xs.length ≤ 100) ∧ T (.d (.bool (match isT x with | some xs => xs.all isN | none => false)))
def sp_is_ascending : FD := fun rs T => ∃ ns : List Int, rs = [.d (tI ns)] ∧ ns.Pairwise (· < ·) ∧ ns.length ≤ 100 ∧ T (.d (.bool true))
def sp_is_listing : FD := fun rs T => ∃ (ns : List Int) (b : Int), rs = [.d (tI ns), .d (.int b)] ∧ ns.Pairwise (· < ·) ∧ ns.length ≤ 100 ∧ (∀ x ∈ ns, 0 ≤ x ∧ x < b) ∧ T (.d (.bool true))
def sp_shared_divisor : FD := fun rs T => ∃ a b : Int, rs = [.d (.int a), .d (.int b)] ∧ T (.d (.int (Int.gcd a b)))
def sp_common_bottom : FD := fun rs T => ∃ c : Int, rs = [.d (row c)] ∧ (c = 2 ∨ c = 3) ∧ T (.d (.int c))
def sp_fraction_of : FD := fun rs T => ∃ c : Int, rs = [.d (.int c), .d (.int c)] ∧ (c = 2 ∨ c = 3) ∧ T (.d one)
def sp_is_fraction : FD := fun rs T => ∃ c : Int, rs = [.d (.tuple [.int 1, .int c])] ∧ (c = 2 ∨ c = 3) ∧ T (.d (.bool true))
def sp_total_of_all : FD := fun rs T => ∃ c : Int, rs = [.d (row c)] ∧ (c = 2 ∨ c = 3) ∧ T (.d one)
def sp_are_weights : FD := fun rs T => ∃ c : Int, rs = [.d (row c), .d (.int c)] ∧ (c = 2 ∨ c = 3) ∧ T (.d (.bool true))
def sp_is_row : FD := fun rs T => ∃ c : Int, rs = [.d (row c), .d (.int c)] ∧ (c = 2 ∨ c = 3) ∧ T (.d (.bool true))
def sp_is_thing : FD := fun rs T => ∃ (ts : List Thg) (i : Nat) (t : Thg), rs = [.d (thgD (ts.map (·.c)) t), .d (.tuple ((ts.take i).map (thgD (ts.map (·.c)))))] ∧ TsOk ts ∧ ts[i]? = some t ∧ T (.d (.bool true))
def sp_check_things : FD := fun rs T => ∃ d, rs = [.d d] ∧ okThings d ∧ T (.d .none)
def sp_parents_of : FD := fun rs T => ∃ (ts : List Thg) (i : Nat) (t : Thg), rs = [.net (tsD ts), .d (.int (i : Int))] ∧ TsOk ts ∧ ts[i]? = some t ∧ T (.d (tI t.ps))
def sp_family_of : FD := fun rs T => ∃ (ts : List Thg) (i : Nat) (t : Thg), rs = [.net (tsD ts), .d (.int (i : Int))] ∧ TsOk ts ∧ ts[i]? = some t ∧ T (.d (tI (t.ps ++ [(i : Int)])))
def sp_scopes_in : FD := fun rs T => ∃ ts, rs = [.net (tsD ts)] ∧ TsOk ts ∧ T (.d (tS (fam ts)))
def sp_is_sequence : FD := fun rs T => ∃ (lot : List Int) (x : PyData), rs = [.d (tI lot), .d x] ∧ (∀ v ∈ lot, 0 ≤ v) ∧ (∀ xs, x = .tuple xs → xs.length ≤ 20) ∧ T (.d (.bool (isq lot x)))
def sp_tied_things : FD := fun rs T => ∃ (b : Int) (ss : List (List Int)) (t : Int), (rs = [.d (tS ss), .d (.int t)] ∨ rs = [.d (lS ss), .d (.int t)]) ∧ Sc b ss ∧ T (.o ((tied ss t).map .int))
def sp_cluster_behind : FD := fun rs T => ∃ (b : Int) (ss : List (List Int)) (g : List Int) (t : Int), rs = [.d (tS ss), .d (tI g), .d (.int t)] ∧ Sc b ss ∧ Sq b g ∧ 0 ≤ t ∧ t < b ∧ T (.d (tI (cl ss g t)))
def sp_clusters_by : FD := fun rs T => ∃ (b : Int) (ss : List (List Int)) (q : List Int), rs = [.d (tS ss), .d (tI q)] ∧ Sc b ss ∧ Sq b q ∧ T (.d (tS (cls ss q)))
def sp_scopes_left : FD := fun rs T => ∃ (b : Int) (ss : List (List Int)) (q : List Int), rs = [.d (tS ss), .d (tI q)] ∧ Sc b ss ∧ ss.length ≤ 50 ∧ Sq b q ∧ T (.d (tS (elim ss q)))
def sp_scopes_without : FD := fun rs T => ∃ (b : Int) (ss : List (List Int)) (lot : List Int), rs = [.d (tS ss), .d (tI lot)] ∧ Sc b ss ∧ Sq b lot ∧ T (.d (tS (ss.map fun s => s.filter fun a => decide (a ∉ lot))))
def sp_flows_by : FD := fun rs T => ∃ (b : Int) (ss : List (List Int)) (q : List Int), rs = [.d (tS ss), .d (tI q)] ∧ Sc b ss ∧ Sq b q ∧ T (.d (tO (flws (cls ss q) q)))
def sp_settled_sequence : FD := fun rs T => ∃ (b : Int) (ss : List (List Int)) (q : List Int), rs = [.d (tS ss), .d (tI q)] ∧ Sc b ss ∧ Sq b q ∧ T (.dn (tI (settle ss q)))
/-- the numbers of cases, and a lot that they tell of -/
structure CsOk (cs : List Int) (lot : List Int) : Prop where
  c : ∀ c ∈ cs, 0 ≤ c ∧ c ≤ 1000
  l : ∀ x ∈ lot, 0 ≤ x ∧ x < cs.length
  n : lot.length ≤ 60
def sp_lot_size : FD := fun rs T => ∃ (cs lot : List Int), rs = [.d (tI cs), .d (tI lot)] ∧ CsOk cs lot ∧ T (.d (.int (prd cs lot)))
def sp__law_size : FD := fun rs T => ∃ (cs lot : List Int), (rs = [.d (tI cs), .d (tI lot)] ∨ rs = [.d (lI cs), .d (lI lot)]) ∧ CsOk cs lot ∧ T (.d (.int (prd cs lot)))
def sp_sizes_by : FD := fun rs T => ∃ (cs : List Int) (ss : List (List Int)) (q : List Int), rs = [.d (tI cs), .d (tS ss), .d (tI q)] ∧ (∀ c ∈ cs, 0 ≤ c ∧ c ≤ 1000) ∧ Sc cs.length ss ∧ Sq cs.length q ∧ T (.d (tI (szs cs ss q)))
def sp_joined_cost : FD := fun rs T => ∃ (a b : Int), (rs = [.d (.str "greatest"), .d (.int a), .d (.int b)] ∧ T (.d (.int (if b > a then b else a)))) ∨ (rs = [.d (.str "total"), .d (.int a), .d (.int b)] ∧ T (.d (.int (a + b))))
def sp_cost_by : FD := fun rs T => ∃ (cs : List Int) (ss : List (List Int)) (q : List Int), (∀ c ∈ cs, 0 ≤ c ∧ c ≤ 1000) ∧ Sc cs.length ss ∧ Sq cs.length q ∧
  ((rs = [.d (tI cs), .d (tS ss), .d (tI q), .d (.str "greatest")] ∧ T (.d (.int ((szs cs ss q).foldl max 0)))) ∨ (rs = [.d (tI cs), .d (tS ss), .d (tI q), .d (.str "total")] ∧ T (.d (.int (szs cs ss q).sum))))
def sp_greedy_sequence : FD := fun rs T => ∃ (cs : List Int) (ss : List (List Int)) (lot : List Int), rs = [.d (tI cs), .d (tS ss), .d (tI lot)] ∧ (∀ c ∈ cs, 0 ≤ c ∧ c ≤ 1000) ∧ Sc cs.length ss ∧ Sq cs.length lot ∧ lot.Pairwise (· < ·) ∧ T (.d (tI (grd cs ss lot.length lot [])))
def sp__law_heap : FD := fun rs T => ∃ ns : List Int, rs = [.scr ns] ∧ (∀ n ∈ ns, n.natAbs < 2 ^ 1048590) ∧ ∀ (ms : List Int) (st : Int), Cells ms st → T (.o [.list (ms.map .int), .int st])
def sp__law_draw : FD := fun rs T => ∃ m : Int, rs = [.hp, .d (.int m)] ∧ 0 < m ∧ m < 1000 ∧ ∀ v : Int, 0 ≤ v → v < m → T (.d (.int v))
def sp__law_pick : FD := fun rs T => ∃ xs : List PyData, (rs = [.hp, .d (.list xs)] ∨ rs = [.hp, .d (.tuple xs)]) ∧ xs ≠ [] ∧ xs.length < 100 ∧ ∀ x ∈ xs, T (.d x)
def sp__law_shuffled : FD := fun rs T => ∃ q : List Int, rs = [.hp, .d (tI q)] ∧ q.length ≤ 8 ∧ ∀ s : List Int, s.Perm q → T (.dn (tI s))
def sp__law_cluster : FD := fun rs T => ∃ (b : Int) (ss : List (List Int)) (g : List Int) (t : Int), rs = [.d (tS ss), .d (tI g), .d (.int t)] ∧ Sc b ss ∧ Sq b g ∧ 0 ≤ t ∧ t < b ∧ T (.d (tI (cl ss g t)))
def sp__law_scopes : FD := fun rs T => ∃ m : Int, rs = [.hp, .d (.int m)] ∧ 1 ≤ m ∧ m ≤ 8 ∧ ∀ ss, Sc m ss → ss.length ≤ 50 → T (.d (tS ss))
def sp__law_net : FD := fun rs T => ∃ m : Int, rs = [.hp, .d (.int m)] ∧ 1 ≤ m ∧ m ≤ 8 ∧ ∀ ts : List Thg, TsOk ts → (ts.length : Int) = m → T (.d (tsD ts))
def sp__law_joined : FD := fun rs T => ∃ (b : Int) (ss : List (List Int)) (x : Int), (rs = [.d (tS ss), .d (.int x)] ∨ rs = [.d (lS ss), .d (.int x)]) ∧ Sc b ss ∧ 0 ≤ x ∧ x < b ∧ T (.d (tI (lj ss x)))
def sp__law_left : FD := fun rs T => ∃ (b : Int) (ss : List (List Int)) (q : List Int), rs = [.d (tS ss), .d (tI q)] ∧ Sc b ss ∧ ss.length ≤ 50 ∧ Sq b q ∧ T (.d (tS (elim ss q)))
def sp__law_flows : FD := fun rs T => ∃ (b : Int) (ss : List (List Int)) (q : List Int), rs = [.d (tS (cls ss q)), .d (tI q)] ∧ Sc b ss ∧ Sq b q ∧ T (.d (tO (flws (cls ss q) q)))
def sp__law_flowing : FD := fun rs T => ∃ (b : Int) (ss : List (List Int)) (q : List Int), Sc b ss ∧ Sq b q ∧
  ((rs = [.hp, .d (tO (flws (cls ss q) q)), .d (tI q), .d (.bool true)] ∧ T (.dn (tI (settle ss q)))) ∨
   (rs = [.hp, .d (tO (flws (cls ss q) q)), .d (tI q), .d (.bool false)] ∧ ∀ s : List Int, s.Perm q → T (.dn (tI s))))
def sp__law_greedy : FD := fun rs T => ∃ (cs : List Int) (ss : List (List Int)) (lot : List Int), rs = [.d (tI cs), .d (tS ss), .d (tI lot)] ∧ (∀ c ∈ cs, 0 ≤ c ∧ c ≤ 1000) ∧ Sc cs.length ss ∧ Sq cs.length lot ∧ lot.Pairwise (· < ·) ∧ T (.d (tI (grd cs ss lot.length lot [])))
def sp__law_clusters : FD := fun rs T => ∃ (b : Int) (ss : List (List Int)) (q : List Int), rs = [.d (tS ss), .d (tI q)] ∧ Sc b ss ∧ Sq b q ∧ T (.d (tS (cls ss q)))
def sp__law_costs_right : FD := fun rs T => ∃ (cs : List Int) (ss : List (List Int)) (q : List Int), rs = [.d (tI cs), .d (tS ss), .d (tI q), .d (tS (cls ss q))] ∧ (∀ c ∈ cs, 0 ≤ c ∧ c ≤ 1000) ∧ Sc cs.length ss ∧ ss.length ≤ 50 ∧ Sq cs.length q ∧ T (.d (.bool true))
def sp__law_flows_right : FD := fun rs T => ∃ (b : Int) (ss : List (List Int)) (q : List Int), rs = [.hp, .d (tS ss), .d (tI q), .d (tS (cls ss q))] ∧ Sc b ss ∧ Sq b q ∧ T (.d (.bool true))
def sp__law_behind_right : FD := fun rs T => ∃ (b : Int) (ss : List (List Int)) (th : List Int), rs = [.hp, .d (tS ss), .d (tI th)] ∧ Sc b ss ∧ Sq b th ∧ th ≠ [] ∧ T (.d (.bool true))
def sp__law_odd : FD := fun rs T => ∃ q : List Int, rs = [.hp, .d (tI q)] ∧ q.length ≤ 8 ∧ (∀ x ∈ q, 0 ≤ x ∧ x < 8) ∧ ∀ x : PyData, (∀ xs, x = .tuple xs → xs.length ≤ 20) → (∀ kvs, x ≠ .dict kvs) → T (.d x)
def sp__law_is_sequence : FD := fun rs T => ∃ (lot : List Int) (x : PyData), rs = [.d (tI lot), .d x] ∧ (∀ xs, x = .tuple xs → xs.length ≤ 20) ∧ T (.d (.bool (isq lot x)))
def sp_law : FD := fun rs T => ∃ ns : List Int, rs = [.scr ns] ∧ T (.d (.bool true))
end K20
set_option Elab.async false
set_option linter.all false
set_option maxRecDepth 100000
set_option maxHeartbeats 1000000
namespace K20
open PySem PySem.Spec PyProof.Rows L2 DL
/-! ### clusters, plainly -/
def Adj (ss : List (List Int)) (u v : Int) : Prop := ∃ s ∈ ss, u ∈ s ∧ v ∈ s
theorem Adj.symm {ss : List (List Int)} {u v : Int} (h : Adj ss u v) : Adj ss v u := let ⟨s, a, b, c⟩ := h; ⟨s, a, c, b⟩
inductive Reach (ss : List (List Int)) (g : List Int) (t : Int) : Int → Prop
  | refl : Reach ss g t t
  | step {u v : Int} (h : Reach ss g t u) (p : u = t ∨ u ∈ g) (a : Adj ss u v) : Reach ss g t v
def InC (ss : List (List Int)) (g : List Int) (t v : Int) : Prop := Reach ss g t v ∧ (v = t ∨ v ∉ g)
theorem Reach.trans {ss : List (List Int)} {g : List Int} {a b c : Int} (h : Reach ss g a b) (p : b = a ∨ b ∈ g) (k : Reach ss g b c) : Reach ss g a c := by
  induction k with
  | refl => exact h
  | step k q d ih => exact .step ih (q.elim (fun e => e ▸ p) .inr) d
theorem Reach.symm {ss : List (List Int)} {g : List Int} {a b : Int} (h : Reach ss g a b) : Reach ss g b a := by
  induction h with
  | refl => exact .refl
  | step h p d ih =>
    rename_i u v
    have hv : Reach ss g v u := .step .refl (.inl rfl) d.symm
    rcases p with e | e
    · rw [e] at hv; exact hv
    · exact hv.trans (.inr e) ih
theorem Reach.mono {ss : List (List Int)} {g g' : List Int} {a b : Int} (hg : ∀ x ∈ g, x ∈ g') (h : Reach ss g a b) : Reach ss g' a b := by
  induction h with
  | refl => exact .refl
  | step h p d ih => exact .step ih (p.imp id (hg _)) d
theorem Reach.congr {ss : List (List Int)} {g g' : List Int} {a b : Int} (hg : ∀ x, x ∈ g ↔ x ∈ g') : Reach ss g a b ↔ Reach ss g' a b := ⟨Reach.mono fun x => (hg x).mp, Reach.mono fun x => (hg x).mpr⟩
theorem InC.congr {ss : List (List Int)} {g g' : List Int} {a b : Int} (hg : ∀ x, x ∈ g ↔ x ∈ g') : InC ss g a b ↔ InC ss g' a b := by
  unfold InC
  rw [Reach.congr hg, hg b]
theorem Reach.range {b : Int} {ss : List (List Int)} (h : Sc b ss) {g : List Int} {t v : Int} (ht : 0 ≤ t ∧ t < b) (r : Reach ss g t v) : 0 ≤ v ∧ v < b := by
  cases r with
  | refl => exact ht
  | step r p d => obtain ⟨s, hs, _, hv⟩ := d; exact (h.s s hs).r v hv
/-! ### the law's sweeps -/
section
variable {g : List Int} {t : Int}
theorem sub1 {r s : List Int} {a : Int} (h : a ∈ r) : a ∈ swp1 g t r s := by
  unfold swp1
  split
  · exact List.mem_append_left _ h
  · exact h
theorem len1 (r s : List Int) : r.length ≤ (swp1 g t r s).length := by
  unfold swp1
  split
  · rw [List.length_append]; omega
  · exact Nat.le_refl _
theorem act_all {r s : List Int} (h : act g t r s = true) : ∀ a ∈ s, a ∈ swp1 g t r s := fun a ha => by
  unfold swp1
  rw [if_pos h]
  by_cases k : a ∈ r
  · exact List.mem_append_left _ k
  · exact List.mem_append_right _ (List.mem_filter.mpr ⟨ha, by simpa using k⟩)
theorem subS : ∀ {ss : List (List Int)} {r : List Int} {a : Int}, a ∈ r → a ∈ swp ss g t r
  | [], _, _, h => h
  | s :: ss, r, a, h => subS (ss := ss) (sub1 h)
theorem lenS : ∀ (ss : List (List Int)) (r : List Int), r.length ≤ (swp ss g t r).length
  | [], _ => Nat.le_refl _
  | s :: ss, r => Nat.le_trans (len1 r s) (lenS ss _)
theorem same1 {r s : List Int} (h : (swp1 g t r s).length ≤ r.length) : swp1 g t r s = r ∧ (act g t r s = true → ∀ a ∈ s, a ∈ r) := by
  by_cases k : act g t r s = true
  · have e : swp1 g t r s = r ++ s.filter (fun a => decide (a ∉ r)) := by unfold swp1; rw [if_pos k]
    rw [e, List.length_append] at h
    have z : s.filter (fun a => decide (a ∉ r)) = [] := List.eq_nil_of_length_eq_zero (by omega)
    refine ⟨by rw [e, z, List.append_nil], fun _ a ha => ?_⟩
    have := List.filter_eq_nil_iff.mp z a ha
    simpa using this
  · exact ⟨by unfold swp1; rw [if_neg k], fun z => absurd z k⟩
theorem sameS : ∀ {ss : List (List Int)} {r : List Int}, (swp ss g t r).length ≤ r.length → swp ss g t r = r ∧ ∀ s ∈ ss, act g t r s = true → ∀ a ∈ s, a ∈ r
  | [], r, _ => ⟨rfl, fun s h => nomatch h⟩
  | s :: ss, r, h => by
    have h1 : (swp ss g t (swp1 g t r s)).length ≤ r.length := h
    have h2 := lenS (g := g) (t := t) ss (swp1 g t r s)
    obtain ⟨e, k⟩ := same1 (g := g) (t := t) (r := r) (s := s) (by omega)
    obtain ⟨e2, k2⟩ := sameS (ss := ss) (r := swp1 g t r s) (by have := len1 (g := g) (t := t) r s; omega)
    rw [e] at e2 k2
    refine ⟨by show swp ss g t (swp1 g t r s) = r; rw [e]; exact e2, fun s' hs => ?_⟩
    rcases List.mem_cons.mp hs with rfl | hs
    · exact k
    · exact k2 s' hs
/-- a sweep that grows fills a scope that was not full -/
theorem growS : ∀ {ss : List (List Int)} {r : List Int}, r.length < (swp ss g t r).length → ∃ s ∈ ss, (∀ a ∈ s, a ∈ swp ss g t r) ∧ ∃ a ∈ s, a ∉ r
  | [], r, h => absurd h (Nat.lt_irrefl _)
  | s :: ss, r, h => by
    have h : r.length < (swp ss g t (swp1 g t r s)).length := h
    by_cases k : (swp1 g t r s).length ≤ r.length
    · obtain ⟨e, _⟩ := same1 k
      rw [e] at h
      obtain ⟨s', hs, a1, a2⟩ := growS h
      refine ⟨s', List.mem_cons_of_mem _ hs, ?_, a2⟩
      show ∀ a ∈ s', a ∈ swp ss g t (swp1 g t r s)
      rw [e]; exact a1
    · have ka : act g t r s = true := by
        by_cases z : act g t r s = true
        · exact z
        · exfalso; apply k; unfold swp1; rw [if_neg z]; exact Nat.le_refl _
      refine ⟨s, List.mem_cons_self, fun a ha => subS (ss := ss) (act_all ka a ha), ?_⟩
      apply Classical.byContradiction
      intro z
      apply k
      unfold swp1
      rw [if_pos ka]
      have : s.filter (fun a => decide (a ∉ r)) = [] := List.filter_eq_nil_iff.mpr fun a ha => by
        have : a ∈ r := Classical.byContradiction fun n => z ⟨a, ha, n⟩
        simpa using this
      rw [this, List.append_nil]; exact Nat.le_refl _
def full (r s : List Int) : Bool := s.all fun a => decide (a ∈ r)
theorem full_iff {r s : List Int} : full r s = true ↔ ∀ a ∈ s, a ∈ r := by
  unfold full
  rw [List.all_eq_true]
  exact ⟨fun h a ha => of_decide_eq_true (h a ha), fun h a ha => decide_eq_true (h a ha)⟩
def unsat (ss : List (List Int)) (r : List Int) : Nat := ss.countP fun s => !full r s
theorem countP_lt {α : Type} {p q : α → Bool} : ∀ {xs : List α}, (∀ x ∈ xs, p x = true → q x = true) → (∃ x ∈ xs, q x = true ∧ p x = false) → xs.countP p < xs.countP q
  | [], _, ⟨x, h, _⟩ => nomatch h
  | x :: xs, h, ⟨y, hy, qy, py⟩ => by
    have hle : xs.countP p ≤ xs.countP q := List.countP_mono_left fun z hz => h z (List.mem_cons_of_mem _ hz)
    rw [List.countP_cons, List.countP_cons]
    by_cases e : y = x
    · subst e
      rw [qy, py]
      simp
      omega
    · have hy := (List.mem_cons.mp hy).resolve_left e
      have ih := countP_lt (xs := xs) (fun z hz => h z (List.mem_cons_of_mem _ hz)) ⟨y, hy, qy, py⟩
      have : (if p x = true then 1 else 0) ≤ (if q x = true then 1 else 0) := by
        by_cases px : p x = true
        · rw [if_pos px, if_pos (h x List.mem_cons_self px)]; exact Nat.le_refl _
        · rw [if_neg px]; exact Nat.zero_le _
      omega
structure Closed (ss : List (List Int)) (g : List Int) (t : Int) (r : List Int) : Prop where
  c : ∀ s ∈ ss, act g t r s = true → ∀ a ∈ s, a ∈ r
theorem swps_closed {ss : List (List Int)} : ∀ (n : Nat) (r : List Int), unsat ss r < n → Closed ss g t (swps ss g t n r)
  | 0, r, h => absurd h (Nat.not_lt_zero _)
  | n + 1, r, h => by
    unfold swps
    split
    · rename_i e
      obtain ⟨e1, k⟩ := sameS (g := g) (t := t) (ss := ss) (r := r) (by omega)
      rw [e1]
      exact ⟨k⟩
    · rename_i e
      have hl := lenS (g := g) (t := t) ss r
      obtain ⟨s, hs, a1, a, ha, na⟩ := growS (g := g) (t := t) (ss := ss) (r := r) (by omega)
      refine swps_closed n _ (Nat.lt_of_lt_of_le (countP_lt (fun s hs hp => ?_) ⟨s, hs, ?_, ?_⟩) (Nat.le_of_lt_succ h))
      · have hp : full (swp ss g t r) s = false := by simpa using hp
        have : full r s = false := by
          cases z : full r s with
          | false => rfl
          | true =>
            have := full_iff.mp z
            rw [full_iff.mpr fun a ha => subS (this a ha)] at hp
            cases hp
        simp [this]
      · have : full r s = false := by
          cases z : full r s with
          | false => rfl
          | true => exact absurd (full_iff.mp z a ha) na
        simp [this]
      · have : full (swp ss g t r) s = true := full_iff.mpr a1
        simp [this]
theorem swps_sub {ss : List (List Int)} : ∀ (n : Nat) (r : List Int) {a : Int}, a ∈ r → a ∈ swps ss g t n r
  | 0, r, a, h => h
  | n + 1, r, a, h => by
    unfold swps
    split
    · exact subS h
    · exact swps_sub n _ (subS h)
theorem act_iff {r s : List Int} : act g t r s = true ↔ ∃ a ∈ s, a ∈ r ∧ (a = t ∨ a ∈ g) := by
  unfold act
  rw [List.any_eq_true]
  simp
theorem reach1 {ss : List (List Int)} {r s : List Int} (hs : s ∈ ss) (h : ∀ a ∈ r, Reach ss g t a) : ∀ a ∈ swp1 g t r s, Reach ss g t a := fun a ha => by
  unfold swp1 at ha
  split at ha
  · rename_i k
    rcases List.mem_append.mp ha with m | m
    · exact h a m
    · obtain ⟨u, hu, hr, p⟩ := act_iff.mp k
      exact .step (h u hr) p ⟨s, hs, hu, (List.mem_filter.mp m).1⟩
  · exact h a ha
theorem reachS {ss0 : List (List Int)} : ∀ {ss : List (List Int)} {r : List Int}, (∀ s ∈ ss, s ∈ ss0) → (∀ a ∈ r, Reach ss0 g t a) → ∀ a ∈ swp ss g t r, Reach ss0 g t a
  | [], r, _, h => h
  | s :: ss, r, hs, h => reachS (ss := ss) (fun x hx => hs x (List.mem_cons_of_mem _ hx)) (reach1 (hs s List.mem_cons_self) h)
theorem reachSs {ss : List (List Int)} : ∀ (n : Nat) (r : List Int), (∀ a ∈ r, Reach ss g t a) → ∀ a ∈ swps ss g t n r, Reach ss g t a
  | 0, r, h => h
  | n + 1, r, h => by
    unfold swps
    split
    · exact reachS (fun _ h => h) h
    · exact reachSs n _ (reachS (fun _ h => h) h)
theorem nd1 {r s : List Int} (hr : r.Nodup) (hs : s.Nodup) : (swp1 g t r s).Nodup := by
  unfold swp1
  split
  · rw [List.nodup_append]
    refine ⟨hr, hs.filter _, fun a ha b hb e => ?_⟩
    subst e
    have := (List.mem_filter.mp hb).2
    simp at this
    exact this ha
  · exact hr
theorem ndS : ∀ {ss : List (List Int)} {r : List Int}, (∀ s ∈ ss, s.Nodup) → r.Nodup → (swp ss g t r).Nodup
  | [], r, _, h => h
  | s :: ss, r, hs, h => ndS (ss := ss) (fun x hx => hs x (List.mem_cons_of_mem _ hx)) (nd1 h (hs s List.mem_cons_self))
theorem ndSs {ss : List (List Int)} (hs : ∀ s ∈ ss, s.Nodup) : ∀ (n : Nat) (r : List Int), r.Nodup → (swps ss g t n r).Nodup
  | 0, r, h => h
  | n + 1, r, h => by
    unfold swps
    split
    · exact ndS hs h
    · exact ndSs hs n _ (ndS hs h)
/-- a list that is closed and begins at t has all that is reached -/
theorem reach_mem {ss : List (List Int)} {r : List Int} (c : Closed ss g t r) (ht : t ∈ r) {v : Int} (h : Reach ss g t v) : v ∈ r := by
  induction h with
  | refl => exact ht
  | step h p d ih =>
    obtain ⟨s, hs, hu, hv⟩ := d
    exact c.c s hs (act_iff.mpr ⟨_, hu, ih, p⟩) _ hv
theorem mem_swps {ss : List (List Int)} {v : Int} : v ∈ swps ss g t (ss.length + 1) [t] ↔ Reach ss g t v :=
  ⟨fun h => reachSs _ _ (fun a ha => by rw [List.mem_singleton.mp ha]; exact .refl) v h,
    fun h => reach_mem (swps_closed _ _ (Nat.lt_succ_of_le List.countP_le_length)) (swps_sub _ _ (by simp)) h⟩
end
theorem srt_mem {ns : List Int} {v : Int} : v ∈ srt ns ↔ v ∈ ns := (srt_perm ns).mem_iff
theorem srt_congr {as bs : List Int} (h : as.Perm bs) : srt as = srt bs := perm_sorted ((srt_perm as).trans (h.trans (srt_perm bs).symm)) (srt_sorted as) (srt_sorted bs)
theorem srt_self {as : List Int} (h : as.Pairwise (· ≤ ·)) : srt as = as := (srt_eq (List.Perm.refl _) h).symm
theorem mem_cl {ss : List (List Int)} {g : List Int} {t v : Int} : v ∈ cl ss g t ↔ InC ss g t v := by
  unfold cl InC
  rw [srt_mem, List.mem_filter, mem_swps]
  simp
theorem cl_eq {ss : List (List Int)} {g : List Int} {t : Int} {r : List Int} (hs : ∀ s ∈ ss, s.Nodup) (nd : r.Nodup) (h : ∀ v, v ∈ r ↔ Reach ss g t v) : srt (r.filter fun a => decide (a = t) || decide (a ∉ g)) = cl ss g t := by
  unfold cl
  refine srt_congr (List.Perm.filter _ (perm_of_mem nd (ndSs hs _ _ (by simp)) fun v => ?_))
  rw [h, mem_swps]
theorem strict_of {as : List Int} (h : as.Pairwise (· ≤ ·)) (n : as.Nodup) : as.Pairwise (· < ·) := (List.pairwise_and_iff.mpr ⟨h, n⟩).imp fun z => by omega
theorem cl_strict {ss : List (List Int)} (hs : ∀ s ∈ ss, s.Nodup) (g : List Int) (t : Int) : (cl ss g t).Pairwise (· < ·) :=
  strict_of (srt_sorted _) ((srt_perm _).nodup_iff.mpr ((ndSs hs _ _ (by simp)).filter _))
theorem strict_ext {as bs : List Int} (ha : as.Pairwise (· < ·)) (hb : bs.Pairwise (· < ·)) (h : ∀ v, v ∈ as ↔ v ∈ bs) : as = bs :=
  perm_sorted (perm_of_mem (nodup_lt ha) (nodup_lt hb) h) (ha.imp fun z => Int.le_of_lt z) (hb.imp fun z => Int.le_of_lt z)
theorem cl_congr {ss : List (List Int)} (hs : ∀ s ∈ ss, s.Nodup) {g g' : List Int} (t : Int) (hg : ∀ x, x ∈ g ↔ x ∈ g') : cl ss g t = cl ss g' t :=
  strict_ext (cl_strict hs g t) (cl_strict hs g' t) fun v => by rw [mem_cl, mem_cl, InC.congr hg]
end K20
set_option Elab.async false
set_option linter.all false
set_option maxRecDepth 100000
set_option maxHeartbeats 1000000
namespace K20
open PySem PySem.Spec PyProof.Rows L2 DL
/-! ### things leave: unions of scopes -/
theorem mem_tied {ss : List (List Int)} {x v : Int} : v ∈ tied ss x ↔ Adj ss x v := by
  unfold tied Adj
  rw [List.mem_flatten]
  constructor
  · rintro ⟨s, hs, hv⟩
    obtain ⟨a, b⟩ := List.mem_filter.mp hs
    exact ⟨s, a, of_decide_eq_true b, hv⟩
  · rintro ⟨s, hs, hx, hv⟩
    exact ⟨s, List.mem_filter.mpr ⟨hs, decide_eq_true hx⟩, hv⟩
theorem mem_foldAdd : ∀ {xs acc : List Int} {v : Int}, v ∈ xs.foldl addN acc ↔ v ∈ acc ∨ v ∈ xs
  | [], acc, v => by simp
  | x :: xs, acc, v => by
    rw [List.foldl_cons, mem_foldAdd, addN_mem, List.mem_cons, or_assoc]
theorem nd_foldAdd : ∀ {xs acc : List Int}, acc.Nodup → (xs.foldl addN acc).Nodup
  | [], _, h => h
  | x :: xs, _, h => nd_foldAdd (xs := xs) (addN_nodup h)
theorem mem_jn {ss : List (List Int)} {x v : Int} : v ∈ jn ss x ↔ v ≠ x ∧ Adj ss x v := by
  unfold jn
  rw [srt_mem, mem_foldAdd, List.mem_filter, mem_tied]
  simp [and_comm]
theorem jn_strict (ss : List (List Int)) (x : Int) : (jn ss x).Pairwise (· < ·) := strict_of (srt_sorted _) ((srt_perm _).nodup_iff.mpr (nd_foldAdd List.nodup_nil))
theorem mem_ljF {x : Int} : ∀ {ss : List (List Int)} {f : List Int} {v : Int}, v ∈ ss.foldl (fun f s => if x ∈ s then f ++ s.filter (fun a => decide (a ∉ f)) else f) f ↔ v ∈ f ∨ ∃ s ∈ ss, x ∈ s ∧ v ∈ s
  | [], f, v => by simp
  | s :: ss, f, v => by
    rw [List.foldl_cons, mem_ljF]
    by_cases h : x ∈ s
    · rw [if_pos h, List.mem_append, List.mem_filter]
      constructor
      · rintro ((a | ⟨a, _⟩) | ⟨s', a, b, c⟩)
        · exact .inl a
        · exact .inr ⟨s, List.mem_cons_self, h, a⟩
        · exact .inr ⟨s', List.mem_cons_of_mem _ a, b, c⟩
      · rintro (a | ⟨s', a, b, c⟩)
        · exact .inl (.inl a)
        · rcases List.mem_cons.mp a with rfl | a
          · by_cases k : v ∈ f
            · exact .inl (.inl k)
            · exact .inl (.inr ⟨c, by simpa using k⟩)
          · exact .inr ⟨s', a, b, c⟩
    · rw [if_neg h]
      constructor
      · rintro (a | ⟨s', a, b, c⟩)
        · exact .inl a
        · exact .inr ⟨s', List.mem_cons_of_mem _ a, b, c⟩
      · rintro (a | ⟨s', a, b, c⟩)
        · exact .inl a
        · rcases List.mem_cons.mp a with rfl | a
          · exact absurd b h
          · exact .inr ⟨s', a, b, c⟩
theorem nd_ljF {x : Int} : ∀ {ss : List (List Int)} {f : List Int}, (∀ s ∈ ss, s.Nodup) → f.Nodup → (ss.foldl (fun f s => if x ∈ s then f ++ s.filter (fun a => decide (a ∉ f)) else f) f).Nodup
  | [], f, _, h => h
  | s :: ss, f, hs, h => by
    rw [List.foldl_cons]
    refine nd_ljF (fun y hy => hs y (List.mem_cons_of_mem _ hy)) ?_
    split
    · rw [List.nodup_append]
      refine ⟨h, (hs s List.mem_cons_self).filter _, fun a ha b hb e => ?_⟩
      subst e
      have := (List.mem_filter.mp hb).2
      simp at this
      exact this ha
    · exact h
theorem mem_lj {ss : List (List Int)} {x v : Int} : v ∈ lj ss x ↔ v = x ∨ Adj ss x v := by
  unfold lj
  rw [srt_mem, mem_ljF, List.mem_singleton]
  rfl
theorem lj_strict {ss : List (List Int)} (hs : ∀ s ∈ ss, s.Nodup) (x : Int) : (lj ss x).Pairwise (· < ·) := strict_of (srt_sorted _) ((srt_perm _).nodup_iff.mpr (nd_ljF hs (by simp)))
theorem lj_jn {ss : List (List Int)} (hs : ∀ s ∈ ss, s.Nodup) (x : Int) : (lj ss x).filter (fun a => decide (a ≠ x)) = jn ss x :=
  strict_ext ((lj_strict hs x).filter _) (jn_strict ss x) fun v => by
    rw [List.mem_filter, mem_lj, mem_jn]
    simp only [decide_eq_true_eq]
    constructor
    · rintro ⟨a | a, b⟩
      · exact absurd a b
      · exact ⟨b, a⟩
    · rintro ⟨a, b⟩
      exact ⟨.inr b, a⟩
theorem adj_elim {ss : List (List Int)} {x u v : Int} : Adj (elim1 ss x) u v ↔ (∃ s ∈ ss, x ∉ s ∧ u ∈ s ∧ v ∈ s) ∨ (u ≠ x ∧ v ≠ x ∧ Adj ss x u ∧ Adj ss x v) := by
  unfold Adj elim1
  constructor
  · rintro ⟨s, hs, hu, hv⟩
    rcases List.mem_append.mp hs with m | m
    · obtain ⟨a, b⟩ := List.mem_filter.mp m
      exact .inl ⟨s, a, of_decide_eq_true b, hu, hv⟩
    · rw [List.mem_singleton.mp m] at hu hv
      obtain ⟨a, b⟩ := mem_jn.mp hu
      obtain ⟨c, d⟩ := mem_jn.mp hv
      exact .inr ⟨a, c, b, d⟩
  · rintro (⟨s, hs, hx, hu, hv⟩ | ⟨a, b, c, d⟩)
    · exact ⟨s, List.mem_append_left _ (List.mem_filter.mpr ⟨hs, decide_eq_true hx⟩), hu, hv⟩
    · exact ⟨jn ss x, List.mem_append_right _ (by simp), mem_jn.mpr ⟨a, c⟩, mem_jn.mpr ⟨b, d⟩⟩
theorem adj_old {ss : List (List Int)} {x u v : Int} (hu : u ≠ x) (hv : v ≠ x) (h : Adj ss u v) : Adj (elim1 ss x) u v := by
  obtain ⟨s, hs, a, b⟩ := h
  by_cases k : x ∈ s
  · exact adj_elim.mpr (.inr ⟨hu, hv, ⟨s, hs, k, a⟩, ⟨s, hs, k, b⟩⟩)
  · exact adj_elim.mpr (.inl ⟨s, hs, k, a, b⟩)
theorem adj_ne {ss : List (List Int)} {x u v : Int} (h : Adj (elim1 ss x) u v) : u ≠ x ∧ v ≠ x := by
  rcases adj_elim.mp h with ⟨s, _, hx, hu, hv⟩ | ⟨a, b, _⟩
  · exact ⟨fun e => hx (e ▸ hu), fun e => hx (e ▸ hv)⟩
  · exact ⟨a, b⟩
theorem reach_to {ss : List (List Int)} {g : List Int} {x t v : Int} (htx : t ≠ x) (hx : x ∉ g) (h : Reach ss (x :: g) t v) : (v ≠ x → Reach (elim1 ss x) g t v) ∧ (v = x → ∃ u, Reach (elim1 ss x) g t u ∧ (u = t ∨ u ∈ g) ∧ Adj ss u x) := by
  induction h with
  | refl => exact ⟨fun _ => .refl, fun e => absurd e htx⟩
  | step h p d ih =>
    rename_i u w
    by_cases hu : u = x
    · obtain ⟨u0, r0, p0, d0⟩ := ih.2 hu
      have n0 : u0 ≠ x := fun e => p0.elim (fun z => htx (z ▸ e)) fun z => hx (e ▸ z)
      refine ⟨fun hw => ?_, fun _ => ⟨u0, r0, p0, d0⟩⟩
      exact .step r0 p0 (adj_elim.mpr (.inr ⟨n0, hw, d0.symm, hu ▸ d⟩))
    · have pu : u = t ∨ u ∈ g := p.imp id fun z => (List.mem_cons.mp z).resolve_left hu
      refine ⟨fun hw => .step (ih.1 hu) pu (adj_old hu hw d), fun hw => ⟨u, ih.1 hu, pu, hw ▸ d⟩⟩
theorem reach_from {ss : List (List Int)} {g : List Int} {x t v : Int} (h : Reach (elim1 ss x) g t v) : Reach ss (x :: g) t v := by
  induction h with
  | refl => exact .refl
  | step h p d ih =>
    have p' : _ = t ∨ _ ∈ x :: g := p.imp id (List.mem_cons_of_mem _)
    rcases adj_elim.mp d with ⟨s, hs, _, a, b⟩ | ⟨_, _, a, b⟩
    · exact .step ih p' ⟨s, hs, a, b⟩
    · exact .step (.step ih p' a.symm) (.inr List.mem_cons_self) b
theorem inC_elim1 {ss : List (List Int)} {g : List Int} {x t v : Int} (htx : t ≠ x) (hx : x ∉ g) : InC ss (x :: g) t v ↔ InC (elim1 ss x) g t v := by
  constructor
  · rintro ⟨r, p⟩
    have hv : v ≠ x := fun e => p.elim (fun z => htx (z ▸ e)) fun z => z (e ▸ List.mem_cons_self)
    exact ⟨(reach_to htx hx r).1 hv, p.imp id fun z m => z (List.mem_cons_of_mem _ m)⟩
  · rintro ⟨r, p⟩
    have hv : v ≠ x := by
      cases r with
      | refl => exact htx
      | step _ _ d => exact (adj_ne d).2
    exact ⟨reach_from r, p.imp id fun z m => (List.mem_cons.mp m).elim hv z⟩
theorem inC_elim : ∀ {q : List Int} {ss : List (List Int)} {t v : Int}, q.Nodup → t ∉ q → (InC ss q t v ↔ InC (elim ss q) [] t v)
  | [], ss, t, v, _, _ => Iff.rfl
  | x :: q, ss, t, v, nd, ht => by
    obtain ⟨a, b⟩ := List.nodup_cons.mp nd
    simp only [List.mem_cons, not_or] at ht
    rw [inC_elim1 ht.1 a]
    exact inC_elim (ss := elim1 ss x) b ht.2
theorem inC_nil {ss : List (List Int)} {t v : Int} : InC ss [] t v ↔ v = t ∨ Adj ss t v := by
  constructor
  · rintro ⟨r, _⟩
    cases r with
    | refl => exact .inl rfl
    | step r p d =>
      rcases p with e | e
      · exact .inr (e ▸ d)
      · cases e
  · rintro (rfl | d)
    · exact ⟨.refl, .inl rfl⟩
    · exact ⟨.step .refl (.inl rfl) d, .inr (by simp)⟩
theorem sq_len {b : Int} {g : List Int} (hb : b ≤ 8) (h : Sq b g) : g.length ≤ 8 := by
  have key : ∀ (n : Nat) (g : List Int), g.Nodup → (∀ x ∈ g, 0 ≤ x ∧ x < n) → g.length ≤ n := by
    intro n
    induction n with
    | zero =>
      intro g _ h
      cases g with
      | nil => exact Nat.le_refl _
      | cons x g => have := h x List.mem_cons_self; omega
    | succ n ih =>
      intro g nd h
      by_cases k : (n : Int) ∈ g
      · have e := List.length_erase_of_mem k
        have := ih (g.erase (n : Int)) (nd.erase _) fun x hx => by
          have m := List.mem_of_mem_erase hx
          have := h x m
          have ne : x ≠ (n : Int) := fun e => (List.Nodup.not_mem_erase nd) (e ▸ hx)
          omega
        have : 0 < g.length := List.length_pos_of_mem k
        omega
      · exact Nat.le_succ_of_le (ih g nd fun x hx => by
          have := h x hx
          have ne : x ≠ (n : Int) := fun e => k (e ▸ hx)
          omega)
  exact key 8 g h.nd fun x hx => by have := h.r x hx; omega
theorem sc_nd {b : Int} {ss : List (List Int)} (h : Sc b ss) : ∀ s ∈ ss, s.Nodup := fun s hs => (h.s s hs).nd
theorem adj_range {b : Int} {ss : List (List Int)} (h : Sc b ss) {u v : Int} (d : Adj ss u v) : 0 ≤ v ∧ v < b := by
  obtain ⟨s, hs, _, hv⟩ := d
  exact (h.s s hs).r v hv
theorem jn_sq {b : Int} {ss : List (List Int)} (h : Sc b ss) (x : Int) : Sq b (jn ss x) := ⟨nodup_lt (jn_strict ss x), fun v hv => adj_range h (mem_jn.mp hv).2⟩
theorem elim1_sc {b : Int} {ss : List (List Int)} (h : Sc b ss) (hl : ss.length < 60) (x : Int) : Sc b (elim1 ss x) ∧ (elim1 ss x).length ≤ ss.length + 1 := by
  have hl' : (elim1 ss x).length ≤ ss.length + 1 := by
    unfold elim1
    rw [List.length_append, List.length_singleton]
    have := List.length_filter_le (fun s => decide (x ∉ s)) ss
    omega
  refine ⟨⟨h.b8, by omega, fun s hs => ?_⟩, hl'⟩
  rcases List.mem_append.mp hs with m | m
  · exact h.s s (List.mem_filter.mp m).1
  · rw [List.mem_singleton.mp m]; exact jn_sq h x
theorem elim_sc {b : Int} : ∀ {q : List Int} {ss : List (List Int)}, Sc b ss → ss.length + q.length ≤ 60 → Sc b (elim ss q) ∧ (elim ss q).length ≤ ss.length + q.length
  | [], ss, h, _ => ⟨h, Nat.le_refl _⟩
  | x :: q, ss, h, hl => by
    rw [List.length_cons] at hl ⊢
    obtain ⟨a, c⟩ := elim1_sc h (by omega) x
    obtain ⟨d, e⟩ := elim_sc (q := q) a (by omega)
    exact ⟨d, by show (elim (elim1 ss x) q).length ≤ _; omega⟩
/-- the union of the scopes left is the cluster -/
theorem lj_elim {b : Int} {ss : List (List Int)} {q : List Int} {t : Int} (h : Sc b ss) (hl : ss.length + q.length ≤ 60) (nd : q.Nodup) (ht : t ∉ q) : lj (elim ss q) t = cl ss q t :=
  strict_ext (lj_strict (sc_nd (elim_sc h hl).1) t) (cl_strict (sc_nd h) q t) fun v => by rw [mem_lj, mem_cl, inC_elim nd ht, inC_nil]
theorem cl_sq {b : Int} {ss : List (List Int)} (h : Sc b ss) (g : List Int) {t : Int} (ht : 0 ≤ t ∧ t < b) : Sq b (cl ss g t) := ⟨nodup_lt (cl_strict (sc_nd h) g t), fun v hv => Reach.range h ht (mem_cl.mp hv).1⟩
/-- fewer things: fewer behind -/
theorem reach_fewer {ss : List (List Int)} {lot g : List Int} {t v : Int} (h : Reach (ss.map fun s => s.filter fun a => decide (a ∉ lot)) (g.filter fun a => decide (a ∉ lot)) t v) : Reach ss g t v ∧ (v = t ∨ v ∉ lot) := by
  induction h with
  | refl => exact ⟨.refl, .inl rfl⟩
  | step h p d ih =>
    obtain ⟨s, hs, hu, hv⟩ := d
    obtain ⟨s0, hs0, rfl⟩ := List.mem_map.mp hs
    refine ⟨.step ih.1 (p.imp id fun z => (List.mem_filter.mp z).1) ⟨s0, hs0, (List.mem_filter.mp hu).1, (List.mem_filter.mp hv).1⟩, .inr ?_⟩
    simpa using (List.mem_filter.mp hv).2
theorem told_in {ss : List (List Int)} {lot g : List Int} {t v : Int} (ht : t ∉ lot) (h : InC (ss.map fun s => s.filter fun a => decide (a ∉ lot)) (g.filter fun a => decide (a ∉ lot)) t v) : InC ss g t v ∧ v ∉ lot := by
  obtain ⟨a, c⟩ := reach_fewer h.1
  have hv : v ∉ lot := c.elim (fun e => e ▸ ht) id
  refine ⟨⟨a, h.2.imp id fun z m => z (List.mem_filter.mpr ⟨m, by simpa using hv⟩)⟩, hv⟩
end K20
set_option Elab.async false
set_option linter.all false
set_option maxRecDepth 100000
set_option maxHeartbeats 1000000
namespace K20
open PySem PySem.Spec PyProof.Rows L2 DL
/-! ### places in a sequence -/
def bef (q : List Int) (v : Int) : List Int := q.take (q.idxOf v)
theorem idx_get {q : List Int} {v : Int} (h : v ∈ q) : q[q.idxOf v]? = some v := (idx_first h).1
theorem idx_lt {q : List Int} {v : Int} (h : v ∈ q) : q.idxOf v < q.length := (List.getElem?_eq_some_iff.mp (idx_get h)).1
theorem idx_inj {q : List Int} {u v : Int} (hu : u ∈ q) (hv : v ∈ q) (e : q.idxOf u = q.idxOf v) : u = v := by
  have a := idx_get hu
  rw [e, idx_get hv] at a
  exact (Option.some.inj a).symm
theorem idx_of {q : List Int} (nd : q.Nodup) {i : Nat} {v : Int} (h : q[i]? = some v) : q.idxOf v = i := by
  have hv : v ∈ q := List.mem_of_getElem? h
  have a := idx_get hv
  have h1 := (List.getElem?_eq_some_iff.mp a)
  have h2 := (List.getElem?_eq_some_iff.mp h)
  obtain ⟨l1, e1⟩ := h1
  obtain ⟨l2, e2⟩ := h2
  exact (List.getElem_inj nd).mp (e1.trans e2.symm)
theorem mem_bef {q : List Int} (nd : q.Nodup) {u v : Int} : u ∈ bef q v ↔ u ∈ q ∧ q.idxOf u < q.idxOf v := by
  unfold bef
  constructor
  · intro h
    obtain ⟨i, hi⟩ := List.getElem?_of_mem h
    rw [List.getElem?_take] at hi
    split at hi
    · rename_i lt
      refine ⟨List.mem_of_getElem? hi, ?_⟩
      rw [idx_of nd hi]; exact lt
    · cases hi
  · rintro ⟨hu, lt⟩
    refine List.mem_of_getElem? (i := q.idxOf u) ?_
    rw [List.getElem?_take, if_pos lt]
    exact idx_get hu
theorem not_bef {q : List Int} (nd : q.Nodup) {u v : Int} (hu : u ∈ q) (hv : v ∈ q) : u ∉ bef q v ↔ u = v ∨ q.idxOf v < q.idxOf u := by
  rw [mem_bef nd]
  constructor
  · intro h
    by_cases e : u = v
    · exact .inl e
    · have : q.idxOf u ≠ q.idxOf v := fun z => e (idx_inj hu hv z)
      exact .inr (by
        have : ¬ q.idxOf u < q.idxOf v := fun z => h ⟨hu, z⟩
        omega)
  · rintro (rfl | h) ⟨_, k⟩ <;> omega
section
variable (ss : List (List Int)) (q : List Int)
/-- a thing's cluster in the sequence -/
def Cl (v w : Int) : Prop := InC ss (bef q v) v w
/-- where it flows -/
def fw (v : Int) : Option Int := ((q.drop (q.idxOf v + 1)).filter fun a => decide (a ∈ cl ss (bef q v) v)).head?
end
variable {ss : List (List Int)} {q : List Int}
theorem first_of {P : Int → Bool} {n : Nat} (nd : q.Nodup) : match ((q.drop n).filter P).head? with
    | some u => u ∈ q ∧ n ≤ q.idxOf u ∧ P u = true ∧ ∀ w ∈ q, n ≤ q.idxOf w → P w = true → q.idxOf u ≤ q.idxOf w
    | none => ∀ w ∈ q, n ≤ q.idxOf w → P w = false := by
  have at_ : ∀ w ∈ q, n ≤ q.idxOf w → (q.drop n)[q.idxOf w - n]? = some w := fun w hw hl => by
    rw [List.getElem?_drop, show n + (q.idxOf w - n) = q.idxOf w by omega]
    exact idx_get hw
  rw [List.head?_filter]
  split
  · rename_i u h
    obtain ⟨hp, as, bs, e, ha⟩ := List.find?_eq_some_iff_append.mp h
    have hu : (q.drop n)[as.length]? = some u := by rw [e]; simp
    have hq : q[n + as.length]? = some u := by rw [← List.getElem?_drop]; exact hu
    have hi := idx_of nd hq
    refine ⟨List.mem_of_getElem? hq, by omega, hp, fun w hw hl pw => ?_⟩
    apply Classical.byContradiction
    intro lt
    have hm := at_ w hw hl
    rw [e, List.getElem?_append_left (by omega)] at hm
    have := ha w (List.mem_of_getElem? hm)
    rw [pw] at this
    cases this
  · rename_i h
    intro w hw hl
    have := List.find?_eq_none.mp h w (List.mem_of_getElem? (at_ w hw hl))
    simpa using this
theorem fw_some (nd : q.Nodup) {v u : Int} (h : fw ss q v = some u) : u ∈ q ∧ q.idxOf v < q.idxOf u ∧ Cl ss q v u ∧ ∀ w ∈ q, q.idxOf v < q.idxOf w → Cl ss q v w → q.idxOf u ≤ q.idxOf w := by
  have f := first_of (P := fun a => decide (a ∈ cl ss (bef q v) v)) (n := q.idxOf v + 1) nd
  unfold fw at h
  rw [h] at f
  obtain ⟨a, b, c, d⟩ := f
  refine ⟨a, b, mem_cl.mp (of_decide_eq_true c), fun w hw hl hc => d w hw hl (decide_eq_true (mem_cl.mpr hc))⟩
theorem fw_none (nd : q.Nodup) {v : Int} (h : fw ss q v = none) : ∀ w ∈ q, q.idxOf v < q.idxOf w → ¬ Cl ss q v w := by
  have f := first_of (P := fun a => decide (a ∈ cl ss (bef q v) v)) (n := q.idxOf v + 1) nd
  unfold fw at h
  rw [h] at f
  intro w hw hl hc
  have := f w hw hl
  rw [decide_eq_true (mem_cl.mpr hc)] at this
  cases this
/-- told by its marks -/
theorem fw_eq (nd : q.Nodup) {v u : Int} (hv : v ∈ q) (h1 : u ∈ q) (h2 : q.idxOf v < q.idxOf u) (h3 : Cl ss q v u) (h4 : ∀ w ∈ q, q.idxOf v < q.idxOf w → Cl ss q v w → q.idxOf u ≤ q.idxOf w) : fw ss q v = some u := by
  cases e : fw ss q v with
  | none => exact absurd h3 (fw_none nd e u h1 h2)
  | some x =>
    obtain ⟨a, b, c, d⟩ := fw_some nd e
    have := d u h1 h2 h3
    have := h4 x a b c
    rw [idx_inj a h1 (by omega)]
inductive Anc (ss : List (List Int)) (q : List Int) : Int → Int → Prop
  | one {v u : Int} (h : fw ss q v = some u) : Anc ss q v u
  | more {v u w : Int} (h : fw ss q v = some u) (k : Anc ss q u w) : Anc ss q v w
theorem Anc.trans {u v w : Int} (h : Anc ss q u v) (k : Anc ss q v w) : Anc ss q u w := by
  induction h with
  | one h => exact .more h k
  | more h _ ih => exact .more h (ih k)
theorem cl_anc (nd : q.Nodup) : ∀ (n : Nat) (v : Int), v ∈ q → q.length - q.idxOf v ≤ n → ∀ w ∈ q, Cl ss q v w → w ≠ v → Anc ss q v w := by
  intro n
  induction n with
  | zero => intro v hv hn; have := idx_lt hv; omega
  | succ n ih =>
    intro v hv hn w hw hc hne
    have hlt : q.idxOf v < q.idxOf w := ((not_bef nd hw hv).mp (hc.2.resolve_left hne)).resolve_left hne
    cases e : fw ss q v with
    | none => exact absurd hc (fw_none nd e w hw hlt)
    | some u =>
      obtain ⟨hu, l1, c1, mn⟩ := fw_some nd e
      by_cases hwu : w = u
      · rw [hwu]; exact .one e
      · have l2 := mn w hw hlt hc
        have l3 : q.idxOf u < q.idxOf w := by
          have : q.idxOf u ≠ q.idxOf w := fun z => hwu (idx_inj hw hu z.symm)
          omega
        have up : ∀ x ∈ bef q v, x ∈ bef q u := fun x hx => by
          rw [mem_bef nd] at hx ⊢
          exact ⟨hx.1, by omega⟩
        have hvu : v ∈ bef q u := (mem_bef nd).mpr ⟨hv, l1⟩
        refine .more e (ih u hu (by have := idx_lt hu; omega) w hw ⟨?_, .inr ?_⟩ hwu)
        · exact (c1.1.symm.mono up).trans (.inr hvu) (hc.1.mono up)
        · exact (not_bef nd hw hu).mpr (.inr l3)
/-- walking back from u one meets somebody later first -/
theorem meet (nd : q.Nodup) {u v : Int} (hu : u ∈ bef q v) (hv : v ∈ q) : ∀ {y : Int}, Reach ss (bef q v) v y → (y = v ∨ y ∈ bef q v) → Reach ss (bef q u) u y → ∃ x, Reach ss (bef q u) u x ∧ x ∉ bef q u ∧ x ≠ u ∧ (x = v ∨ (x ∈ bef q v ∧ Reach ss (bef q v) v x)) := by
  obtain ⟨hu1, hu2⟩ := (mem_bef nd).mp hu
  have nv : v ∉ bef q u := (not_bef nd hv hu1).mpr (.inr hu2)
  have nuv : v ≠ u := fun e => by subst e; omega
  intro y h
  induction h with
  | refl => intro _ k; exact ⟨v, k, nv, nuv, .inl rfl⟩
  | step h p d ih =>
    rename_i y' y
    intro py k
    by_cases c : y ∉ bef q u ∧ y ≠ u
    · exact ⟨y, k, c.1, c.2, py.imp id fun z => ⟨z, .step h p d⟩⟩
    · have py' : y = u ∨ y ∈ bef q u := by
        by_cases e : y = u
        · exact .inl e
        · exact .inr (Classical.byContradiction fun z => c ⟨z, e⟩)
      exact ih p (.step k py' d.symm)
theorem behind_anc (nd : q.Nodup) {v : Int} (hv : v ∈ q) : ∀ (n : Nat) (u : Int), q.length - q.idxOf u ≤ n → u ∈ bef q v → Reach ss (bef q v) v u → Anc ss q u v := by
  intro n
  induction n with
  | zero => intro u hn hu; have := idx_lt ((mem_bef nd).mp hu).1; omega
  | succ n ih =>
    intro u hn hu hr
    obtain ⟨hu1, hu2⟩ := (mem_bef nd).mp hu
    obtain ⟨x, rx, nx, ne, px⟩ := meet (ss := ss) nd hu hv hr (.inr hu) .refl
    have hx : x ∈ q := px.elim (fun e => e ▸ hv) fun z => ((mem_bef nd).mp z.1).1
    have a : Anc ss q u x := cl_anc nd _ u hu1 (Nat.le_refl _) x hx ⟨rx, .inr nx⟩ ne
    rcases px with rfl | ⟨hb, hr'⟩
    · exact a
    · have lt : q.idxOf u < q.idxOf x := ((not_bef nd hx hu1).mp nx).resolve_left ne
      exact a.trans (ih x (by have := idx_lt hx; omega) hb hr')
/-! ### another sequence of the same things -/
def Kept (ss : List (List Int)) (q s : List Int) : Prop := ∀ v ∈ q, ∀ u, fw ss q v = some u → s.idxOf v < s.idxOf u
def Alike (ss : List (List Int)) (q s : List Int) : Prop := ∀ v ∈ q, ∀ w, Cl ss s v w ↔ Cl ss q v w
section
variable {s : List Int} (nd : q.Nodup) (p : s.Perm q)
include nd p
theorem kept_anc (k : Kept ss q s) {v w : Int} (hv : v ∈ q) (h : Anc ss q v w) : w ∈ q ∧ s.idxOf v < s.idxOf w := by
  induction h with
  | one h => exact ⟨(fw_some nd h).1, k _ hv _ h⟩
  | more h _ ih =>
    have := k _ hv _ h
    obtain ⟨a, b⟩ := ih (fw_some nd h).1
    exact ⟨a, by omega⟩
theorem alike_of_kept (k : Kept ss q s) : Alike ss q s := by
  have nds : s.Nodup := p.nodup_iff.mpr nd
  have mem : ∀ {x}, x ∈ s ↔ x ∈ q := fun {x} => p.mem_iff
  intro v hv w
  -- what lies behind v lies ahead of it in s too
  have low : ∀ u, u ∈ bef q v → Reach ss (bef q v) v u → u ∈ bef s v := fun u hu hr => by
    have a := behind_anc nd hv _ u (Nat.le_refl _) hu hr
    have hu1 := ((mem_bef nd).mp hu).1
    exact (mem_bef nds).mpr ⟨mem.mpr hu1, (kept_anc nd p k hu1 a).2⟩
  have high : ∀ x ∈ q, Cl ss q v x → x ≠ v → s.idxOf v < s.idxOf x := fun x hx hc hn => (kept_anc nd p k hv (cl_anc nd _ v hv (Nat.le_refl _) x hx hc hn)).2
  have to : ∀ {y}, Reach ss (bef q v) v y → Reach ss (bef s v) v y := fun {y} h => by
    induction h with
    | refl => exact .refl
    | step h pu d ih => exact .step ih (pu.imp id fun z => low _ z h) d
  have from' : ∀ {y}, Reach ss (bef s v) v y → Reach ss (bef q v) v y := fun {y} h => by
    induction h with
    | refl => exact .refl
    | step h pu d ih =>
      rename_i u y
      refine .step ih ?_ d
      rcases pu with e | hu
      · exact .inl e
      · obtain ⟨hu1, hu2⟩ := (mem_bef nds).mp hu
        have huq := mem.mp hu1
        by_cases ev : u = v
        · exact .inl ev
        · by_cases hb : u ∈ bef q v
          · exact .inr hb
          · have := high u huq ⟨ih, .inr hb⟩ ev
            omega
  constructor
  · rintro ⟨r, e⟩
    have r' := from' r
    refine ⟨r', ?_⟩
    by_cases ev : w = v
    · exact .inl ev
    · exact .inr fun hb => (e.resolve_left ev) (low w hb r')
  · rintro ⟨r, e⟩
    refine ⟨to r, ?_⟩
    by_cases ev : w = v
    · exact .inl ev
    · refine .inr fun hb => ?_
      obtain ⟨hw, lt⟩ := (mem_bef nds).mp hb
      have := high w (mem.mp hw) ⟨r, e⟩ ev
      omega
theorem kept_of_alike (a : Alike ss q s) : Kept ss q s := by
  have nds : s.Nodup := p.nodup_iff.mpr nd
  intro v hv u h
  obtain ⟨hu, l, c, _⟩ := fw_some nd h
  have ne : u ≠ v := fun e => by subst e; omega
  have hc := (a v hv u).mpr c
  exact ((not_bef nds (p.mem_iff.mpr hu) (p.mem_iff.mpr hv)).mp (hc.2.resolve_left ne)).resolve_left ne
/-- kept: the flows are the same -/
theorem fw_same (k : Kept ss q s) {v : Int} (hv : v ∈ q) : fw ss s v = fw ss q v := by
  have nds : s.Nodup := p.nodup_iff.mpr nd
  have al := alike_of_kept nd p k
  have hvs := p.mem_iff.mpr hv
  have later : ∀ w ∈ s, s.idxOf v < s.idxOf w → Cl ss s v w → w ∈ q ∧ Cl ss q v w ∧ w ≠ v := fun w hw l c => ⟨p.mem_iff.mp hw, (al v hv w).mp c, fun e => by subst e; omega⟩
  cases e : fw ss q v with
  | some u =>
    obtain ⟨hu, l, c, mn⟩ := fw_some nd e
    refine fw_eq nds hvs (p.mem_iff.mpr hu) (k v hv u e) ((al v hv u).mpr c) fun w hw lw cw => ?_
    obtain ⟨a, b, d⟩ := later w hw lw cw
    have an := cl_anc nd _ v hv (Nat.le_refl _) w a b d
    cases an with
    | one h => rw [e] at h; cases h; exact Nat.le_refl _
    | more h k2 => rw [e] at h; cases h; exact Nat.le_of_lt (kept_anc nd p k hu k2).2
  | none =>
    cases e2 : fw ss s v with
    | none => rfl
    | some x =>
      obtain ⟨a, b, c, _⟩ := fw_some nds e2
      obtain ⟨a1, b1, d1⟩ := later x a b c
      have l : q.idxOf v < q.idxOf x := ((not_bef nd a1 hv).mp (b1.2.resolve_left d1)).resolve_left d1
      exact absurd b1 (fw_none nd e x a1 l)
end
end K20
set_option Elab.async false
set_option linter.all false
set_option maxRecDepth 100000
set_option maxHeartbeats 1000000
namespace K20
open PySem PySem.Spec PyProof.Rows L2 DL
/-! ### the least sequence with these flows -/
/-- flows go on in q -/
def Good (fl : Int → Option Int) (q : List Int) : Prop := ∀ v ∈ q, ∀ u, fl v = some u → q.idxOf v < q.idxOf u
theorem mem_rdy {fl : Int → Option Int} {left : List Int} {v : Int} : v ∈ rdy fl left ↔ v ∈ left ∧ ∀ u ∈ left, fl u ≠ some v := by
  unfold rdy
  rw [List.mem_filter]
  simp
theorem rdy_ne {fl : Int → Option Int} {q left : List Int} (g : Good fl q) (hs : ∀ v ∈ left, v ∈ q) (hn : left ≠ []) : rdy fl left ≠ [] := by
  have key : ∀ (n : Nat) (v : Int), v ∈ left → q.idxOf v ≤ n → ∃ x, x ∈ rdy fl left := by
    intro n
    induction n with
    | zero =>
      intro v hv hl
      refine ⟨v, mem_rdy.mpr ⟨hv, fun u hu e => ?_⟩⟩
      have := g u (hs u hu) v e
      omega
    | succ n ih =>
      intro v hv hl
      by_cases h : ∃ u ∈ left, fl u = some v
      · obtain ⟨u, hu, e⟩ := h
        have := g u (hs u hu) v e
        exact ih u hu (by omega)
      · exact ⟨v, mem_rdy.mpr ⟨hv, fun u hu e => h ⟨u, hu, e⟩⟩⟩
  obtain ⟨v, hv⟩ := List.exists_mem_of_ne_nil left hn
  obtain ⟨x, hx⟩ := key _ v hv (Nat.le_refl _)
  intro e
  rw [e] at hx
  cases hx
theorem stl_step {fl : Int → Option Int} {n : Nat} {left : List Int} {v : Int} {r : List Int} (h : rdy fl left = v :: r) : stl fl (n + 1) left = v :: stl fl n (left.erase v) := by
  show (match rdy fl left with | [] => [] | v :: _ => v :: stl fl n (left.erase v)) = _
  rw [h]
theorem stl_perm {fl : Int → Option Int} {q : List Int} (g : Good fl q) : ∀ (n : Nat) (left : List Int), left.length = n → (∀ v ∈ left, v ∈ q) → (stl fl n left).Perm left
  | 0, left, l, _ => by rw [List.eq_nil_of_length_eq_zero l]; exact List.Perm.refl _
  | n + 1, left, l, hs => by
    have hn : left ≠ [] := fun e => by rw [e] at l; cases l
    cases h : rdy fl left with
    | nil => exact absurd h (rdy_ne g hs hn)
    | cons v r =>
      have hv : v ∈ left := (mem_rdy.mp (by rw [h]; exact List.mem_cons_self)).1
      rw [stl_step h]
      have le := List.length_erase_of_mem hv
      exact (List.Perm.cons v (stl_perm g n (left.erase v) (by omega) fun x hx => hs x (List.mem_of_mem_erase hx))).trans (List.perm_cons_erase hv).symm
theorem stl_kept {fl : Int → Option Int} {q : List Int} (g : Good fl q) : ∀ (n : Nat) (left : List Int), left.length = n → left.Nodup → (∀ v ∈ left, v ∈ q) → ∀ v ∈ left, ∀ u ∈ left, fl v = some u → (stl fl n left).idxOf v < (stl fl n left).idxOf u
  | 0, left, l, _, _, v, hv, _, _, _ => by rw [List.eq_nil_of_length_eq_zero l] at hv; cases hv
  | n + 1, left, l, nd, hs, v, hv, u, hu, e => by
    have hn : left ≠ [] := fun e => by rw [e] at l; cases l
    cases h : rdy fl left with
    | nil => exact absurd h (rdy_ne g hs hn)
    | cons x r =>
      obtain ⟨hx, nx⟩ := mem_rdy.mp (show x ∈ rdy fl left by rw [h]; exact List.mem_cons_self)
      rw [stl_step h]
      have hux : u ≠ x := fun z => nx v hv (z ▸ e)
      have le := List.length_erase_of_mem hx
      have ih := stl_kept g n (left.erase x) (by omega) (nd.erase _) fun y hy => hs y (List.mem_of_mem_erase hy)
      rw [List.idxOf_cons, List.idxOf_cons, show (x == u) = false from beq_eq_false_iff_ne.mpr hux.symm]
      by_cases hvx : v = x
      · rw [show (x == v) = true from beq_iff_eq.mpr hvx.symm]
        exact Nat.succ_pos _
      · rw [show (x == v) = false from beq_eq_false_iff_ne.mpr (fun z => hvx z.symm)]
        have := ih v ((List.mem_erase_of_ne hvx).mpr hv) u ((List.mem_erase_of_ne hux).mpr hu) e
        show _ + 1 < _ + 1
        omega
theorem stl_least {fl : Int → Option Int} {q : List Int} (g : Good fl q) : ∀ (n : Nat) (left s : List Int), left.length = n → left.Nodup → left.Pairwise (· ≤ ·) → (∀ v ∈ left, v ∈ q) → s.Perm left → (∀ v ∈ left, ∀ u ∈ left, fl v = some u → s.idxOf v < s.idxOf u) → HT.lexLt s (stl fl n left) = false
  | 0, left, s, l, _, _, _, p, _ => by
    rw [List.eq_nil_of_length_eq_zero l] at p
    rw [List.perm_nil.mp p]
    rfl
  | n + 1, left, s, l, nd, st, hs, p, k => by
    have hn : left ≠ [] := fun e => by rw [e] at l; cases l
    cases h : rdy fl left with
    | nil => exact absurd h (rdy_ne g hs hn)
    | cons x r =>
      obtain ⟨hx, nx⟩ := mem_rdy.mp (show x ∈ rdy fl left by rw [h]; exact List.mem_cons_self)
      cases s with
      | nil => exact absurd (List.nil_perm.mp p) hn
      | cons a s =>
        have ha : a ∈ left := p.mem_iff.mp List.mem_cons_self
        have ra : a ∈ rdy fl left := mem_rdy.mpr ⟨ha, fun u hu e => by
          have := k u hu a ha e
          rw [List.idxOf_cons_self] at this
          omega⟩
        have sr : (rdy fl left).Pairwise (· ≤ ·) := st.filter _
        have xa : x ≤ a := by
          rw [h] at sr ra
          rcases List.mem_cons.mp ra with e | m
          · omega
          · exact (List.pairwise_cons.mp sr).1 a m
        rw [stl_step h]
        by_cases e : a = x
        · subst e
          have nds : (a :: s).Nodup := p.nodup_iff.mpr nd
          have pe : s.Perm (left.erase a) := by
            have := p.erase a
            rwa [List.erase_cons_head] at this
          have le := List.length_erase_of_mem ha
          have ih := stl_least g n (left.erase a) s (by omega) (nd.erase _) (st.sublist (List.erase_sublist ..)) (fun y hy => hs y (List.mem_of_mem_erase hy)) pe fun v hv u hu e => by
            have nv : v ≠ a := fun z => (nd.not_mem_erase) (z ▸ hv)
            have nu : u ≠ a := fun z => (nd.not_mem_erase) (z ▸ hu)
            have := k v (List.mem_of_mem_erase hv) u (List.mem_of_mem_erase hu) e
            rw [List.idxOf_cons, List.idxOf_cons, show (a == v) = false from beq_eq_false_iff_ne.mpr nv.symm, show (a == u) = false from beq_eq_false_iff_ne.mpr nu.symm] at this
            have : s.idxOf v + 1 < s.idxOf u + 1 := this
            omega
          unfold HT.lexLt
          simp [ih]
        · have : x < a := by omega
          have h1 : ¬ a < x := by omega
          unfold HT.lexLt
          simp [h1, e]
theorem rdy_congr {fl fl' : Int → Option Int} {left : List Int} (h : ∀ v ∈ left, fl v = fl' v) : rdy fl left = rdy fl' left := by
  unfold rdy
  refine List.filter_congr fun v _ => ?_
  congr 1
  rw [Bool.eq_iff_iff, List.any_eq_true, List.any_eq_true]
  constructor
  · rintro ⟨u, hu, e⟩; exact ⟨u, hu, by rw [← h u hu]; exact e⟩
  · rintro ⟨u, hu, e⟩; exact ⟨u, hu, by rw [h u hu]; exact e⟩
theorem stl_congr {fl fl' : Int → Option Int} : ∀ (n : Nat) (left : List Int), (∀ v ∈ left, fl v = fl' v) → stl fl n left = stl fl' n left
  | 0, _, _ => rfl
  | n + 1, left, h => by
    unfold stl
    rw [rdy_congr h]
    split
    · rfl
    · rw [stl_congr n _ fun v hv => h v (List.mem_of_mem_erase hv)]
/-! ### lists of what a sequence has -/
theorem cls_map {ss : List (List Int)} {q : List Int} (nd : q.Nodup) : cls ss q = q.map fun v => cl ss (bef q v) v := by
  unfold cls
  apply List.ext_getElem?
  intro i
  rw [List.getElem?_mapIdx, List.getElem?_map]
  cases e : q[i]? with
  | none => rfl
  | some v =>
    show some (cl ss (q.take i) v) = some (cl ss (bef q v) v)
    unfold bef
    rw [idx_of nd e]
theorem flws_map {ss : List (List Int)} {q : List Int} (nd : q.Nodup) : flws (cls ss q) q = q.map (fw ss q) := by
  rw [cls_map nd]
  unfold flws
  apply List.ext_getElem?
  intro i
  rw [List.getElem?_mapIdx, List.getElem?_map, List.getElem?_map]
  cases e : q[i]? with
  | none => rfl
  | some v =>
    show some (((q.drop (i + 1)).filter fun a => decide (a ∈ cl ss (bef q v) v)).head?) = some (fw ss q v)
    unfold fw
    rw [idx_of nd e]
theorem fo_map {fl : Int → Option Int} : ∀ {q : List Int} {v : Int}, v ∈ q → fo (q.zip (q.map fl)) v = fl v
  | x :: q, v, h => by
    unfold fo
    rw [List.map_cons, List.zip_cons_cons, List.find?_cons]
    by_cases e : x = v
    · rw [show (decide ((x, fl x).1 = v)) = true from decide_eq_true e]
      rw [e]
    · rw [show (decide ((x, fl x).1 = v)) = false from decide_eq_false e]
      have := fo_map (fl := fl) (q := q) ((List.mem_cons.mp h).resolve_left (Ne.symm e))
      unfold fo at this
      exact this
theorem good_fw {ss : List (List Int)} {q : List Int} (nd : q.Nodup) : Good (fw ss q) q := fun v hv u e => (fw_some nd e).2.1
theorem settle_eq {ss : List (List Int)} {q : List Int} (nd : q.Nodup) : settle ss q = stl (fw ss q) q.length (srt q) := by
  unfold settle
  rw [flws_map nd]
  exact stl_congr _ _ fun v hv => fo_map (srt_mem.mp hv)
theorem settle_perm {ss : List (List Int)} {q : List Int} (nd : q.Nodup) : (settle ss q).Perm q := by
  rw [settle_eq nd]
  exact (stl_perm (good_fw nd) _ _ (srt_perm q).length_eq fun v hv => srt_mem.mp hv).trans (srt_perm q)
theorem settle_kept {ss : List (List Int)} {q : List Int} (nd : q.Nodup) : Kept ss q (settle ss q) := fun v hv u e => by
  rw [settle_eq nd]
  exact stl_kept (good_fw nd) _ _ (srt_perm q).length_eq ((srt_perm q).nodup_iff.mpr nd) (fun v hv => srt_mem.mp hv) v (srt_mem.mpr hv) u (srt_mem.mpr (fw_some nd e).1) e
/-- the settled ones are the same when the flows are kept -/
theorem settle_iff {ss : List (List Int)} {q s : List Int} (nd : q.Nodup) (p : s.Perm q) : settle ss s = settle ss q ↔ Kept ss q s := by
  have nds : s.Nodup := p.nodup_iff.mpr nd
  constructor
  · intro e
    have k1 := settle_kept (ss := ss) nd
    have k2 := settle_kept (ss := ss) nds
    have a1 := alike_of_kept nd (settle_perm nd) k1
    have a2 := alike_of_kept nds (settle_perm nds) k2
    rw [e] at a2
    exact kept_of_alike nd p fun v hv w => ((a2 v (p.mem_iff.mpr hv) w).symm.trans (a1 v hv w))
  · intro k
    rw [settle_eq nds, settle_eq nd, srt_congr p, p.length_eq]
    exact stl_congr _ _ fun v hv => fw_same nd p k (srt_mem.mp hv)
theorem settle_least {ss : List (List Int)} {q s : List Int} (nd : q.Nodup) (p : s.Perm q) (k : Kept ss q s) : HT.lexLt s (settle ss q) = false := by
  rw [settle_eq nd]
  exact stl_least (good_fw nd) _ _ s (srt_perm q).length_eq ((srt_perm q).nodup_iff.mpr nd) (srt_sorted q) (fun v hv => srt_mem.mp hv) (p.trans (srt_perm q).symm) fun v hv u hu e => k v (srt_mem.mp hv) u e
end K20
set_option Elab.async false
set_option linter.all false
set_option maxRecDepth 100000
set_option maxHeartbeats 1000000
namespace K20
open PySem PySem.Spec PyProof.Rows L2 DL
/-! ### the greedy choice -/
theorem foldMin_le : ∀ {ns : List Int} {a : Int}, ns.foldl min a ≤ a ∧ (∀ n ∈ ns, ns.foldl min a ≤ n) ∧ (ns.foldl min a = a ∨ ns.foldl min a ∈ ns)
  | [], a => ⟨Int.le_refl _, fun n h => (nomatch h), .inl rfl⟩
  | n :: ns, a => by
    obtain ⟨h1, h2, h3⟩ := @foldMin_le ns (min a n)
    rw [List.foldl_cons]
    refine ⟨by omega, fun x hx => ?_, ?_⟩
    · rcases List.mem_cons.mp hx with rfl | hx
      · omega
      · exact h2 x hx
    · rcases h3 with h | h
      · rw [h]
        by_cases l : a ≤ n
        · exact .inl (by omega)
        · exact .inr (by rw [show min a n = n by omega]; exact List.mem_cons_self)
      · exact .inr (List.mem_cons_of_mem _ h)
theorem min_of {ns : List Int} {m : Int} (h : m ∈ ns) (l : ∀ z ∈ ns, m ≤ z) : m = ns.foldl min (ns.getD 0 0) := by
  cases ns with
  | nil => cases h
  | cons n ns =>
    have e : (n :: ns).getD 0 0 = n := rfl
    rw [e]
    obtain ⟨h1, h2, h3⟩ := @foldMin_le (n :: ns) n
    have a := h2 m h
    have b : m ≤ (n :: ns).foldl min n := by
      rcases h3 with z | z
      · rw [z]; exact l n List.mem_cons_self
      · exact l _ z
    omega
theorem min_mem {ns : List Int} (h : ns ≠ []) : ns.foldl min (ns.getD 0 0) ∈ ns ∧ ∀ z ∈ ns, ns.foldl min (ns.getD 0 0) ≤ z := by
  cases ns with
  | nil => exact absurd rfl h
  | cons n ns =>
    have e : (n :: ns).getD 0 0 = n := rfl
    rw [e]
    obtain ⟨h1, h2, h3⟩ := @foldMin_le (n :: ns) n
    exact ⟨h3.elim (fun z => by rw [z]; exact List.mem_cons_self) id, h2⟩
def bestOf (sz : Int → Int) (left : List Int) (v : Int) : Prop := v ∈ left ∧ ∀ w ∈ left, sz v < sz w ∨ (sz v = sz w ∧ v ≤ w)
theorem best_unique {sz : Int → Int} {left : List Int} {u v : Int} (hu : bestOf sz left u) (hv : bestOf sz left v) : u = v := by
  have a := hu.2 v hv.1
  have b := hv.2 u hu.1
  omega
theorem gpick_idx {sz : Int → Int} {left : List Int} (hn : left ≠ []) : ∃ i, i = (left.map sz).idxOf ((left.map sz).foldl min ((left.map sz).getD 0 0)) ∧ left[i]? = some (gpick sz left) := by
  have hm := min_mem (ns := left.map sz) (by simpa using hn)
  have hi := idx_get hm.1
  rw [List.getElem?_map] at hi
  cases e : left[(left.map sz).idxOf ((left.map sz).foldl min ((left.map sz).getD 0 0))]? with
  | none => rw [e] at hi; cases hi
  | some v =>
    refine ⟨_, rfl, ?_⟩
    have : gpick sz left = v := by
      show left.getD _ 0 = v
      rw [List.getD_eq_getElem?_getD (l := left), e]
      rfl
    rw [this]
    exact e
theorem gpick_best {sz : Int → Int} {left : List Int} (hn : left ≠ []) (st : left.Pairwise (· < ·)) : bestOf sz left (gpick sz left) := by
  have hm := min_mem (ns := left.map sz) (by simpa using hn)
  obtain ⟨i, ei, hi⟩ := gpick_idx (sz := sz) hn
  have hf := idx_first hm.1
  rw [← ei, List.getElem?_map, hi] at hf
  have hsz : sz (gpick sz left) = (left.map sz).foldl min ((left.map sz).getD 0 0) := Option.some.inj hf.1
  refine ⟨List.mem_of_getElem? hi, fun w hw => ?_⟩
  have hle := hm.2 (sz w) (List.mem_map.mpr ⟨w, hw, rfl⟩)
  by_cases e : sz w = sz (gpick sz left)
  · refine .inr ⟨e.symm, ?_⟩
    obtain ⟨j, hj⟩ := List.getElem?_of_mem hw
    have hij : i ≤ j := by
      apply Classical.byContradiction
      intro z
      refine hf.2 j (by omega) ?_
      rw [List.getElem?_map, hj, ← hsz]
      show some (sz w) = _
      rw [e]
    by_cases eij : i = j
    · subst eij; rw [hi] at hj; cases hj; exact Int.le_refl _
    · obtain ⟨l1, e1⟩ := List.getElem?_eq_some_iff.mp hi
      obtain ⟨l2, e2⟩ := List.getElem?_eq_some_iff.mp hj
      have := List.pairwise_iff_getElem.mp st i j l1 l2 (by omega)
      omega
  · exact .inl (by omega)
def prD (sz : Int → Int) (v : Int) : PyData := .tuple [.int (sz v), .int v]
theorem minD_best {sz : Int → Int} : ∀ {xs : List Int} {x : Int}, ∃ m, PySem.W.minD (prD sz x) (xs.map (prD sz)) = prD sz m ∧ bestOf sz (x :: xs) m
  | [], x => ⟨x, rfl, List.mem_cons_self, fun w hw => by
    rw [List.mem_singleton.mp hw]; exact .inr ⟨rfl, Int.le_refl _⟩⟩
  | y :: xs, x => by
    have e : PySem.W.minD (prD sz x) ((y :: xs).map (prD sz)) = PySem.W.minD (if PySem.W.dataLt (prD sz y) (prD sz x) then prD sz y else prD sz x) (xs.map (prD sz)) := rfl
    have d : PySem.W.dataLt (prD sz y) (prD sz x) = decide (sz y < sz x ∨ (sz y = sz x ∧ y < x)) := PySem.W.dataLt_ii _ _ _ _
    rw [e, d]
    by_cases h : sz y < sz x ∨ (sz y = sz x ∧ y < x)
    · rw [decide_eq_true h]
      simp only [if_true]
      obtain ⟨m, e1, hm, h2⟩ := @minD_best sz xs y
      refine ⟨m, e1, List.mem_cons_of_mem _ hm, fun w hw => ?_⟩
      rcases List.mem_cons.mp hw with rfl | hw
      · have := h2 y List.mem_cons_self; omega
      · exact h2 w hw
    · rw [decide_eq_false h]
      simp only [Bool.false_eq_true, if_false]
      obtain ⟨m, e1, hm, h2⟩ := @minD_best sz xs x
      refine ⟨m, e1, ?_, fun w hw => ?_⟩
      · rcases List.mem_cons.mp hm with rfl | hm
        · exact List.mem_cons_self
        · exact List.mem_cons_of_mem _ (List.mem_cons_of_mem _ hm)
      · rcases List.mem_cons.mp hw with rfl | hw
        · exact h2 w List.mem_cons_self
        · rcases List.mem_cons.mp hw with rfl | hw
          · have := h2 x List.mem_cons_self; omega
          · exact h2 w (List.mem_cons_of_mem _ hw)
theorem minD_gpick {sz : Int → Int} {x : Int} {xs : List Int} (st : (x :: xs).Pairwise (· < ·)) : PySem.W.minD (prD sz x) (xs.map (prD sz)) = prD sz (gpick sz (x :: xs)) := by
  obtain ⟨m, e, hm⟩ := @minD_best sz xs x
  rw [e, best_unique hm (gpick_best (by simp) st)]
theorem prD_alike {sz : Int → Int} (xs : List Int) : PySem.W.AlikeAll (xs.map (prD sz)) := by
  refine ⟨fun a ha b hb => ?_, fun a ha => ?_⟩
  · obtain ⟨x, _, rfl⟩ := List.mem_map.mp ha
    obtain ⟨y, _, rfl⟩ := List.mem_map.mp hb
    simp [prD, PySem.W.alike, PySem.W.alikeAll]
  · obtain ⟨x, _, rfl⟩ := List.mem_map.mp ha
    intro z; cases z
theorem prD_depth {sz : Int → Int} : ∀ xs : List Int, PyData.depthAll (xs.map (prD sz)) ≤ 1
  | [] => by simp [PyData.depthAll]
  | x :: xs => by
    have := @prD_depth sz xs
    simp only [List.map_cons, PyData.depthAll, prD, PyData.depth] at this ⊢
    omega
end K20
set_option Elab.async false
set_option linter.all false
set_option maxRecDepth 100000
set_option maxHeartbeats 1000000
namespace K20
open PySem PySem.Spec PyProof.Rows L2 DL
/-! ### a def's parameters by their names, from the last one on -/
theorem rbinds_of {K : PySem.W.Frag} {x qual : Str} {params : Arguments} {body : List Stmt} {scope : Scope} {kws : List (Str × V)} {f : Addr} {fd : FuncData} {ps : List Str} (F : FunD K x qual params body scope [] kws f fd)
    (h : ∀ (kV doc pm : Value) (an : Option Addr) (cdv ct : Value) (ws : List Value), ws.length = ps.length → bindArgs (PySem.W.fnOf x qual params body scope .none kV doc pm an cdv ct) ⟨[], ps.reverse.zip ws⟩ = pure (ps.zip ws.reverse)) : RBinds K fd ps := fun s ws _ hl => by
  obtain ⟨_, _, dV, kV, doc, pm, an, cdv, ct, _, rfl, _, _, dflt, _⟩ := F.ex
  rcases dflt with ⟨_, rfl⟩ | ⟨ne, _⟩
  · exact BindsTo.of_eq (h kV doc pm an cdv ct ws hl)
  · exact (ne rfl).elim
/-! ### what the law's def promises; the call of it -/
def spLaw (K : PySem.W.Frag) : Sp := fun vs H Q _ => ∃ (a : Addr) (ns : List Int), vs = [.ref a] ∧ ((∃ o, H a = some (.frz o (.lst (ns.map V.int)))) ∨ ∀ H' : Hp, SqL K H' a (ns.map V.int)) ∧
  (∀ n ∈ ns, Builtin.Int.intBits n ≤ 1048576) ∧ ∀ H', Q (.bl true) H'
/-- the script alone is told, where it is no object of the text's -/
def scrH (K : PySem.W.Frag) (a : Addr) (ob : Obj) (ns : List Int) : Hp := fun b => if b = a ∧ K.lookup a = none then some (.frz ob (.lst (ns.map V.int))) else none
theorem scrH_at {K : PySem.W.Frag} {a b : Addr} {ob : Obj} {ns : List Int} {u : HO} (h : scrH K a ob ns b = some u) : b = a ∧ K.lookup a = none ∧ u = .frz ob (.lst (ns.map V.int)) := by
  unfold scrH at h
  split at h
  · rename_i e
    cases h
    exact ⟨e.1, e.2, rfl⟩
  · cases h
theorem law_end {P : Program} {w : World} {K : PySem.W.Frag} {mg mb : Str → Option Value} {k : Nat} {fa a : Addr} {fd : FuncData} {x : Str} {s : Shared} {vs : List Value} {ns : List Int} (KX : K.In s.heap)
    (n1 : s.heap.Ns mainGlobals mg) (n2 : s.heap.Ns builtinsNs mb) (n3 : ∀ y : Str, y ≠ "__name__" → mb y = bootBuiltins y) (n4 : s.heap.NoLimit) (n5 : s.gens = #[])
    (ha : s.heap.get? a = some { cls := .type "list", data := .seq vs.toArray }) (hi : IntsAre vs ns) (hl : ns.length ≤ 63) (hbits : ∀ n ∈ ns, Builtin.Int.intBits n ≤ 1048576) (hr : Room k callerA)
    (FG : ∀ base : Heap, K.In base → FnGd P w K mg base k fa fd [x] (spLaw K)) (bnd : ∀ (s : Shared) (u : Value), BindsTo s fd ⟨[u], []⟩ [(x, u)]) :
    codeAny (model P w) callerA (.call (.ref fa) ⟨[.ref a], []⟩) (fun r t => r = .ok (.ret (.bool true)) ∧ OldK s.heap t.heap ∧ t.os = s.os ∧ AllBare t.gens) s := by
  have rv := vals_ints hi
  have lv := hi.length
  have hsz : ns.length ≤ sizeLine := Nat.le_trans hl (by decide)
  generalize eob : ({ cls := .type "list", data := .seq vs.toArray } : Obj) = ob at ha
  let H : Hp := scrH K a ob ns
  have nod : ∀ {b : Addr} {o : Obj} {es : Array DictEntry} {ep : Nat}, s.heap.get? b = some o → o.data = .dict es ep → H b = none := fun {b o es ep} e d => by
    cases q : H b with
    | none => rfl
    | some u =>
      obtain ⟨rfl, _, _⟩ := scrH_at q
      rw [ha] at e
      cases e
      subst eob
      cases d
  have nsT : ∀ {b : Addr} {m : Str → Option Value}, s.heap.Ns b m → (hidT s.heap H).Ns b m := by
    rintro b m ⟨o, es, ep, e, d, r⟩
    exact ⟨o, es, ep, hidT_get e (nod e d), d, r⟩
  have kin : K.In (hidT s.heap H) := fun b o e => hidT_get (KX b o e) (by
    cases q : H b with
    | none => rfl
    | some u =>
      obtain ⟨rfl, z, _⟩ := scrH_at q
      rw [z] at e
      cases e)
  obtain ⟨mc, c1, c2⟩ := n4
  have md : Mod K mg (hidT s.heap H) := ⟨kin, nsT n1, ⟨mb, nsT n2, n3⟩, ⟨mc, nsT c1, c2⟩⟩
  have hok : HOk P w H s.heap := fun b u e => by
    obtain ⟨rfl, _, rfl⟩ := scrH_at e
    refine ⟨ha, ?_⟩
    subst eob
    exact ⟨by rw [List.length_map]; exact hsz, vs, _, rv, ha⟩
  have env : Env0 P w K mg (hidT s.heap H) callerA [] s H := ⟨rfl, md, fun b o e => of_hidT e, Nat.le_of_eq (hidT_size _ _), trivial, (fun b hb => nomatch hb), hok, .of_eq n5⟩
  have hS : (∃ o, H a = some (.frz o (.lst (ns.map V.int)))) ∨ ∀ H' : Hp, SqL K H' a (ns.map V.int) := by
    cases hk : K.lookup a with
    | none => exact .inl ⟨ob, if_pos ⟨rfl, hk⟩⟩
    | some o =>
      have e := KX a o hk
      rw [ha] at e
      cases e
      subst eob
      exact .inr fun H' => .inr ⟨_, vs.toArray, _, hk, rfl, rfl, rfl, by rw [List.size_toArray, lv]; exact hsz, by simpa using rv⟩
  refine codeAny_mono ((FG _ kin).run callerA [] s H ⟨[.ref a], []⟩ [.ref a] [.ref a] (fun v _ => v = .bl true) hr rfl env (bnd s (.ref a)) (.cons rfl .nil) ⟨a, ns, rfl, hS, hbits, fun _ => rfl⟩) fun r t h => ?_
  cases r with
  | error e => exact h.elim
  | ok fl =>
    cases fl with
    | ret u =>
      obtain ⟨v, H2, h1, h2, un, h3, h4, ev⟩ := h
      subst ev
      cases h4
      refine ⟨rfl, OldK.of_keep fun b o e => ?_, h1, h2⟩
      cases q : H b with
      | none => exact un.keep b o e q (fun z => nomatch z) (by simp)
      | some u =>
        obtain ⟨rfl, _, rfl⟩ := scrH_at q
        rw [ha] at e
        cases e
        exact (h3 _ _ (un.frzs _ _ _ q)).1
    | _ => exact False.elim h
end K20
set_option Elab.async false
set_option linter.all false
set_option maxRecDepth 100000
set_option maxHeartbeats 1000000
namespace K20
open PySem PySem.Spec PyProof.Rows L2 DL
/-! ### the draw, by hand -/
theorem dr_cl (ns : List Int) : PyData.canLayAll0 (ns.map .int) = true := by
  induction ns with
  | nil => rfl
  | cons n ns ih => rw [List.map_cons]; simp only [PyData.canLayAll0, PyData.canLay0, Bool.true_and]; exact ih
theorem dr_dp (ns : List Int) : PyData.depthAll (ns.map .int) ≤ 1 := by
  induction ns with
  | nil => simp [PyData.depthAll]
  | cons n ns ih => rw [List.map_cons]; simp only [PyData.depthAll, PyData.depth]; omega
theorem dr_sh (ns : List Int) : SeqAt.shaped (.list (ns.map .int)) = true := by
  have h := dr_dp ns
  unfold SeqAt.shaped
  simp only [PyData.canLay0, PyData.depth, Bool.and_eq_true, decide_eq_true_eq]
  exact ⟨dr_cl ns, decide_eq_true (by omega)⟩
structure S4 (a b : Addr) (F H H' : Hp) (ns : List Int) (st : Int) : Prop where
  x : Ext (some (a, b)) F H F H'
  ne : a ≠ b
  fa : F a = none
  fb : F b = none
  ha : H' a = some (.lst [.ref b, .int st])
  hb : H' b = some (.lst (ns.map V.int))
  c : Cells ns st
section
variable {a b : Addr} {F H H' : Hp} {ns : List Int} {st : Int}
theorem S4.start (W : Wd (some (a, b)) F H) : ∃ ns st, S4 a b F H H ns st := by
  obtain ⟨ab, f1, f2, ns, st, h1, h2, c⟩ := W.heap
  exact ⟨ns, st, Ext.rfl' W, ab, f1, f2, h1, h2, c⟩
theorem S4.new (s : S4 a b F H H' ns st) {p : Addr} (hp : H' p = none) (o : HO) : S4 a b F H (upd H' p o) ns st :=
  ⟨s.x.trans (Ext.new s.x.w hp o), s.ne, s.fa, s.fb, by rw [upd_ne (ne_of_none s.ha hp)]; exact s.ha, by rw [upd_ne (ne_of_none s.hb hp)]; exact s.hb, s.c⟩
theorem S4.write (s : S4 a b F H H' ns st) {H2 : Hp} {ms : List Int} {sr : Int} (h2 : ∀ c, c ≠ a → c ≠ b → H2 c = H' c) (ha : H2 a = some (.lst [.ref b, .int sr])) (hb : H2 b = some (.lst (ms.map V.int))) (c : Cells ms sr) : S4 a b F H H2 ms sr := by
  have key : ∀ c, H2 c = H' c ∨ c = a ∨ c = b := fun c => by
    by_cases e1 : c = a
    · exact .inr (.inl e1)
    · by_cases e2 : c = b
      · exact .inr (.inr e2)
      · exact .inl (h2 c e1 e2)
  refine ⟨⟨s.x.f, s.x.nf, fun c o e g => ?_, fun c e => ?_, ⟨fun c o e => ?_, ⟨s.ne, s.fa, s.fb, ms, sr, ha, hb, c⟩⟩⟩, s.ne, s.fa, s.fb, ha, hb, c⟩
  · have g' : ¬ (c = a ∨ c = b) := g
    rw [h2 c (fun z => g' (.inl z)) (fun z => g' (.inr z))]
    exact s.x.h c o e g
  · rcases key c with k | rfl | rfl
    · rw [k]; exact s.x.n c e
    · rw [ha]; intro z; cases z
    · rw [hb]; intro z; cases z
  · rcases key c with k | rfl | rfl
    · rw [k]; exact s.x.w.sub c o e
    · rw [s.fa] at e; cases e
    · rw [s.fb] at e; cases e
theorem S4.setb (s : S4 a b F H H' ns st) {ms : List Int} (c : Cells ms st) : S4 a b F H (upd H' b (.lst (ms.map V.int))) ms st :=
  s.write (fun c _ e => upd_ne e) (by rw [upd_ne s.ne]; exact s.ha) upd_same c
theorem S4.seta (s : S4 a b F H H' ns st) {sr : Int} (c : Cells ns sr) : S4 a b F H (upd H' a (.lst [.ref b, .int sr])) ns sr :=
  s.write (fun c e _ => upd_ne e) upd_same (by rw [upd_ne s.ne.symm]; exact s.hb) c
variable {K : PySem.W.Frag} {σ : L2.St}
theorem S4.r0 (s : S4 a b F H H' ns st) (hσ : σ[0]? = some (some (.ref a))) {Q : VK} (q : Q (.ref b) H') : tOp (rIxL K) (tVar 0) (tC (.int 0)) σ H' Q :=
  ⟨_, hσ, a, _, 0, _, rfl, rfl, SqL.of s.ha, rfl, q⟩
theorem S4.r1 (s : S4 a b F H H' ns st) (hσ : σ[0]? = some (some (.ref a))) {Q : VK} (q : Q (.int st) H') : tOp (rIxL K) (tVar 0) (tC (.int 1)) σ H' Q :=
  ⟨_, hσ, a, _, 1, _, rfl, rfl, SqL.of s.ha, rfl, q⟩
theorem eqv_nil (ns : List Int) : PyData.eqv (.list (ns.map .int)) (.list []) = decide (ns = []) := by
  cases ns with
  | nil => rfl
  | cons n ns => simp [PyData.eqv, PyData.eqvAll]
theorem S4.full (s : S4 a b F H H' ns st) (hσ : σ[0]? = some (some (.ref a))) {Q : Bool → Hp → Prop} (q : ∀ H2, S4 a b F H H2 ns st → Q (!decide (ns = [])) H2) :
    tTest (tOp (rNeD K) (tOp (rIxL K) (tVar 0) (tC (.int 0))) (tLst tNil)) σ H' Q := by
  refine s.r0 hσ ⟨Nat.zero_le _, fun p hp => ?_⟩
  have s2 := s.new hp (.lst [])
  refine ⟨.list (ns.map .int), .list [], .lst (SqL.of s2.hb) (DfA.dp (F := fun _ => none) (fun _ _ h => nomatch h) (DfA.of_ints ns)), .lst (SqL.of upd_same) .nil, dr_sh ns, dr_sh [], ?_⟩
  rw [eqv_nil]
  exact ⟨_, rfl, q _ s2⟩
theorem atI_last {xs : List V} {v : V} : L2.atI (xs ++ [v]) (-1) = some v := by
  have hl : (xs ++ [v]).length = xs.length + 1 := by rw [List.length_append, List.length_singleton]
  have e : L2.ixN (xs ++ [v]).length (-1) = some xs.length := by
    unfold L2.ixN
    rw [if_neg (by decide), if_pos (by rw [hl]; omega), hl]
    exact congrArg some (by omega)
  unfold L2.atI
  rw [e]
  show (xs ++ [v])[xs.length]? = some v
  rw [List.getElem?_append_right (Nat.le_refl _), Nat.sub_self]
  rfl
theorem map_snoc {ns : List Int} {l : Int} : (ns ++ [l]).map V.int = ns.map V.int ++ [.int l] := by
  rw [List.map_append, List.map_singleton]
theorem cells_drop {n : Int} (c : Cells (ns ++ [n]) st) : Cells ns st :=
  ⟨fun x hx => c.pos x (List.mem_append_left _ hx), by have := c.len; rw [List.length_append] at this; omega, c.st0, c.st1⟩
theorem S4.pop {l : Int} (s : S4 a b F H H' (ns ++ [l]) st) (hσ : σ[0]? = some (some (.ref a))) {Q : VK} (q : ∀ H2, S4 a b F H H2 ns st → Q (.int l) H2) : tBM0 K "list" rPop (tOp (rIxL K) (tVar 0) (tC (.int 0))) σ H' Q := by
  have hb := s.hb
  rw [map_snoc] at hb
  refine s.r0 hσ ⟨.inl ⟨rfl, _, SqL.of hb⟩, b, _, .int l, rfl, rfl, hb, ?_, ?_⟩
  · rw [List.length_append, List.length_singleton, Nat.add_sub_cancel, List.getElem?_append_right (Nat.le_refl _), Nat.sub_self]
    rfl
  · rw [List.dropLast_concat]
    exact q _ (s.setb (cells_drop s.c))
theorem S4.last {l : Int} (s : S4 a b F H H' (ns ++ [l]) st) (hσ : σ[0]? = some (some (.ref a))) {Q : Bool → Hp → Prop} (q : Q (decide (V.int l = V.int 0)) H') :
    tTest (tOp rEq (tOp (rIxL K) (tOp (rIxL K) (tVar 0) (tC (.int 0))) (tUn (rU fun i => .int (-i)) (tC (.int 1)))) (tC (.int 0))) σ H' Q := by
  have hb := s.hb
  rw [map_snoc] at hb
  exact s.r0 hσ ⟨1, rfl, b, _, -1, _, rfl, rfl, SqL.of hb, atI_last, rfl, _, rfl, q⟩
theorem draw_loop {m : V} {D : L2.Ends} (s0 : S4 a b F H H' ns st) (k : ∀ H2 ns st, S4 a b F H H2 ns st → D.nx [some (.ref a), some m, none] H2) :
    tWhile (tAnd (tTest (tOp (rNeD K) (tOp (rIxL K) (tVar 0) (tC (.int 0))) (tLst tNil))) (tTest (tOp rEq (tOp (rIxL K) (tOp (rIxL K) (tVar 0) (tC (.int 0))) (tUn (rU fun i => .int (-i)) (tC (.int 1)))) (tC (.int 0)))))
      (tDrop (tBM0 K "list" rPop (tOp (rIxL K) (tVar 0) (tC (.int 0))))) D [some (.ref a), some m, none] H' := by
  refine ⟨fun n σ H' => σ = [some (.ref a), some m, none] ∧ ∃ ns st, S4 a b F H H' ns st ∧ ns.length = n, ⟨_, rfl, ns, st, s0, rfl⟩, ?_⟩
  rintro n σ H1 ⟨rfl, ns, st, s1, rfl⟩
  refine s1.full rfl fun H2 s2 => ?_
  rcases List.eq_nil_or_concat ns with rfl | ⟨ms, l, e⟩
  · exact k H2 _ _ s2
  · rw [List.concat_eq_append] at e
    subst e
    rw [show (!decide (ms ++ [l] = [])) = true by simp]
    refine (if_pos rfl).mpr (s2.last rfl ?_)
    cases decide (V.int l = V.int 0) with
    | false => exact k H2 _ _ s2
    | true =>
      refine (if_pos rfl).mpr ⟨fun σ' H' => σ' = [some (.ref a), some m, none] ∧ ∃ st, S4 a b F H H' ms st, fun σ' H' ⟨e, st, s3⟩ => ⟨ms.length, by rw [List.length_append, List.length_singleton]; omega, e, ms, st, s3, rfl⟩, ?_⟩
      exact s2.pop rfl fun H3 s3 => ⟨rfl, st, s3⟩
end
theorem cells_div {n m : Int} {ns : List Int} {st : Int} (c : Cells (ns ++ [n]) st) (hm : 0 < m) : Cells (ns ++ [n / m]) st := by
  refine ⟨fun x hx => ?_, by have := c.len; rw [List.length_append] at this ⊢; exact this, c.st0, c.st1⟩
  rcases List.mem_append.mp hx with hx | hx
  · exact c.pos x (List.mem_append_left _ hx)
  · rw [List.mem_singleton.mp hx]
    obtain ⟨h0, h1⟩ := c.pos n (List.mem_append_right _ (List.mem_singleton.mpr rfl))
    have a := Int.ediv_nonneg h0 (Int.le_of_lt hm)
    have b := Int.ediv_le_self m h0
    exact ⟨a, Nat.lt_of_le_of_lt (by omega) h1⟩
theorem sc__law_draw : FnScope ["_law_heap_here", "_law_many", "_law_rest"] ["_law_heap_here", "_law_many"] (defScope s__law_draw) := ⟨rfl, rfl, rfl, by decide +kernel, rfl, by decide +kernel, by decide +kernel⟩
theorem fn__law_draw {P : Program} {w : World} {K : PySem.W.Frag} {mg : Str → Option Value} {base : Heap} {f : Addr} {fd : FuncData} (Fd : FunD K "_law_draw" "_law_draw" (defArgs s__law_draw) (defBody s__law_draw) (defScope s__law_draw) [] [] f fd) (hint : mg "int" = none) :
    FnGd P w K mg base 1 f fd ["_law_heap_here", "_law_many"] (spV K w 2 sp__law_draw) := by
  refine fnGd_of Fd sc__law_draw (fun vs H Q E ⟨G, F, rs, T, l, _⟩ => l) fun cdv A outer s H vs Q hcd hr hgd ⟨G, F, rs, T, l, W, rr, ra, ⟨m, ers, hm0, hm1, hT⟩, kk⟩ => ?_
  subst ers
  have hu := (hr.units)
  refine ⟨_, pss_cons (ps_while PassesOwn.never (pw_and (pt_cmpR (op_neD hu) (pe_ix ix_list (pv 0) pe_int (fun _ _ => rfl)) (pe_lst pa_nil) (nomark _)) (pw_and1 (pt_cmpR op_eq (pe_ix ix_list (pe_ix ix_list (pv 0) pe_int (fun _ _ => rfl)) (pe_un un_neg pe_int) (fun _ _ => rfl)) pe_int (nomark _)))).pt
      (pss_one (ps_expr (pe_bm0 PySem.F.plainAttrs_list PySem.F.slot_list_pop PySem.F.type_list_pop mt_pop (pe_ix ix_list (pv 0) pe_int (fun _ _ => rfl))))))
    (pss_cons (ps_if (pt_cmpR (op_neD hu) (pe_ix ix_list (pv 0) pe_int (fun _ _ => rfl)) (pe_lst pa_nil) (nomark _))
        (pss_cons (ps_set (i := 2) sc__law_draw.nd rfl (.inl rfl) (pe_bm0 PySem.F.plainAttrs_list PySem.F.slot_list_pop PySem.F.type_list_pop mt_pop (pe_ix ix_list (pv 0) pe_int (fun _ _ => rfl))))
        (pss_cons (ps_expr (pe_bm PySem.F.plainAttrs_list PySem.F.slot_list_append PySem.F.type_list_append mt_append (pe_ix ix_list (pv 0) pe_int (fun _ _ => rfl)) (pa_cons (pe_op op_fdiv (pv 2) (pv 1)) pa_nil)))
        (pss_one (ps_ret (pe_op op_mod (pe_callTy call_int1 rfl hint PyProof.Rows.boot_int (pa_cons (pv 2) pa_nil)) (pv 1)))))) pss_nil)
    (pss_cons (ps_asg (pe_op op_mod (pe_callTy call_int1 rfl hint PyProof.Rows.boot_int (pa_cons (pe_op op_add (pe_op op_mul (pe_ix ix_list (pv 0) pe_int (fun _ _ => rfl)) pe_int) pe_int) pa_nil)) pe_int) (pg_sub (pv 0) pe_int set_list))
    (pss_one (ps_ret (pe_op op_mod (pe_callTy call_int1 rfl hint PyProof.Rows.boot_int (pa_cons (pe_op op_fdiv (pe_ix ix_list (pv 0) pe_int (fun _ _ => rfl)) pe_int) pa_nil)) (pv 1)))))), ?_⟩
  have l2 := rr.length
  cases rr with
  | cons h1 t1 =>
    cases t1 with
    | cons h2 t2 =>
      cases t2
      cases h2
      obtain ⟨a, b, rfl, rfl⟩ := h1
      obtain ⟨ns0, st0, s0⟩ := S4.start W
      have fin : ∀ {H2 : Hp} {ns : List Int} {st x : Int}, S4 a b F H H2 ns st → Q (.int (x % m)) H2 := fun {H2 ns st x} s2 =>
        kk (.d (.int (x % m))) _ F H2 s2.x (Df.int _) (hT _ (Int.emod_nonneg _ (by omega)) (Int.emod_lt_of_pos _ hm0))
      refine draw_loop s0 fun H2 ns st s2 => ?_
      refine s2.full rfl fun H3 s3 => ?_
      rcases List.eq_nil_or_concat ns with rfl | ⟨ms, l, e⟩
      · have c3 := s3.c
        refine s3.r1 rfl ⟨st, 48271, rfl, rfl, .inr ⟨by decide, by decide⟩, _, 17, rfl, rfl, .inl ⟨_, rfl, _, 2147483647, rfl, rfl, (show (0 : Int) < 2147483647 by decide), _, rfl, a, _, 1, 1, rfl, rfl, s3.ha, rfl, ?_⟩⟩
        have s4 := s3.seta (sr := (st * 48271 + 17) % 2147483647) ⟨c3.pos, c3.len, Int.emod_nonneg _ (by decide), Int.emod_lt_of_pos _ (by decide)⟩
        exact s4.r1 rfl ⟨_, 32, rfl, rfl, ⟨by decide, by decide⟩, .inl ⟨_, rfl, _, rfl, _, m, rfl, rfl, hm0, fin s4⟩⟩
      · rw [List.concat_eq_append] at e
        subst e
        rw [show (!decide (ms ++ [l] = [])) = true by simp]
        refine (if_pos rfl).mpr (s3.pop rfl fun H4 s4 => ?_)
        have c4 := cells_div s3.c hm0
        have s5 := s4.setb c4
        rw [map_snoc] at s5
        refine s4.r0 rfl ⟨.inl ⟨rfl, _, SqL.of s4.hb⟩, _, rfl, _, rfl, l, m, rfl, rfl, ⟨hm0, by omega⟩, b, _, _, rfl, rfl, s4.hb, ?_, ?_⟩
        · have := s4.c.len
          rw [List.length_map]
          exact Nat.lt_of_le_of_lt this (by decide)
        · exact ⟨_, rfl, .inl ⟨_, rfl, _, rfl, _, m, rfl, rfl, hm0, fin s5⟩⟩
end K20
set_option Elab.async false
set_option linter.all false
set_option maxRecDepth 100000
set_option maxHeartbeats 0
namespace K20
open PySem PySem.Spec PyProof.Rows L2
def d_fill_count : He.DefD := ⟨("fill_count", none), "fill_count", "fill_count", defArgs s_fill_count, defBody s_fill_count, defScope s_fill_count, [], []⟩
def d_is_integer : He.DefD := ⟨("is_integer", none), "is_integer", "is_integer", defArgs s_is_integer, defBody s_is_integer, defScope s_is_integer, [], []⟩
def d_is_number : He.DefD := ⟨("is_number", none), "is_number", "is_number", defArgs s_is_number, defBody s_is_number, defScope s_is_number, [], []⟩
def d_is_name : He.DefD := ⟨("is_name", none), "is_name", "is_name", defArgs s_is_name, defBody s_is_name, defScope s_is_name, [], []⟩
def d_are_numbers : He.DefD := ⟨("are_numbers", none), "are_numbers", "are_numbers", defArgs s_are_numbers, defBody s_are_numbers, defScope s_are_numbers, [], []⟩
def d_is_ascending : He.DefD := ⟨("is_ascending", none), "is_ascending", "is_ascending", defArgs s_is_ascending, defBody s_is_ascending, defScope s_is_ascending, [], []⟩
def d_is_listing : He.DefD := ⟨("is_listing", none), "is_listing", "is_listing", defArgs s_is_listing, defBody s_is_listing, defScope s_is_listing, [], []⟩
def d_shared_divisor : He.DefD := ⟨("shared_divisor", none), "shared_divisor", "shared_divisor", defArgs s_shared_divisor, defBody s_shared_divisor, defScope s_shared_divisor, [], []⟩
def d_common_bottom : He.DefD := ⟨("common_bottom", none), "common_bottom", "common_bottom", defArgs s_common_bottom, defBody s_common_bottom, defScope s_common_bottom, [], []⟩
def d_fraction_of : He.DefD := ⟨("fraction_of", none), "fraction_of", "fraction_of", defArgs s_fraction_of, defBody s_fraction_of, defScope s_fraction_of, [], []⟩
def d_is_fraction : He.DefD := ⟨("is_fraction", none), "is_fraction", "is_fraction", defArgs s_is_fraction, defBody s_is_fraction, defScope s_is_fraction, [], []⟩
def d_total_of_all : He.DefD := ⟨("total_of_all", none), "total_of_all", "total_of_all", defArgs s_total_of_all, defBody s_total_of_all, defScope s_total_of_all, [], []⟩
def d_are_weights : He.DefD := ⟨("are_weights", none), "are_weights", "are_weights", defArgs s_are_weights, defBody s_are_weights, defScope s_are_weights, [], []⟩
def d_is_row : He.DefD := ⟨("is_row", none), "is_row", "is_row", defArgs s_is_row, defBody s_is_row, defScope s_is_row, [], []⟩
def d_is_thing : He.DefD := ⟨("is_thing", none), "is_thing", "is_thing", defArgs s_is_thing, defBody s_is_thing, defScope s_is_thing, [], []⟩
def d_check_things : He.DefD := ⟨("check_things", none), "check_things", "check_things", defArgs s_check_things, defBody s_check_things, defScope s_check_things, [], []⟩
def d_parents_of : He.DefD := ⟨("parents_of", none), "parents_of", "parents_of", defArgs s_parents_of, defBody s_parents_of, defScope s_parents_of, [], []⟩
def d_family_of : He.DefD := ⟨("family_of", none), "family_of", "family_of", defArgs s_family_of, defBody s_family_of, defScope s_family_of, [], []⟩
def d_scopes_in : He.DefD := ⟨("scopes_in", none), "scopes_in", "scopes_in", defArgs s_scopes_in, defBody s_scopes_in, defScope s_scopes_in, [], []⟩
def d_is_sequence : He.DefD := ⟨("is_sequence", none), "is_sequence", "is_sequence", defArgs s_is_sequence, defBody s_is_sequence, defScope s_is_sequence, [], []⟩
def d_tied_things : He.DefD := ⟨("tied_things", none), "tied_things", "tied_things", defArgs s_tied_things, defBody s_tied_things, defScope s_tied_things, [], []⟩
def d_cluster_behind : He.DefD := ⟨("cluster_behind", none), "cluster_behind", "cluster_behind", defArgs s_cluster_behind, defBody s_cluster_behind, defScope s_cluster_behind, [], []⟩
def d_clusters_by : He.DefD := ⟨("clusters_by", none), "clusters_by", "clusters_by", defArgs s_clusters_by, defBody s_clusters_by, defScope s_clusters_by, [], []⟩
def d_scopes_left : He.DefD := ⟨("scopes_left", none), "scopes_left", "scopes_left", defArgs s_scopes_left, defBody s_scopes_left, defScope s_scopes_left, [], []⟩
def d_scopes_without : He.DefD := ⟨("scopes_without", none), "scopes_without", "scopes_without", defArgs s_scopes_without, defBody s_scopes_without, defScope s_scopes_without, [], []⟩
def d_flows_by : He.DefD := ⟨("flows_by", none), "flows_by", "flows_by", defArgs s_flows_by, defBody s_flows_by, defScope s_flows_by, [], []⟩
def d_settled_sequence : He.DefD := ⟨("settled_sequence", none), "settled_sequence", "settled_sequence", defArgs s_settled_sequence, defBody s_settled_sequence, defScope s_settled_sequence, [], []⟩
def d_lot_size : He.DefD := ⟨("lot_size", none), "lot_size", "lot_size", defArgs s_lot_size, defBody s_lot_size, defScope s_lot_size, [], []⟩
def d_sizes_by : He.DefD := ⟨("sizes_by", none), "sizes_by", "sizes_by", defArgs s_sizes_by, defBody s_sizes_by, defScope s_sizes_by, [], []⟩
def d_joined_cost : He.DefD := ⟨("joined_cost", none), "joined_cost", "joined_cost", defArgs s_joined_cost, defBody s_joined_cost, defScope s_joined_cost, [], []⟩
def d_cost_by : He.DefD := ⟨("cost_by", none), "cost_by", "cost_by", defArgs s_cost_by, defBody s_cost_by, defScope s_cost_by, [], []⟩
def d_greedy_sequence : He.DefD := ⟨("greedy_sequence", none), "greedy_sequence", "greedy_sequence", defArgs s_greedy_sequence, defBody s_greedy_sequence, defScope s_greedy_sequence, [], []⟩
def d__law_heap : He.DefD := ⟨("_law_heap", none), "_law_heap", "_law_heap", defArgs s__law_heap, defBody s__law_heap, defScope s__law_heap, [], []⟩
def d__law_draw : He.DefD := ⟨("_law_draw", none), "_law_draw", "_law_draw", defArgs s__law_draw, defBody s__law_draw, defScope s__law_draw, [], []⟩
def d__law_pick : He.DefD := ⟨("_law_pick", none), "_law_pick", "_law_pick", defArgs s__law_pick, defBody s__law_pick, defScope s__law_pick, [], []⟩
def d__law_shuffled : He.DefD := ⟨("_law_shuffled", none), "_law_shuffled", "_law_shuffled", defArgs s__law_shuffled, defBody s__law_shuffled, defScope s__law_shuffled, [], []⟩
def d__law_cluster : He.DefD := ⟨("_law_cluster", none), "_law_cluster", "_law_cluster", defArgs s__law_cluster, defBody s__law_cluster, defScope s__law_cluster, [], []⟩
def d__law_size : He.DefD := ⟨("_law_size", none), "_law_size", "_law_size", defArgs s__law_size, defBody s__law_size, defScope s__law_size, [], []⟩
def d__law_scopes : He.DefD := ⟨("_law_scopes", none), "_law_scopes", "_law_scopes", defArgs s__law_scopes, defBody s__law_scopes, defScope s__law_scopes, [], []⟩
def d__law_net : He.DefD := ⟨("_law_net", none), "_law_net", "_law_net", defArgs s__law_net, defBody s__law_net, defScope s__law_net, [], []⟩
def d__law_joined : He.DefD := ⟨("_law_joined", none), "_law_joined", "_law_joined", defArgs s__law_joined, defBody s__law_joined, defScope s__law_joined, [], []⟩
def d__law_left : He.DefD := ⟨("_law_left", none), "_law_left", "_law_left", defArgs s__law_left, defBody s__law_left, defScope s__law_left, [], []⟩
def d__law_flows : He.DefD := ⟨("_law_flows", none), "_law_flows", "_law_flows", defArgs s__law_flows, defBody s__law_flows, defScope s__law_flows, [], []⟩
def d__law_flowing : He.DefD := ⟨("_law_flowing", none), "_law_flowing", "_law_flowing", defArgs s__law_flowing, defBody s__law_flowing, defScope s__law_flowing, [], []⟩
def d__law_greedy : He.DefD := ⟨("_law_greedy", none), "_law_greedy", "_law_greedy", defArgs s__law_greedy, defBody s__law_greedy, defScope s__law_greedy, [], []⟩
def d__law_clusters : He.DefD := ⟨("_law_clusters", none), "_law_clusters", "_law_clusters", defArgs s__law_clusters, defBody s__law_clusters, defScope s__law_clusters, [], []⟩
def d__law_costs_right : He.DefD := ⟨("_law_costs_right", none), "_law_costs_right", "_law_costs_right", defArgs s__law_costs_right, defBody s__law_costs_right, defScope s__law_costs_right, [], []⟩
def d__law_flows_right : He.DefD := ⟨("_law_flows_right", none), "_law_flows_right", "_law_flows_right", defArgs s__law_flows_right, defBody s__law_flows_right, defScope s__law_flows_right, [], []⟩
def d__law_behind_right : He.DefD := ⟨("_law_behind_right", none), "_law_behind_right", "_law_behind_right", defArgs s__law_behind_right, defBody s__law_behind_right, defScope s__law_behind_right, [], []⟩
def d__law_odd : He.DefD := ⟨("_law_odd", none), "_law_odd", "_law_odd", defArgs s__law_odd, defBody s__law_odd, defScope s__law_odd, [], []⟩
def d__law_is_sequence : He.DefD := ⟨("_law_is_sequence", none), "_law_is_sequence", "_law_is_sequence", defArgs s__law_is_sequence, defBody s__law_is_sequence, defScope s__law_is_sequence, [], []⟩
def d_law : He.DefD := ⟨("law", none), "law", "law", defArgs s_law, defBody s_law, defScope s_law, [], []⟩
def d_Net_init : He.DefD := ⟨("Net", some "__init__"), "__init__", "Net.__init__", defArgs s_Net_init, defBody s_Net_init, defScope s_Net_init, [], []⟩
def fn : List He.DefD := [d_fill_count, d_is_integer, d_is_number, d_is_name, d_are_numbers, d_is_ascending, d_is_listing, d_shared_divisor, d_common_bottom, d_fraction_of, d_is_fraction, d_total_of_all, d_are_weights, d_is_row, d_is_thing, d_check_things, d_parents_of, d_family_of, d_scopes_in, d_is_sequence, d_tied_things, d_cluster_behind, d_clusters_by, d_scopes_left, d_scopes_without, d_flows_by, d_settled_sequence, d_lot_size, d_sizes_by, d_joined_cost, d_cost_by, d_greedy_sequence, d__law_heap, d__law_draw, d__law_pick, d__law_shuffled, d__law_cluster, d__law_size, d__law_scopes, d__law_net, d__law_joined, d__law_left, d__law_flows, d__law_flowing, d__law_greedy, d__law_clusters, d__law_costs_right, d__law_flows_right, d__law_behind_right, d__law_odd, d__law_is_sequence, d_law, d_Net_init]
def fa : List He.Fa := [.glo "fill_count", .glo "is_integer", .glo "is_number", .glo "is_name", .glo "are_numbers", .glo "is_ascending", .glo "is_listing", .glo "shared_divisor", .glo "common_bottom", .glo "fraction_of", .glo "is_fraction", .glo "total_of_all", .glo "are_weights", .glo "is_row", .glo "is_thing", .glo "check_things", .glo "parents_of", .glo "family_of", .glo "scopes_in", .glo "is_sequence", .glo "tied_things", .glo "cluster_behind", .glo "clusters_by", .glo "scopes_left", .glo "scopes_without", .glo "flows_by", .glo "settled_sequence", .glo "lot_size", .glo "sizes_by", .glo "joined_cost", .glo "cost_by", .glo "greedy_sequence", .glo "_law_heap", .glo "_law_draw", .glo "_law_pick", .glo "_law_shuffled", .glo "_law_cluster", .glo "_law_size", .glo "_law_scopes", .glo "_law_net", .glo "_law_joined", .glo "_law_left", .glo "_law_flows", .glo "_law_flowing", .glo "_law_greedy", .glo "_law_clusters", .glo "_law_costs_right", .glo "_law_flows_right", .glo "_law_behind_right", .glo "_law_odd", .glo "_law_is_sequence", .glo "law", .free "len", .free "isinstance", .free "all", .free "any", .free "sum", .free "abs", .free "range", .free "enumerate", .free "zip", .free "sorted", .free "tuple", .free "list", .free "min", .free "max", .free "repr", .free "int", .free "bool", .free "str", .str "LETTERS" "abcdefghijklmnopqrstuvwxyz", .int "LONGEST_NAME" 6, .glo "Net", .glo "ONE", .cls "Net", .noat "Net" "things", .mkr "Net"]
def ex (K : PySem.W.Frag) : Bool := He.tupB K "ONE" [.int 1, .int 1]
abbrev AlM : Type := He.AlD × Bool
def obsM (K : PySem.W.Frag) : AlM := (He.obsD fa fn K, ex K)
def obsMG (n : Nat) (g : Addr → Option Obj) : AlM := obsM (He.frG g (He.asD g n))
structure SaysM (K : PySem.W.Frag) : Prop where
  d : He.SaysD fa fn K
  e : ex K = true
def hookM (n : Nat) : PySem.W.Hook where
  α := AlM
  obs := fun s => obsMG n s.heap.get?
  val := fun _ => (He.valD fn, true)
  says := fun _ h => ∃ K : PySem.W.Frag, K.In h ∧ SaysM K
  of := fun _ _ e => ⟨_, He.frG_in, ⟨congrArg (fun z : AlM => z.1) e, congrArg (fun z : AlM => z.2) e⟩⟩
  keeps := fun _ _ _ ⟨K, hK, c⟩ k => ⟨K, PySem.W.Frag.In.keeps hK k, c⟩
theorem obsMG_eq {n : Nat} {g : Addr → Option Obj} {s : Shared} (h : ∀ a, g a = s.heap.get? a) : obsMG n g = (hookM n).obs s := by
  have e : g = s.heap.get? := funext h
  rw [e] <;> rfl
abbrev R : PySem.W.OpenRow := PySem.W.OpenLaw.row PySem.Challenge.rw_allworlds_k20_whole_clusters_sizes_and_f
abbrev hk : PySem.W.Hook := hookM 4
def ob (s : PySem.W.SharedT) : AlM := obsMG 4 (HandSHeadRun.getT s)
theorem ob_eq (s : PySem.W.SharedT) : ob s = hk.obs s.abs := obsMG_eq (HandSHeadRun.getT_eq s)
def names1 : List PySem.Str := ["fill_count", "NetError", "InvalidNet", "InvalidNumber", "LETTERS", "LONGEST_NAME", "is_integer", "is_number", "is_name", "are_numbers", "is_ascending", "is_listing", "ONE", "shared_divisor", "common_bottom", "fraction_of", "is_fraction", "total_of_all", "are_weights", "is_row", "is_thing", "check_things", "Net", "parents_of", "family_of", "scopes_in", "is_sequence", "tied_things", "cluster_behind"]
def names2 : List PySem.Str := ["clusters_by", "scopes_left", "scopes_without", "flows_by", "settled_sequence", "lot_size", "sizes_by", "joined_cost", "cost_by", "greedy_sequence", "_law_heap", "_law_draw", "_law_pick", "_law_shuffled", "_law_cluster", "_law_size", "_law_scopes", "_law_net", "_law_joined", "_law_left", "_law_flows", "_law_flowing", "_law_greedy", "_law_clusters", "_law_costs_right", "_law_flows_right", "_law_behind_right", "_law_odd", "_law_is_sequence"]
abbrev loose : List PySem.Str := names1 ++ names2
abbrev qv : Program := PySem.W.view R.prog [65]
theorem run (w : World) : HandSHeadRun.RunEq R qv hk ob 20000 loose w := by
  intro os
  kernel_rfl
end K20
set_option Elab.async false
set_option linter.all false
set_option maxRecDepth 100000
set_option maxHeartbeats 0
namespace K20
open PySem PySem.Spec PyProof.Rows L2 DL
section
variable {P : Program} {w : World} {K : PySem.W.Frag} {mg : Str → Option Value} {base : Heap}
abbrev N_fill_count : List Str := ["counts", "many", "count"]
abbrev S_fill_count (P : Program) (w : World) (K : PySem.W.Frag) (mg : Str → Option Value) (base : Heap) : Sx := ⟨N_fill_count, defScope s_fill_count, fun _ => true, P, w, K, mg, base, 0⟩
def T_fill_count : TSd := (sThen (sSet 1 (eC (.d (.int 1))))
  (sThen (sFor (iS true (eVar 0)) (gN 2) (sThen (sAug 1 fMul (eVar 2))
  sNil))
  (sThen (sRet (eVar 1))
  sNil)))
theorem walk_fill_count (B : Bt mg) : DSs (S_fill_count P w K mg base) (defBody s_fill_count) T_fill_count :=
  (dss_cons (ds_set 1 rfl (by first | exact .inl rfl | exact .inr rfl) de_int)
  (dss_cons (ds_for (ns := [2]) (di_seq (de_var 0 rfl (by first | exact .inl rfl | exact .inr (.inl rfl) | exact .inr (.inr rfl)))) (dg_name 2 rfl (by first | exact .inl rfl | exact .inr rfl)) (dss_cons (ds_aug 1 rfl (by first | exact .inl rfl | exact .inr rfl) (de_var 2 rfl (by first | exact .inl rfl | exact .inr (.inl rfl) | exact .inr (.inr rfl))) (fun X c => CR.ip_mul) r2_ipMul)
  dss_nil))
  (dss_cons (ds_ret (de_var 1 rfl (by first | exact .inl rfl | exact .inr (.inl rfl) | exact .inr (.inr rfl))))
  dss_nil)))
theorem sc_fill_count : FnScope N_fill_count ["counts"] (defScope s_fill_count) := ⟨rfl, rfl, rfl, by decide +kernel, rfl, by decide +kernel, by decide +kernel⟩
abbrev N_is_integer : List Str := ["value"]
abbrev S_is_integer (P : Program) (w : World) (K : PySem.W.Frag) (mg : Str → Option Value) (base : Heap) : Sx := ⟨N_is_integer, defScope s_is_integer, fun _ => true, P, w, K, mg, base, 0⟩
def T_is_integer : TSd := (sThen (sRet (eAnd (eA2 fIsi' (eVar 0) (eC (.ty "int"))) (eNot (eA2 fIsi' (eVar 0) (eC (.ty "bool"))))))
  sNil)
theorem walk_is_integer (B : Bt mg) : DSs (S_is_integer P w K mg base) (defBody s_is_integer) T_is_integer :=
  (dss_cons (ds_ret (de_and (db_isi B rfl (de_var 0 rfl (by first | exact .inl rfl | exact .inr (.inl rfl) | exact .inr (.inr rfl))) (db_cls (x := ("int" : Str)) (T := "int") B rfl (by decide) PyProof.Rows.boot_int)) (de_one (de_not (db_isi B rfl (de_var 0 rfl (by first | exact .inl rfl | exact .inr (.inl rfl) | exact .inr (.inr rfl))) (db_cls (x := ("bool" : Str)) (T := "bool") B rfl (by decide) PyProof.Rows.boot_bool))))))
  dss_nil)
theorem sc_is_integer : FnScope N_is_integer ["value"] (defScope s_is_integer) := ⟨rfl, rfl, rfl, by decide +kernel, rfl, by decide +kernel, by decide +kernel⟩
abbrev N_is_number : List Str := ["value"]
abbrev S_is_number (P : Program) (w : World) (K : PySem.W.Frag) (mg : Str → Option Value) (base : Heap) : Sx := ⟨N_is_number, defScope s_is_number, fun _ => true, P, w, K, mg, base, 1⟩
def T_is_number : TSd := (sThen (sRet (eAnd (eCB (fCall sp_is_integer) (aCons (eVar 0) aNil)) (e2 fGe (eVar 0) (eC (.d (.int 0))))))
  sNil)
theorem walk_is_number (B : Bt mg) (D_is_integer : DefW P w K mg base "is_integer" 1 ["value"] sp_is_integer) : DSs (S_is_number P w K mg base) (defBody s_is_number) T_is_number :=
  (dss_cons (ds_ret (de_and (de_call D_is_integer.at (by show 1 ≤ 1; decide) rfl (da_cons (de_var 0 rfl (by first | exact .inl rfl | exact .inr (.inl rfl) | exact .inr (.inr rfl))) da_nil) rfl) (de_one (de_ge (de_var 0 rfl (by first | exact .inl rfl | exact .inr (.inl rfl) | exact .inr (.inr rfl))) de_int))))
  dss_nil)
theorem sc_is_number : FnScope N_is_number ["value"] (defScope s_is_number) := ⟨rfl, rfl, rfl, by decide +kernel, rfl, by decide +kernel, by decide +kernel⟩
abbrev N_is_name : List Str := ["value", "sign"]
abbrev S_is_name (P : Program) (w : World) (K : PySem.W.Frag) (mg : Str → Option Value) (base : Heap) : Sx := ⟨N_is_name, defScope s_is_name, fun _ => true, P, w, K, mg, base, 0⟩
def T_is_name : TSd := (sThen (sIf (bOr (bNot (eT (eA2 fIsi' (eVar 0) (eC (.ty "str"))))) (bNot (eChain (eC (.d (.int 1))) (e1 fLen (eVar 0)) (eC (.d (.int 6)))))) (sThen (sRet (eC (.d (.bool false))))
  sNil) sNil)
  (sThen (sRet (e1 fAll (eLc (iT (eVar 0)) (gN 1) bYes (e2 fInS (eVar 1) (eC (.d (.str letters)))) [1])))
  sNil))
theorem walk_is_name (B : Bt mg) (M : Md K mg) : DSs (S_is_name P w K mg base) (defBody s_is_name) T_is_name :=
  (dss_cons (ds_if (dt_w (dw_or (dt_not (dt_val (db_isi B rfl (de_var 0 rfl (by first | exact .inl rfl | exact .inr (.inl rfl) | exact .inr (.inr rfl))) (db_cls (x := ("str" : Str)) (T := "str") B rfl (by decide) PyProof.Rows.boot_str)))) (dw_or1 (dt_not (dt_chain de_int (db_len B rfl (de_var 0 rfl (by first | exact .inl rfl | exact .inr (.inl rfl) | exact .inr (.inr rfl)))) (de_gint (t := M.tN) rfl M.longest)))))) (dss_cons (ds_ret de_bl)
  dss_nil) dss_nil)
  (dss_cons (ds_ret (db_all B rfl (de_lc' (dlc (own := [(("sign" : Str), 1)]) (ns := [1]) (di_str (de_var 0 rfl (by first | exact .inl rfl | exact .inr (.inl rfl) | exact .inr (.inr rfl)))) (dg_name 1 rfl (by first | exact .inl rfl | exact .inr rfl)) dts_nil (de_inS (de_var 1 rfl (by first | exact .inl rfl | exact .inr (.inl rfl) | exact .inr (.inr rfl))) (de_gstr (t := M.tL) rfl M.letters)) (by decide)) (by dsimp only [S_is_name, Sx.blk]; decide +kernel))))
  dss_nil))
theorem sc_is_name : FnScope N_is_name ["value"] (defScope s_is_name) := ⟨rfl, rfl, rfl, by decide +kernel, rfl, by decide +kernel, by decide +kernel⟩
abbrev N_are_numbers : List Str := ["value", "item"]
abbrev S_are_numbers (P : Program) (w : World) (K : PySem.W.Frag) (mg : Str → Option Value) (base : Heap) : Sx := ⟨N_are_numbers, defScope s_are_numbers, fun _ => true, P, w, K, mg, base, 2⟩
def T_are_numbers : TSd := (sThen (sRet (eAnd (eA2 fIsi' (eVar 0) (eC (.ty "tuple"))) (e1 fAll (eLc (iS false (eVar 0)) (gN 1) bYes (eCB (fCall sp_is_number) (aCons (eVar 1) aNil)) [1]))))
  sNil)
theorem walk_are_numbers (B : Bt mg) (D_is_number : DefW P w K mg base "is_number" 2 ["value"] sp_is_number) : DSs (S_are_numbers P w K mg base) (defBody s_are_numbers) T_are_numbers :=
  (dss_cons (ds_ret (de_and (db_isi B rfl (de_var 0 rfl (by first | exact .inl rfl | exact .inr (.inl rfl) | exact .inr (.inr rfl))) (db_cls (x := ("tuple" : Str)) (T := "tuple") B rfl (by decide) PyProof.Rows.boot_tuple)) (de_one (db_all B rfl (de_lc' (dlc (own := [(("item" : Str), 1)]) (ns := [1]) (di_seq (de_var 0 rfl (by first | exact .inl rfl | exact .inr (.inl rfl) | exact .inr (.inr rfl)))) (dg_name 1 rfl (by first | exact .inl rfl | exact .inr rfl)) dts_nil (de_call D_is_number.at (by show 2 ≤ 2; decide) rfl (da_cons (de_var 1 rfl (by first | exact .inl rfl | exact .inr (.inl rfl) | exact .inr (.inr rfl))) da_nil) rfl) (by decide)) (by dsimp only [S_are_numbers, Sx.blk]; decide +kernel))))))
  dss_nil)
theorem sc_are_numbers : FnScope N_are_numbers ["value"] (defScope s_are_numbers) := ⟨rfl, rfl, rfl, by decide +kernel, rfl, by decide +kernel, by decide +kernel⟩
abbrev N_is_ascending : List Str := ["items", "at"]
abbrev S_is_ascending (P : Program) (w : World) (K : PySem.W.Frag) (mg : Str → Option Value) (base : Heap) : Sx := ⟨N_is_ascending, defScope s_is_ascending, fun _ => true, P, w, K, mg, base, 0⟩
def T_is_ascending : TSd := (sThen (sRet (e1 fAll (eLc (iR (e2 fSub (e1 fLen (eVar 0)) (eC (.d (.int 1))))) (gN 1) bYes (e2 fLt (e2 fIx (eVar 0) (eVar 1)) (e2 fIx (eVar 0) (e2 fAdd (eVar 1) (eC (.d (.int 1)))))) [1])))
  sNil)
theorem walk_is_ascending (B : Bt mg) : DSs (S_is_ascending P w K mg base) (defBody s_is_ascending) T_is_ascending :=
  (dss_cons (ds_ret (db_all B rfl (de_lc' (dlc (own := [(("at" : Str), 1)]) (ns := [1]) (dib_rng B rfl (de_sub (db_len B rfl (de_var 0 rfl (by first | exact .inl rfl | exact .inr (.inl rfl) | exact .inr (.inr rfl)))) de_int)) (dg_name 1 rfl (by first | exact .inl rfl | exact .inr rfl)) dts_nil (de_lt (de_ix (de_var 0 rfl (by first | exact .inl rfl | exact .inr (.inl rfl) | exact .inr (.inr rfl))) (de_var 1 rfl (by first | exact .inl rfl | exact .inr (.inl rfl) | exact .inr (.inr rfl)))) (de_ix (de_var 0 rfl (by first | exact .inl rfl | exact .inr (.inl rfl) | exact .inr (.inr rfl))) (de_add (de_var 1 rfl (by first | exact .inl rfl | exact .inr (.inl rfl) | exact .inr (.inr rfl))) de_int))) (by decide)) (by dsimp only [S_is_ascending, Sx.blk]; decide +kernel))))
  dss_nil)
theorem sc_is_ascending : FnScope N_is_ascending ["items"] (defScope s_is_ascending) := ⟨rfl, rfl, rfl, by decide +kernel, rfl, by decide +kernel, by decide +kernel⟩
abbrev N_is_listing : List Str := ["value", "bound", "item"]
abbrev S_is_listing (P : Program) (w : World) (K : PySem.W.Frag) (mg : Str → Option Value) (base : Heap) : Sx := ⟨N_is_listing, defScope s_is_listing, fun _ => true, P, w, K, mg, base, 3⟩
def T_is_listing : TSd := (sThen (sRet (eAnd (eCB (fCall sp_are_numbers) (aCons (eVar 0) aNil)) (eAnd (e1 fAll (eLc (iS false (eVar 0)) (gN 2) bYes (e2 fLt (eVar 2) (eVar 1)) [2])) (eCB (fCall sp_is_ascending) (aCons (eVar 0) aNil)))))
  sNil)
theorem walk_is_listing (B : Bt mg) (D_are_numbers : DefW P w K mg base "are_numbers" 3 ["value"] sp_are_numbers) (D_is_ascending : DefW P w K mg base "is_ascending" 1 ["items"] sp_is_ascending) : DSs (S_is_listing P w K mg base) (defBody s_is_listing) T_is_listing :=
  (dss_cons (ds_ret (de_and (de_call D_are_numbers.at (by show 3 ≤ 3; decide) rfl (da_cons (de_var 0 rfl (by first | exact .inl rfl | exact .inr (.inl rfl) | exact .inr (.inr rfl))) da_nil) rfl) (de_and (db_all B rfl (de_lc' (dlc (own := [(("item" : Str), 2)]) (ns := [2]) (di_seq (de_var 0 rfl (by first | exact .inl rfl | exact .inr (.inl rfl) | exact .inr (.inr rfl)))) (dg_name 2 rfl (by first | exact .inl rfl | exact .inr rfl)) dts_nil (de_lt (de_var 2 rfl (by first | exact .inl rfl | exact .inr (.inl rfl) | exact .inr (.inr rfl))) (de_var 1 rfl (by first | exact .inl rfl | exact .inr (.inl rfl) | exact .inr (.inr rfl)))) (by decide)) (by dsimp only [S_is_listing, Sx.blk]; decide +kernel))) (de_one (de_call D_is_ascending.at (by show 1 ≤ 3; decide) rfl (da_cons (de_var 0 rfl (by first | exact .inl rfl | exact .inr (.inl rfl) | exact .inr (.inr rfl))) da_nil) rfl)))))
  dss_nil)
theorem sc_is_listing : FnScope N_is_listing ["value", "bound"] (defScope s_is_listing) := ⟨rfl, rfl, rfl, by decide +kernel, rfl, by decide +kernel, by decide +kernel⟩
abbrev N_shared_divisor : List Str := ["one", "other"]
abbrev S_shared_divisor (P : Program) (w : World) (K : PySem.W.Frag) (mg : Str → Option Value) (base : Heap) : Sx := ⟨N_shared_divisor, defScope s_shared_divisor, fun _ => true, P, w, K, mg, base, 0⟩
def T_shared_divisor : TSd := (sThen (sPar 0 1 (aCons (e1 fAbs (eVar 0)) (aCons (e1 fAbs (eVar 1)) aNil)))
  (sThen (sWhile (eT (e2 fGt (eVar 1) (eC (.d (.int 0))))) (sThen (sPar 0 1 (aCons (eVar 1) (aCons (e2 fMod (eVar 0) (eVar 1)) aNil)))
  sNil))
  (sThen (sRet (eVar 0))
  sNil)))
theorem walk_shared_divisor (B : Bt mg) : DSs (S_shared_divisor P w K mg base) (defBody s_shared_divisor) T_shared_divisor :=
  (dss_cons (ds_par 0 1 rfl rfl (by decide) rfl rfl (da_cons (db_abs B rfl (de_var 0 rfl (by first | exact .inl rfl | exact .inr (.inl rfl) | exact .inr (.inr rfl)))) (da_cons (db_abs B rfl (de_var 1 rfl (by first | exact .inl rfl | exact .inr (.inl rfl) | exact .inr (.inr rfl)))) da_nil)) (by intro env h; cases env; dsimp only at h; subst h; rfl))
  (dss_cons (ds_while (dt_gt (de_var 1 rfl (by first | exact .inl rfl | exact .inr (.inl rfl) | exact .inr (.inr rfl))) de_int) (dss_cons (ds_par 0 1 rfl rfl (by decide) rfl rfl (da_cons (de_var 1 rfl (by first | exact .inl rfl | exact .inr (.inl rfl) | exact .inr (.inr rfl))) (da_cons (de_mod (de_var 0 rfl (by first | exact .inl rfl | exact .inr (.inl rfl) | exact .inr (.inr rfl))) (de_var 1 rfl (by first | exact .inl rfl | exact .inr (.inl rfl) | exact .inr (.inr rfl)))) da_nil)) (by intro env h; cases env; dsimp only at h; subst h; rfl))
  dss_nil))
  (dss_cons (ds_ret (de_var 0 rfl (by first | exact .inl rfl | exact .inr (.inl rfl) | exact .inr (.inr rfl))))
  dss_nil)))
theorem sc_shared_divisor : FnScope N_shared_divisor ["one", "other"] (defScope s_shared_divisor) := ⟨rfl, rfl, rfl, by decide +kernel, rfl, by decide +kernel, by decide +kernel⟩
abbrev N_common_bottom : List Str := ["fractions", "found", "top", "bottom"]
abbrev S_common_bottom (P : Program) (w : World) (K : PySem.W.Frag) (mg : Str → Option Value) (base : Heap) : Sx := ⟨N_common_bottom, defScope s_common_bottom, fun _ => true, P, w, K, mg, base, 1⟩
def T_common_bottom : TSd := (sThen (sSet 1 (eC (.d (.int 1))))
  (sThen (sFor (iS true (eVar 0)) (gT (gsCons (gN 2) (gsCons (gN 3) gsNil))) (sThen (sSet 1 (e2 fMul (e2 fDiv (eVar 1) (eCB (fCall sp_shared_divisor) (aCons (eVar 1) (aCons (eVar 3) aNil)))) (eVar 3)))
  sNil))
  (sThen (sRet (eVar 1))
  sNil)))
theorem walk_common_bottom (B : Bt mg) (D_shared_divisor : DefW P w K mg base "shared_divisor" 1 ["one", "other"] sp_shared_divisor) : DSs (S_common_bottom P w K mg base) (defBody s_common_bottom) T_common_bottom :=
  (dss_cons (ds_set 1 rfl (by first | exact .inl rfl | exact .inr rfl) de_int)
  (dss_cons (ds_for (ns := [2, 3]) (di_seq (de_var 0 rfl (by first | exact .inl rfl | exact .inr (.inl rfl) | exact .inr (.inr rfl)))) (dg_tup2 (dg_name 2 rfl (by first | exact .inl rfl | exact .inr rfl)) (dg_name 3 rfl (by first | exact .inl rfl | exact .inr rfl))) (dss_cons (ds_set 1 rfl (by first | exact .inl rfl | exact .inr rfl) (de_mul (de_div (de_var 1 rfl (by first | exact .inl rfl | exact .inr (.inl rfl) | exact .inr (.inr rfl))) (de_call D_shared_divisor.at (by show 1 ≤ 1; decide) rfl (da_cons (de_var 1 rfl (by first | exact .inl rfl | exact .inr (.inl rfl) | exact .inr (.inr rfl))) (da_cons (de_var 3 rfl (by first | exact .inl rfl | exact .inr (.inl rfl) | exact .inr (.inr rfl))) da_nil)) rfl)) (de_var 3 rfl (by first | exact .inl rfl | exact .inr (.inl rfl) | exact .inr (.inr rfl)))))
  dss_nil))
  (dss_cons (ds_ret (de_var 1 rfl (by first | exact .inl rfl | exact .inr (.inl rfl) | exact .inr (.inr rfl))))
  dss_nil)))
theorem sc_common_bottom : FnScope N_common_bottom ["fractions"] (defScope s_common_bottom) := ⟨rfl, rfl, rfl, by decide +kernel, rfl, by decide +kernel, by decide +kernel⟩
abbrev N_fraction_of : List Str := ["top", "bottom", "factor"]
abbrev S_fraction_of (P : Program) (w : World) (K : PySem.W.Frag) (mg : Str → Option Value) (base : Heap) : Sx := ⟨N_fraction_of, defScope s_fraction_of, fun _ => true, P, w, K, mg, base, 1⟩
def T_fraction_of : TSd := (sThen (sIf (eT (e2 fEq (eVar 1) (eC (.d (.int 0))))) (sThen sNever
  sNil) sNil)
  (sThen (sSet 2 (eCB (fCall sp_shared_divisor) (aCons (eVar 0) (aCons (eVar 1) aNil))))
  (sThen (sIf (eT (e2 fLt (eVar 1) (eC (.d (.int 0))))) (sThen (sSet 2 (eNeg (eVar 2)))
  sNil) sNil)
  (sThen (sRet (eTup (aCons (e2 fDiv (eVar 0) (eVar 2)) (aCons (e2 fDiv (eVar 1) (eVar 2)) aNil))))
  sNil))))
theorem walk_fraction_of (B : Bt mg) (D_shared_divisor : DefW P w K mg base "shared_divisor" 1 ["one", "other"] sp_shared_divisor) : DSs (S_fraction_of P w K mg base) (defBody s_fraction_of) T_fraction_of :=
  (dss_cons (ds_if (dt_eq (de_var 1 rfl (by first | exact .inl rfl | exact .inr (.inl rfl) | exact .inr (.inr rfl))) de_int) (dss_cons ds_never
  dss_nil) dss_nil)
  (dss_cons (ds_set 2 rfl (by first | exact .inl rfl | exact .inr rfl) (de_call D_shared_divisor.at (by show 1 ≤ 1; decide) rfl (da_cons (de_var 0 rfl (by first | exact .inl rfl | exact .inr (.inl rfl) | exact .inr (.inr rfl))) (da_cons (de_var 1 rfl (by first | exact .inl rfl | exact .inr (.inl rfl) | exact .inr (.inr rfl))) da_nil)) rfl))
  (dss_cons (ds_if (dt_lt (de_var 1 rfl (by first | exact .inl rfl | exact .inr (.inl rfl) | exact .inr (.inr rfl))) de_int) (dss_cons (ds_set 2 rfl (by first | exact .inl rfl | exact .inr rfl) (de_neg (de_var 2 rfl (by first | exact .inl rfl | exact .inr (.inl rfl) | exact .inr (.inr rfl)))))
  dss_nil) dss_nil)
  (dss_cons (ds_ret (de_tup (da_cons (de_div (de_var 0 rfl (by first | exact .inl rfl | exact .inr (.inl rfl) | exact .inr (.inr rfl))) (de_var 2 rfl (by first | exact .inl rfl | exact .inr (.inl rfl) | exact .inr (.inr rfl)))) (da_cons (de_div (de_var 1 rfl (by first | exact .inl rfl | exact .inr (.inl rfl) | exact .inr (.inr rfl))) (de_var 2 rfl (by first | exact .inl rfl | exact .inr (.inl rfl) | exact .inr (.inr rfl)))) da_nil))))
  dss_nil))))
theorem sc_fraction_of : FnScope N_fraction_of ["top", "bottom"] (defScope s_fraction_of) := ⟨rfl, rfl, rfl, by decide +kernel, rfl, by decide +kernel, by decide +kernel⟩
abbrev N_is_fraction : List Str := ["value", "item"]
abbrev S_is_fraction (P : Program) (w : World) (K : PySem.W.Frag) (mg : Str → Option Value) (base : Heap) : Sx := ⟨N_is_fraction, defScope s_is_fraction, fun _ => true, P, w, K, mg, base, 1⟩
def T_is_fraction : TSd := (sThen (sIf (bOr (bNot (eT (eA2 fIsi' (eVar 0) (eC (.ty "tuple"))))) (bOr (eT (e2 fNe (e1 fLen (eVar 0)) (eC (.d (.int 2))))) (bNot (eT (e1 fAll (eLc (iS false (eVar 0)) (gN 1) bYes (eCB (fCall sp_is_integer) (aCons (eVar 1) aNil)) [1])))))) (sThen (sRet (eC (.d (.bool false))))
  sNil) sNil)
  (sThen (sRet (eAnd (e2 fGt (e2 fIx (eVar 0) (eC (.d (.int 1)))) (eC (.d (.int 0)))) (e2 fEq (eCB (fCall sp_shared_divisor) (aCons (e2 fIx (eVar 0) (eC (.d (.int 0)))) (aCons (e2 fIx (eVar 0) (eC (.d (.int 1)))) aNil))) (eC (.d (.int 1))))))
  sNil))
theorem walk_is_fraction (B : Bt mg) (D_is_integer : DefW P w K mg base "is_integer" 1 ["value"] sp_is_integer) (D_shared_divisor : DefW P w K mg base "shared_divisor" 1 ["one", "other"] sp_shared_divisor) : DSs (S_is_fraction P w K mg base) (defBody s_is_fraction) T_is_fraction :=
  (dss_cons (ds_if (dt_w (dw_or (dt_not (dt_val (db_isi B rfl (de_var 0 rfl (by first | exact .inl rfl | exact .inr (.inl rfl) | exact .inr (.inr rfl))) (db_cls (x := ("tuple" : Str)) (T := "tuple") B rfl (by decide) PyProof.Rows.boot_tuple)))) (dw_or (dt_ne (db_len B rfl (de_var 0 rfl (by first | exact .inl rfl | exact .inr (.inl rfl) | exact .inr (.inr rfl)))) de_int) (dw_or1 (dt_not (dt_val (db_all B rfl (de_lc' (dlc (own := [(("item" : Str), 1)]) (ns := [1]) (di_seq (de_var 0 rfl (by first | exact .inl rfl | exact .inr (.inl rfl) | exact .inr (.inr rfl)))) (dg_name 1 rfl (by first | exact .inl rfl | exact .inr rfl)) dts_nil (de_call D_is_integer.at (by show 1 ≤ 1; decide) rfl (da_cons (de_var 1 rfl (by first | exact .inl rfl | exact .inr (.inl rfl) | exact .inr (.inr rfl))) da_nil) rfl) (by decide)) (by dsimp only [S_is_fraction, Sx.blk]; decide +kernel))))))))) (dss_cons (ds_ret de_bl)
  dss_nil) dss_nil)
  (dss_cons (ds_ret (de_and (de_gt (de_ix (de_var 0 rfl (by first | exact .inl rfl | exact .inr (.inl rfl) | exact .inr (.inr rfl))) de_int) de_int) (de_one (de_eq (de_call D_shared_divisor.at (by show 1 ≤ 1; decide) rfl (da_cons (de_ix (de_var 0 rfl (by first | exact .inl rfl | exact .inr (.inl rfl) | exact .inr (.inr rfl))) de_int) (da_cons (de_ix (de_var 0 rfl (by first | exact .inl rfl | exact .inr (.inl rfl) | exact .inr (.inr rfl))) de_int) da_nil)) rfl) de_int))))
  dss_nil))
theorem sc_is_fraction : FnScope N_is_fraction ["value"] (defScope s_is_fraction) := ⟨rfl, rfl, rfl, by decide +kernel, rfl, by decide +kernel, by decide +kernel⟩
abbrev N_total_of_all : List Str := ["fractions", "bottom", "top", "own"]
abbrev S_total_of_all (P : Program) (w : World) (K : PySem.W.Frag) (mg : Str → Option Value) (base : Heap) : Sx := ⟨N_total_of_all, defScope s_total_of_all, fun _ => true, P, w, K, mg, base, 2⟩
def T_total_of_all : TSd := (sThen (sSet 1 (eCB (fCall sp_common_bottom) (aCons (eVar 0) aNil)))
  (sThen (sRet (eCB (fCall sp_fraction_of) (aCons (e1 fSum (eLc (iS false (eVar 0)) (gT (gsCons (gN 2) (gsCons (gN 3) gsNil))) bYes (e2 fMul (eVar 2) (e2 fDiv (eVar 1) (eVar 3))) [2, 3])) (aCons (eVar 1) aNil))))
  sNil))
theorem walk_total_of_all (B : Bt mg) (D_common_bottom : DefW P w K mg base "common_bottom" 2 ["fractions"] sp_common_bottom) (D_fraction_of : DefW P w K mg base "fraction_of" 2 ["top", "bottom"] sp_fraction_of) : DSs (S_total_of_all P w K mg base) (defBody s_total_of_all) T_total_of_all :=
  (dss_cons (ds_set 1 rfl (by first | exact .inl rfl | exact .inr rfl) (de_call D_common_bottom.at (by show 2 ≤ 2; decide) rfl (da_cons (de_var 0 rfl (by first | exact .inl rfl | exact .inr (.inl rfl) | exact .inr (.inr rfl))) da_nil) rfl))
  (dss_cons (ds_ret (de_call D_fraction_of.at (by show 2 ≤ 2; decide) rfl (da_cons (db_sum B rfl (de_lc' (dlc (own := [(("top" : Str), 2), (("own" : Str), 3)]) (ns := [2, 3]) (di_seq (de_var 0 rfl (by first | exact .inl rfl | exact .inr (.inl rfl) | exact .inr (.inr rfl)))) (dg_tup2 (dg_name 2 rfl (by first | exact .inl rfl | exact .inr rfl)) (dg_name 3 rfl (by first | exact .inl rfl | exact .inr rfl))) dts_nil (de_mul (de_var 2 rfl (by first | exact .inl rfl | exact .inr (.inl rfl) | exact .inr (.inr rfl))) (de_div (de_var 1 rfl (by first | exact .inl rfl | exact .inr (.inl rfl) | exact .inr (.inr rfl))) (de_var 3 rfl (by first | exact .inl rfl | exact .inr (.inl rfl) | exact .inr (.inr rfl))))) (by decide)) (by dsimp only [S_total_of_all, Sx.blk]; decide +kernel))) (da_cons (de_var 1 rfl (by first | exact .inl rfl | exact .inr (.inl rfl) | exact .inr (.inr rfl))) da_nil)) rfl))
  dss_nil))
theorem sc_total_of_all : FnScope N_total_of_all ["fractions"] (defScope s_total_of_all) := ⟨rfl, rfl, rfl, by decide +kernel, rfl, by decide +kernel, by decide +kernel⟩
abbrev N_are_weights : List Str := ["value", "count", "item"]
abbrev S_are_weights (P : Program) (w : World) (K : PySem.W.Frag) (mg : Str → Option Value) (base : Heap) : Sx := ⟨N_are_weights, defScope s_are_weights, fun _ => true, P, w, K, mg, base, 2⟩
def T_are_weights : TSd := (sThen (sIf (bOr (bNot (eT (eA2 fIsi' (eVar 0) (eC (.ty "tuple"))))) (eT (e2 fNe (e1 fLen (eVar 0)) (eVar 1)))) (sThen (sRet (eC (.d (.bool false))))
  sNil) sNil)
  (sThen (sRet (e1 fAll (eLc (iS false (eVar 0)) (gN 2) bYes (eAnd (eCB (fCall sp_is_fraction) (aCons (eVar 2) aNil)) (e2 fGe (e2 fIx (eVar 2) (eC (.d (.int 0)))) (eC (.d (.int 0))))) [2])))
  sNil))
theorem walk_are_weights (B : Bt mg) (D_is_fraction : DefW P w K mg base "is_fraction" 2 ["value"] sp_is_fraction) : DSs (S_are_weights P w K mg base) (defBody s_are_weights) T_are_weights :=
  (dss_cons (ds_if (dt_w (dw_or (dt_not (dt_val (db_isi B rfl (de_var 0 rfl (by first | exact .inl rfl | exact .inr (.inl rfl) | exact .inr (.inr rfl))) (db_cls (x := ("tuple" : Str)) (T := "tuple") B rfl (by decide) PyProof.Rows.boot_tuple)))) (dw_or1 (dt_ne (db_len B rfl (de_var 0 rfl (by first | exact .inl rfl | exact .inr (.inl rfl) | exact .inr (.inr rfl)))) (de_var 1 rfl (by first | exact .inl rfl | exact .inr (.inl rfl) | exact .inr (.inr rfl))))))) (dss_cons (ds_ret de_bl)
  dss_nil) dss_nil)
  (dss_cons (ds_ret (db_all B rfl (de_lc' (dlc (own := [(("item" : Str), 2)]) (ns := [2]) (di_seq (de_var 0 rfl (by first | exact .inl rfl | exact .inr (.inl rfl) | exact .inr (.inr rfl)))) (dg_name 2 rfl (by first | exact .inl rfl | exact .inr rfl)) dts_nil (de_and (de_call D_is_fraction.at (by show 2 ≤ 2; decide) rfl (da_cons (de_var 2 rfl (by first | exact .inl rfl | exact .inr (.inl rfl) | exact .inr (.inr rfl))) da_nil) rfl) (de_one (de_ge (de_ix (de_var 2 rfl (by first | exact .inl rfl | exact .inr (.inl rfl) | exact .inr (.inr rfl))) de_int) de_int))) (by decide)) (by dsimp only [S_are_weights, Sx.blk]; decide +kernel))))
  dss_nil))
theorem sc_are_weights : FnScope N_are_weights ["value", "count"] (defScope s_are_weights) := ⟨rfl, rfl, rfl, by decide +kernel, rfl, by decide +kernel, by decide +kernel⟩
abbrev N_is_row : List Str := ["value", "count"]
abbrev S_is_row (P : Program) (w : World) (K : PySem.W.Frag) (mg : Str → Option Value) (base : Heap) : Sx := ⟨N_is_row, defScope s_is_row, fun _ => true, P, w, K, mg, base, 3⟩
def T_is_row : TSd := (sThen (sRet (eAnd (eCB (fCall sp_are_weights) (aCons (eVar 0) (aCons (eVar 1) aNil))) (e2 fEq (eCB (fCall sp_total_of_all) (aCons (eVar 0) aNil)) (eC (.k one)))))
  sNil)
theorem walk_is_row (B : Bt mg) (D_are_weights : DefW P w K mg base "are_weights" 3 ["value", "count"] sp_are_weights) (D_total_of_all : DefW P w K mg base "total_of_all" 3 ["fractions"] sp_total_of_all) (M : Md K mg) : DSs (S_is_row P w K mg base) (defBody s_is_row) T_is_row :=
  (dss_cons (ds_ret (de_and (de_call D_are_weights.at (by show 3 ≤ 3; decide) rfl (da_cons (de_var 0 rfl (by first | exact .inl rfl | exact .inr (.inl rfl) | exact .inr (.inr rfl))) (da_cons (de_var 1 rfl (by first | exact .inl rfl | exact .inr (.inl rfl) | exact .inr (.inr rfl))) da_nil)) rfl) (de_one (de_eq (de_call D_total_of_all.at (by show 3 ≤ 3; decide) rfl (da_cons (de_var 0 rfl (by first | exact .inl rfl | exact .inr (.inl rfl) | exact .inr (.inr rfl))) da_nil) rfl) (de_gtup rfl M.one M.oneT M.oneD)))))
  dss_nil)
theorem sc_is_row : FnScope N_is_row ["value", "count"] (defScope s_is_row) := ⟨rfl, rfl, rfl, by decide +kernel, rfl, by decide +kernel, by decide +kernel⟩
abbrev N_is_thing : List Str := ["value", "things", "name", "count", "parents", "rows", "row", "thing", "parent"]
abbrev S_is_thing (P : Program) (w : World) (K : PySem.W.Frag) (mg : Str → Option Value) (base : Heap) : Sx := ⟨N_is_thing, defScope s_is_thing, fun _ => true, P, w, K, mg, base, 4⟩
def T_is_thing : TSd := (sThen (sIf (bOr (bNot (eT (eA2 fIsi' (eVar 0) (eC (.ty "tuple"))))) (eT (e2 fNe (e1 fLen (eVar 0)) (eC (.d (.int 4)))))) (sThen (sRet (eC (.d (.bool false))))
  sNil) sNil)
  (sThen (sAsg (eVar 0) (gT (gsCons (gN 2) (gsCons (gN 3) (gsCons (gN 4) (gsCons (gN 5) gsNil))))))
  (sThen (sIf (bOr (bNot (eT (eCB (fCall sp_is_name) (aCons (eVar 2) aNil)))) (bOr (eT (e1 fAny (eLc (iS false (eVar 1)) (gN 7) bYes (e2 fEqS (eVar 2) (e2 fIx (eVar 7) (eC (.d (.int 0))))) [7]))) (bOr (bNot (eT (eCB (fCall sp_is_integer) (aCons (eVar 3) aNil)))) (eT (e2 fLt (eVar 3) (eC (.d (.int 2)))))))) (sThen (sRet (eC (.d (.bool false))))
  sNil) sNil)
  (sThen (sIf (bOr (bNot (eT (eCB (fCall sp_is_listing) (aCons (eVar 4) (aCons (e1 fLen (eVar 1)) aNil))))) (bNot (eT (eA2 fIsi' (eVar 5) (eC (.ty "tuple")))))) (sThen (sRet (eC (.d (.bool false))))
  sNil) sNil)
  (sThen (sIf (eT (e2 fNe (e1 fLen (eVar 5)) (eCB (fCall sp_fill_count) (aCons (eLc (iS false (eVar 4)) (gN 8) bYes (e2 fIx (e2 fIx (eVar 1) (eVar 8)) (eC (.d (.int 1)))) [8]) aNil)))) (sThen (sRet (eC (.d (.bool false))))
  sNil) sNil)
  (sThen (sRet (e1 fAll (eLc (iS false (eVar 5)) (gN 6) bYes (eCB (fCall sp_is_row) (aCons (eVar 6) (aCons (eVar 3) aNil))) [6])))
  sNil))))))
theorem walk_is_thing (B : Bt mg) (D_fill_count : DefW P w K mg base "fill_count" 1 ["counts"] sp_fill_count) (D_is_integer : DefW P w K mg base "is_integer" 1 ["value"] sp_is_integer) (D_is_listing : DefW P w K mg base "is_listing" 4 ["value", "bound"] sp_is_listing) (D_is_name : DefW P w K mg base "is_name" 1 ["value"] sp_is_name) (D_is_row : DefW P w K mg base "is_row" 4 ["value", "count"] sp_is_row) : DSs (S_is_thing P w K mg base) (defBody s_is_thing) T_is_thing :=
  (dss_cons (ds_if (dt_w (dw_or (dt_not (dt_val (db_isi B rfl (de_var 0 rfl (by first | exact .inl rfl | exact .inr (.inl rfl) | exact .inr (.inr rfl))) (db_cls (x := ("tuple" : Str)) (T := "tuple") B rfl (by decide) PyProof.Rows.boot_tuple)))) (dw_or1 (dt_ne (db_len B rfl (de_var 0 rfl (by first | exact .inl rfl | exact .inr (.inl rfl) | exact .inr (.inr rfl)))) de_int)))) (dss_cons (ds_ret de_bl)
  dss_nil) dss_nil)
  (dss_cons (ds_asg (ns := [2, 3, 4, 5]) (de_var 0 rfl (by first | exact .inl rfl | exact .inr (.inl rfl) | exact .inr (.inr rfl))) (dg_tup (dgs_cons (dg_name 2 rfl (by first | exact .inl rfl | exact .inr rfl)) (dgs_cons (dg_name 3 rfl (by first | exact .inl rfl | exact .inr rfl)) (dgs_cons (dg_name 4 rfl (by first | exact .inl rfl | exact .inr rfl)) (dgs_cons (dg_name 5 rfl (by first | exact .inl rfl | exact .inr rfl)) dgs_nil)))) (hu := gs4_len)))
  (dss_cons (ds_if (dt_w (dw_or (dt_not (dt_val (de_call D_is_name.at (by show 1 ≤ 4; decide) rfl (da_cons (de_var 2 rfl (by first | exact .inl rfl | exact .inr (.inl rfl) | exact .inr (.inr rfl))) da_nil) rfl))) (dw_or (dt_val (db_any B rfl (de_lc' (dlc (own := [(("thing" : Str), 7)]) (ns := [7]) (di_seq (de_var 1 rfl (by first | exact .inl rfl | exact .inr (.inl rfl) | exact .inr (.inr rfl)))) (dg_name 7 rfl (by first | exact .inl rfl | exact .inr rfl)) dts_nil (de_eqS (de_var 2 rfl (by first | exact .inl rfl | exact .inr (.inl rfl) | exact .inr (.inr rfl))) (de_ix (de_var 7 rfl (by first | exact .inl rfl | exact .inr (.inl rfl) | exact .inr (.inr rfl))) de_int)) (by decide)) (by dsimp only [S_is_thing, Sx.blk]; decide +kernel)))) (dw_or (dt_not (dt_val (de_call D_is_integer.at (by show 1 ≤ 4; decide) rfl (da_cons (de_var 3 rfl (by first | exact .inl rfl | exact .inr (.inl rfl) | exact .inr (.inr rfl))) da_nil) rfl))) (dw_or1 (dt_lt (de_var 3 rfl (by first | exact .inl rfl | exact .inr (.inl rfl) | exact .inr (.inr rfl))) de_int)))))) (dss_cons (ds_ret de_bl)
  dss_nil) dss_nil)
  (dss_cons (ds_if (dt_w (dw_or (dt_not (dt_val (de_call D_is_listing.at (by show 4 ≤ 4; decide) rfl (da_cons (de_var 4 rfl (by first | exact .inl rfl | exact .inr (.inl rfl) | exact .inr (.inr rfl))) (da_cons (db_len B rfl (de_var 1 rfl (by first | exact .inl rfl | exact .inr (.inl rfl) | exact .inr (.inr rfl)))) da_nil)) rfl))) (dw_or1 (dt_not (dt_val (db_isi B rfl (de_var 5 rfl (by first | exact .inl rfl | exact .inr (.inl rfl) | exact .inr (.inr rfl))) (db_cls (x := ("tuple" : Str)) (T := "tuple") B rfl (by decide) PyProof.Rows.boot_tuple))))))) (dss_cons (ds_ret de_bl)
  dss_nil) dss_nil)
  (dss_cons (ds_if (dt_ne (db_len B rfl (de_var 5 rfl (by first | exact .inl rfl | exact .inr (.inl rfl) | exact .inr (.inr rfl)))) (de_call D_fill_count.at (by show 1 ≤ 4; decide) rfl (da_cons (de_lc' (dlc (own := [(("parent" : Str), 8)]) (ns := [8]) (di_seq (de_var 4 rfl (by first | exact .inl rfl | exact .inr (.inl rfl) | exact .inr (.inr rfl)))) (dg_name 8 rfl (by first | exact .inl rfl | exact .inr rfl)) dts_nil (de_ix (de_ix (de_var 1 rfl (by first | exact .inl rfl | exact .inr (.inl rfl) | exact .inr (.inr rfl))) (de_var 8 rfl (by first | exact .inl rfl | exact .inr (.inl rfl) | exact .inr (.inr rfl)))) de_int) (by decide)) (by dsimp only [S_is_thing, Sx.blk]; decide +kernel)) da_nil) rfl)) (dss_cons (ds_ret de_bl)
  dss_nil) dss_nil)
  (dss_cons (ds_ret (db_all B rfl (de_lc' (dlc (own := [(("row" : Str), 6)]) (ns := [6]) (di_seq (de_var 5 rfl (by first | exact .inl rfl | exact .inr (.inl rfl) | exact .inr (.inr rfl)))) (dg_name 6 rfl (by first | exact .inl rfl | exact .inr rfl)) dts_nil (de_call D_is_row.at (by show 4 ≤ 4; decide) rfl (da_cons (de_var 6 rfl (by first | exact .inl rfl | exact .inr (.inl rfl) | exact .inr (.inr rfl))) (da_cons (de_var 3 rfl (by first | exact .inl rfl | exact .inr (.inl rfl) | exact .inr (.inr rfl))) da_nil)) rfl) (by decide)) (by dsimp only [S_is_thing, Sx.blk]; decide +kernel))))
  dss_nil))))))
theorem sc_is_thing : FnScope N_is_thing ["value", "things"] (defScope s_is_thing) := ⟨rfl, rfl, rfl, by decide +kernel, rfl, by decide +kernel, by decide +kernel⟩
abbrev N_check_things : List Str := ["value", "at", "thing"]
abbrev S_check_things (P : Program) (w : World) (K : PySem.W.Frag) (mg : Str → Option Value) (base : Heap) : Sx := ⟨N_check_things, defScope s_check_things, fun _ => true, P, w, K, mg, base, 5⟩
def T_check_things : TSd := (sThen (sIf (bOr (bNot (eT (eA2 fIsi' (eVar 0) (eC (.ty "tuple"))))) (eT (e2 fEq (eVar 0) (eTup aNil)))) (sThen sNever
  sNil) sNil)
  (sThen (sFor (iE true (eVar 0)) (gT (gsCons (gN 1) (gsCons (gN 2) gsNil))) (sThen (sIf (bNot (eT (eCB (fCall sp_is_thing) (aCons (eVar 2) (aCons (eSlT (eVar 0) oNone (oSome (eVar 1))) aNil))))) (sThen sNever
  sNil) sNil)
  sNil))
  sNil))
theorem walk_check_things (B : Bt mg) (D_is_thing : DefW P w K mg base "is_thing" 5 ["value", "things"] sp_is_thing) : DSs (S_check_things P w K mg base) (defBody s_check_things) T_check_things :=
  (dss_cons (ds_if (dt_w (dw_or (dt_not (dt_val (db_isi B rfl (de_var 0 rfl (by first | exact .inl rfl | exact .inr (.inl rfl) | exact .inr (.inr rfl))) (db_cls (x := ("tuple" : Str)) (T := "tuple") B rfl (by decide) PyProof.Rows.boot_tuple)))) (dw_or1 (dt_eq (de_var 0 rfl (by first | exact .inl rfl | exact .inr (.inl rfl) | exact .inr (.inr rfl))) (de_tup da_nil))))) (dss_cons ds_never
  dss_nil) dss_nil)
  (dss_cons (ds_for (ns := [1, 2]) (dib_enum B rfl (de_var 0 rfl (by first | exact .inl rfl | exact .inr (.inl rfl) | exact .inr (.inr rfl)))) (dg_tup2 (dg_name 1 rfl (by first | exact .inl rfl | exact .inr rfl)) (dg_name 2 rfl (by first | exact .inl rfl | exact .inr rfl))) (dss_cons (ds_if (dt_not (dt_val (de_call D_is_thing.at (by show 5 ≤ 5; decide) rfl (da_cons (de_var 2 rfl (by first | exact .inl rfl | exact .inr (.inl rfl) | exact .inr (.inr rfl))) (da_cons (de_slT (de_var 0 rfl (by first | exact .inl rfl | exact .inr (.inl rfl) | exact .inr (.inr rfl))) do_none (do_some (de_var 1 rfl (by first | exact .inl rfl | exact .inr (.inl rfl) | exact .inr (.inr rfl))))) da_nil)) rfl))) (dss_cons ds_never
  dss_nil) dss_nil)
  dss_nil))
  dss_nil))
theorem sc_check_things : FnScope N_check_things ["value"] (defScope s_check_things) := ⟨rfl, rfl, rfl, by decide +kernel, rfl, by decide +kernel, by decide +kernel⟩
abbrev N_parents_of : List Str := ["net", "thing"]
abbrev S_parents_of (P : Program) (w : World) (K : PySem.W.Frag) (mg : Str → Option Value) (base : Heap) : Sx := ⟨N_parents_of, defScope s_parents_of, fun _ => true, P, w, K, mg, base, 0⟩
def T_parents_of : TSd := (sThen (sRet (e2 fIx (e2 fIx (eThings (eVar 0)) (eVar 1)) (eC (.d (.int 2)))))
  sNil)
theorem walk_parents_of (B : Bt mg) : DSs (S_parents_of P w K mg base) (defBody s_parents_of) T_parents_of :=
  (dss_cons (ds_ret (de_ix (de_ix (de_things (de_var 0 rfl (by first | exact .inl rfl | exact .inr (.inl rfl) | exact .inr (.inr rfl)))) (de_var 1 rfl (by first | exact .inl rfl | exact .inr (.inl rfl) | exact .inr (.inr rfl)))) de_int))
  dss_nil)
theorem sc_parents_of : FnScope N_parents_of ["net", "thing"] (defScope s_parents_of) := ⟨rfl, rfl, rfl, by decide +kernel, rfl, by decide +kernel, by decide +kernel⟩
abbrev N_family_of : List Str := ["net", "thing"]
abbrev S_family_of (P : Program) (w : World) (K : PySem.W.Frag) (mg : Str → Option Value) (base : Heap) : Sx := ⟨N_family_of, defScope s_family_of, fun _ => true, P, w, K, mg, base, 1⟩
def T_family_of : TSd := (sThen (sRet (e2 fAddT (eCB (fCall sp_parents_of) (aCons (eVar 0) (aCons (eVar 1) aNil))) (eTup (aCons (eVar 1) aNil))))
  sNil)
theorem walk_family_of (B : Bt mg) (D_parents_of : DefW P w K mg base "parents_of" 1 ["net", "thing"] sp_parents_of) : DSs (S_family_of P w K mg base) (defBody s_family_of) T_family_of :=
  (dss_cons (ds_ret (de_addT (de_call D_parents_of.at (by show 1 ≤ 1; decide) rfl (da_cons (de_var 0 rfl (by first | exact .inl rfl | exact .inr (.inl rfl) | exact .inr (.inr rfl))) (da_cons (de_var 1 rfl (by first | exact .inl rfl | exact .inr (.inl rfl) | exact .inr (.inr rfl))) da_nil)) rfl) (de_tup (da_cons (de_var 1 rfl (by first | exact .inl rfl | exact .inr (.inl rfl) | exact .inr (.inr rfl))) da_nil))))
  dss_nil)
theorem sc_family_of : FnScope N_family_of ["net", "thing"] (defScope s_family_of) := ⟨rfl, rfl, rfl, by decide +kernel, rfl, by decide +kernel, by decide +kernel⟩
abbrev N_scopes_in : List Str := ["net", "thing"]
abbrev S_scopes_in (P : Program) (w : World) (K : PySem.W.Frag) (mg : Str → Option Value) (base : Heap) : Sx := ⟨N_scopes_in, defScope s_scopes_in, fun _ => true, P, w, K, mg, base, 2⟩
def T_scopes_in : TSd := (sThen (sRet (eTuple (eLc (iR (e1 fLen (eThings (eVar 0)))) (gN 1) bYes (eCB (fCall sp_family_of) (aCons (eVar 0) (aCons (eVar 1) aNil))) [1])))
  sNil)
theorem walk_scopes_in (B : Bt mg) (D_family_of : DefW P w K mg base "family_of" 2 ["net", "thing"] sp_family_of) : DSs (S_scopes_in P w K mg base) (defBody s_scopes_in) T_scopes_in :=
  (dss_cons (ds_ret (db_tuple B rfl (de_lc' (dlc (own := [(("thing" : Str), 1)]) (ns := [1]) (dib_rng B rfl (db_len B rfl (de_things (de_var 0 rfl (by first | exact .inl rfl | exact .inr (.inl rfl) | exact .inr (.inr rfl)))))) (dg_name 1 rfl (by first | exact .inl rfl | exact .inr rfl)) dts_nil (de_call D_family_of.at (by show 2 ≤ 2; decide) rfl (da_cons (de_var 0 rfl (by first | exact .inl rfl | exact .inr (.inl rfl) | exact .inr (.inr rfl))) (da_cons (de_var 1 rfl (by first | exact .inl rfl | exact .inr (.inl rfl) | exact .inr (.inr rfl))) da_nil)) rfl) (by decide)) (by dsimp only [S_scopes_in, Sx.blk]; decide +kernel))))
  dss_nil)
theorem sc_scopes_in : FnScope N_scopes_in ["net"] (defScope s_scopes_in) := ⟨rfl, rfl, rfl, by decide +kernel, rfl, by decide +kernel, by decide +kernel⟩
abbrev N_is_sequence : List Str := ["lot", "value"]
abbrev S_is_sequence (P : Program) (w : World) (K : PySem.W.Frag) (mg : Str → Option Value) (base : Heap) : Sx := ⟨N_is_sequence, defScope s_is_sequence, fun _ => true, P, w, K, mg, base, 3⟩
def T_is_sequence : TSd := (sThen (sRet (eAnd (eCB (fCall sp_are_numbers) (aCons (eVar 1) aNil)) (e2 fEq (e1 fSortT (eVar 1)) (e1 fList (eVar 0)))))
  sNil)
theorem walk_is_sequence (B : Bt mg) (D_are_numbers : DefW P w K mg base "are_numbers" 3 ["value"] sp_are_numbers) : DSs (S_is_sequence P w K mg base) (defBody s_is_sequence) T_is_sequence :=
  (dss_cons (ds_ret (de_and (de_call D_are_numbers.at (by show 3 ≤ 3; decide) rfl (da_cons (de_var 1 rfl (by first | exact .inl rfl | exact .inr (.inl rfl) | exact .inr (.inr rfl))) da_nil) rfl) (de_one (de_eq (db_sortT B rfl (de_var 1 rfl (by first | exact .inl rfl | exact .inr (.inl rfl) | exact .inr (.inr rfl)))) (db_list B rfl (de_var 0 rfl (by first | exact .inl rfl | exact .inr (.inl rfl) | exact .inr (.inr rfl))))))))
  dss_nil)
theorem sc_is_sequence : FnScope N_is_sequence ["lot", "value"] (defScope s_is_sequence) := ⟨rfl, rfl, rfl, by decide +kernel, rfl, by decide +kernel, by decide +kernel⟩
abbrev N_tied_things : List Str := ["scopes", "thing", "scope", "other"]
abbrev S_tied_things (P : Program) (w : World) (K : PySem.W.Frag) (mg : Str → Option Value) (base : Heap) : Sx := ⟨N_tied_things, defScope s_tied_things, fun _ => true, P, w, K, mg, base, 0⟩
def T_tied_things : TSd := (sThen (sRet (eLc2 (iS false (eVar 0)) (gN 2) (eT (e2 (fIn false) (eVar 1) (eVar 2))) (iS true (eVar 2)) (gN 3) bYes (eVar 3) [2, 3] [3]))
  sNil)
theorem walk_tied_things (B : Bt mg) : DSs (S_tied_things P w K mg base) (defBody s_tied_things) T_tied_things :=
  (dss_cons (ds_ret (de_lc2 (own := [(("scope" : Str), 2), (("other" : Str), 3)]) (ns := [2]) (ns1 := [3]) (vs1 := [3]) (di_seq (de_var 0 rfl (by first | exact .inl rfl | exact .inr (.inl rfl) | exact .inr (.inr rfl)))) (dg_name 2 rfl (by first | exact .inl rfl | exact .inr rfl)) (dts_one (dt_in (de_var 1 rfl (by first | exact .inl rfl | exact .inr (.inl rfl) | exact .inr (.inr rfl))) (de_var 2 rfl (by first | exact .inl rfl | exact .inr (.inl rfl) | exact .inr (.inr rfl))))) (di_seq (de_var 2 rfl (by first | exact .inl rfl | exact .inr (.inl rfl) | exact .inr (.inr rfl)))) (dg_name 3 rfl (by first | exact .inl rfl | exact .inr rfl)) dts_nil (de_var 3 rfl (by first | exact .inl rfl | exact .inr (.inl rfl) | exact .inr (.inr rfl))) (by dsimp only [S_tied_things, Sx.blk]; decide +kernel) (by decide) (by decide) (by decide)))
  dss_nil)
theorem sc_tied_things : FnScope N_tied_things ["scopes", "thing"] (defScope s_tied_things) := ⟨rfl, rfl, rfl, by decide +kernel, rfl, by decide +kernel, by decide +kernel⟩
abbrev N_cluster_behind : List Str := ["scopes", "before", "thing", "seen", "reached", "place", "at", "other"]
abbrev S_cluster_behind (P : Program) (w : World) (K : PySem.W.Frag) (mg : Str → Option Value) (base : Heap) : Sx := ⟨N_cluster_behind, defScope s_cluster_behind, fun _ => true, P, w, K, mg, base, 1⟩
def T_cluster_behind : TSd := (sThen (sPar 4 5 (aCons (eLst (aCons (eVar 2) aNil)) (aCons (eC (.d (.int 0))) aNil)))
  (sThen (sSet 3 (eSet1 (eVar 2)))
  (sThen (sWhile (eT (e2 fLt (eVar 5) (e1 fLen (eVar 4)))) (sThen (sSet 6 (e2 fIx (eVar 4) (eVar 5)))
  (sThen (sAug 5 fAdd (eC (.d (.int 1))))
  (sThen (sIf (bAnd (eT (e2 fNe (eVar 6) (eVar 2))) (eT (e2 (fIn true) (eVar 6) (eVar 1)))) (sThen sCont
  sNil) sNil)
  (sThen (sFor (iS true (eCB (fCall sp_tied_things) (aCons (eVar 0) (aCons (eVar 6) aNil)))) (gN 7) (sThen (sIf (eT (e2 fNinSet (eVar 7) (eVar 3))) (sThen (sAdd 3 (eVar 7))
  (sThen (sApp 4 (eVar 7))
  sNil)) sNil)
  sNil))
  sNil)))))
  (sThen (sRet (eTuple (e1 fSortL (eLc (iS false (eVar 4)) (gN 6) (bOr (eT (e2 fEq (eVar 6) (eVar 2))) (eT (e2 (fIn true) (eVar 6) (eVar 1)))) (eVar 6) [6]))))
  sNil))))
theorem walk_cluster_behind (B : Bt mg) (D_tied_things : DefW P w K mg base "tied_things" 1 ["scopes", "thing"] sp_tied_things) : DSs (S_cluster_behind P w K mg base) (defBody s_cluster_behind) T_cluster_behind :=
  (dss_cons (ds_par 4 5 rfl rfl (by decide) rfl rfl (da_cons (de_lst (da_cons (de_var 2 rfl (by first | exact .inl rfl | exact .inr (.inl rfl) | exact .inr (.inr rfl))) da_nil)) (da_cons de_int da_nil)) (by intro env h; cases env; dsimp only at h; subst h; rfl))
  (dss_cons (ds_set 3 rfl (by first | exact .inl rfl | exact .inr rfl) (de_set1 (de_var 2 rfl (by first | exact .inl rfl | exact .inr (.inl rfl) | exact .inr (.inr rfl)))))
  (dss_cons (ds_while (dt_lt (de_var 5 rfl (by first | exact .inl rfl | exact .inr (.inl rfl) | exact .inr (.inr rfl))) (db_len B rfl (de_var 4 rfl (by first | exact .inl rfl | exact .inr (.inl rfl) | exact .inr (.inr rfl))))) (dss_cons (ds_set 6 rfl (by first | exact .inl rfl | exact .inr rfl) (de_ix (de_var 4 rfl (by first | exact .inl rfl | exact .inr (.inl rfl) | exact .inr (.inr rfl))) (de_var 5 rfl (by first | exact .inl rfl | exact .inr (.inl rfl) | exact .inr (.inr rfl)))))
  (dss_cons (ds_aug 5 rfl (by first | exact .inl rfl | exact .inr rfl) de_int (fun X c => ip_add) r2_ipAdd)
  (dss_cons (ds_if (dt_w (dw_and (dt_ne (de_var 6 rfl (by first | exact .inl rfl | exact .inr (.inl rfl) | exact .inr (.inr rfl))) (de_var 2 rfl (by first | exact .inl rfl | exact .inr (.inl rfl) | exact .inr (.inr rfl)))) (dw_and1 (dt_nin (de_var 6 rfl (by first | exact .inl rfl | exact .inr (.inl rfl) | exact .inr (.inr rfl))) (de_var 1 rfl (by first | exact .inl rfl | exact .inr (.inl rfl) | exact .inr (.inr rfl))))))) (dss_cons ds_cont
  dss_nil) dss_nil)
  (dss_cons (ds_for (ns := [7]) (di_seq (de_call D_tied_things.at (by show 1 ≤ 1; decide) rfl (da_cons (de_var 0 rfl (by first | exact .inl rfl | exact .inr (.inl rfl) | exact .inr (.inr rfl))) (da_cons (de_var 6 rfl (by first | exact .inl rfl | exact .inr (.inl rfl) | exact .inr (.inr rfl))) da_nil)) rfl)) (dg_name 7 rfl (by first | exact .inl rfl | exact .inr rfl)) (dss_cons (ds_if (dt_ninSet (de_var 7 rfl (by first | exact .inl rfl | exact .inr (.inl rfl) | exact .inr (.inr rfl))) (de_var 3 rfl (by first | exact .inl rfl | exact .inr (.inl rfl) | exact .inr (.inr rfl)))) (dss_cons (ds_add 3 rfl (by first | exact .inl rfl | exact .inr (.inl rfl) | exact .inr (.inr rfl)) (de_var 7 rfl (by first | exact .inl rfl | exact .inr (.inl rfl) | exact .inr (.inr rfl))))
  (dss_cons (ds_app 4 rfl (by first | exact .inl rfl | exact .inr (.inl rfl) | exact .inr (.inr rfl)) (de_var 7 rfl (by first | exact .inl rfl | exact .inr (.inl rfl) | exact .inr (.inr rfl))))
  dss_nil)) dss_nil)
  dss_nil))
  dss_nil)))))
  (dss_cons (ds_ret (db_tuple B rfl (db_sortL B rfl (de_lc' (dlc (own := [(("at" : Str), 6)]) (ns := [6]) (di_seq (de_var 4 rfl (by first | exact .inl rfl | exact .inr (.inl rfl) | exact .inr (.inr rfl)))) (dg_name 6 rfl (by first | exact .inl rfl | exact .inr rfl)) (dts_one (dt_w (dw_or (dt_eq (de_var 6 rfl (by first | exact .inl rfl | exact .inr (.inl rfl) | exact .inr (.inr rfl))) (de_var 2 rfl (by first | exact .inl rfl | exact .inr (.inl rfl) | exact .inr (.inr rfl)))) (dw_or1 (dt_nin (de_var 6 rfl (by first | exact .inl rfl | exact .inr (.inl rfl) | exact .inr (.inr rfl))) (de_var 1 rfl (by first | exact .inl rfl | exact .inr (.inl rfl) | exact .inr (.inr rfl)))))))) (de_var 6 rfl (by first | exact .inl rfl | exact .inr (.inl rfl) | exact .inr (.inr rfl))) (by decide)) (by dsimp only [S_cluster_behind, Sx.blk]; decide +kernel)))))
  dss_nil))))
theorem sc_cluster_behind : FnScope N_cluster_behind ["scopes", "before", "thing"] (defScope s_cluster_behind) := ⟨rfl, rfl, rfl, by decide +kernel, rfl, by decide +kernel, by decide +kernel⟩
abbrev N_clusters_by : List Str := ["scopes", "sequence", "place", "thing"]
abbrev S_clusters_by (P : Program) (w : World) (K : PySem.W.Frag) (mg : Str → Option Value) (base : Heap) : Sx := ⟨N_clusters_by, defScope s_clusters_by, fun _ => true, P, w, K, mg, base, 2⟩
def T_clusters_by : TSd := (sThen (sRet (eTuple (eLc (iE false (eVar 1)) (gT (gsCons (gN 2) (gsCons (gN 3) gsNil))) bYes (eCB (fCall sp_cluster_behind) (aCons (eVar 0) (aCons (eSlT (eVar 1) oNone (oSome (eVar 2))) (aCons (eVar 3) aNil)))) [2, 3])))
  sNil)
theorem walk_clusters_by (B : Bt mg) (D_cluster_behind : DefW P w K mg base "cluster_behind" 2 ["scopes", "before", "thing"] sp_cluster_behind) : DSs (S_clusters_by P w K mg base) (defBody s_clusters_by) T_clusters_by :=
  (dss_cons (ds_ret (db_tuple B rfl (de_lc' (dlc (own := [(("place" : Str), 2), (("thing" : Str), 3)]) (ns := [2, 3]) (dib_enum B rfl (de_var 1 rfl (by first | exact .inl rfl | exact .inr (.inl rfl) | exact .inr (.inr rfl)))) (dg_tup2 (dg_name 2 rfl (by first | exact .inl rfl | exact .inr rfl)) (dg_name 3 rfl (by first | exact .inl rfl | exact .inr rfl))) dts_nil (de_call D_cluster_behind.at (by show 2 ≤ 2; decide) rfl (da_cons (de_var 0 rfl (by first | exact .inl rfl | exact .inr (.inl rfl) | exact .inr (.inr rfl))) (da_cons (de_slT (de_var 1 rfl (by first | exact .inl rfl | exact .inr (.inl rfl) | exact .inr (.inr rfl))) do_none (do_some (de_var 2 rfl (by first | exact .inl rfl | exact .inr (.inl rfl) | exact .inr (.inr rfl))))) (da_cons (de_var 3 rfl (by first | exact .inl rfl | exact .inr (.inl rfl) | exact .inr (.inr rfl))) da_nil))) rfl) (by decide)) (by dsimp only [S_clusters_by, Sx.blk]; decide +kernel))))
  dss_nil)
theorem sc_clusters_by : FnScope N_clusters_by ["scopes", "sequence"] (defScope s_clusters_by) := ⟨rfl, rfl, rfl, by decide +kernel, rfl, by decide +kernel, by decide +kernel⟩
abbrev N_scopes_left : List Str := ["scopes", "sequence", "left", "thing", "joined", "other", "scope"]
abbrev S_scopes_left (P : Program) (w : World) (K : PySem.W.Frag) (mg : Str → Option Value) (base : Heap) : Sx := ⟨N_scopes_left, defScope s_scopes_left, fun _ => true, P, w, K, mg, base, 1⟩
def T_scopes_left : TSd := (sThen (sSet 2 (e1 fList (eVar 0)))
  (sThen (sFor (iS true (eVar 1)) (gN 3) (sThen (sSet 4 (eSc (iS false (eCB (fCall sp_tied_things) (aCons (eVar 2) (aCons (eVar 3) aNil)))) (gN 5) (eT (e2 fNe (eVar 5) (eVar 3))) (eVar 5) [5]))
  (sThen (sSet 2 (eLc (iS false (eVar 2)) (gN 6) (eT (e2 (fIn true) (eVar 3) (eVar 6))) (eVar 6) [6]))
  (sThen (sApp 2 (eTuple (e1 fSortS (eVar 4))))
  sNil))))
  (sThen (sRet (eTuple (eVar 2)))
  sNil)))
theorem walk_scopes_left (B : Bt mg) (D_tied_things : DefW P w K mg base "tied_things" 1 ["scopes", "thing"] sp_tied_things) : DSs (S_scopes_left P w K mg base) (defBody s_scopes_left) T_scopes_left :=
  (dss_cons (ds_set 2 rfl (by first | exact .inl rfl | exact .inr rfl) (db_list B rfl (de_var 0 rfl (by first | exact .inl rfl | exact .inr (.inl rfl) | exact .inr (.inr rfl)))))
  (dss_cons (ds_for (ns := [3]) (di_seq (de_var 1 rfl (by first | exact .inl rfl | exact .inr (.inl rfl) | exact .inr (.inr rfl)))) (dg_name 3 rfl (by first | exact .inl rfl | exact .inr rfl)) (dss_cons (ds_setSc 4 rfl rfl rfl (dsc (own := [(("other" : Str), 5)]) (ns := [5]) (di_seq (de_call D_tied_things.at (by show 1 ≤ 1; decide) rfl (da_cons (de_var 2 rfl (by first | exact .inl rfl | exact .inr (.inl rfl) | exact .inr (.inr rfl))) (da_cons (de_var 3 rfl (by first | exact .inl rfl | exact .inr (.inl rfl) | exact .inr (.inr rfl))) da_nil)) rfl)) (dg_name 5 rfl (by first | exact .inl rfl | exact .inr rfl)) (dts_one (dt_ne (de_var 5 rfl (by first | exact .inl rfl | exact .inr (.inl rfl) | exact .inr (.inr rfl))) (de_var 3 rfl (by first | exact .inl rfl | exact .inr (.inl rfl) | exact .inr (.inr rfl))))) (de_var 5 rfl (by first | exact .inl rfl | exact .inr (.inl rfl) | exact .inr (.inr rfl))) (by decide)) (by dsimp only [S_scopes_left, Sx.blk]; decide +kernel) (by decide +kernel) (by decide +kernel))
  (dss_cons (ds_setLc 2 rfl rfl rfl (dlc (own := [(("scope" : Str), 6)]) (ns := [6]) (di_seq (de_var 2 rfl (by first | exact .inl rfl | exact .inr (.inl rfl) | exact .inr (.inr rfl)))) (dg_name 6 rfl (by first | exact .inl rfl | exact .inr rfl)) (dts_one (dt_nin (de_var 3 rfl (by first | exact .inl rfl | exact .inr (.inl rfl) | exact .inr (.inr rfl))) (de_var 6 rfl (by first | exact .inl rfl | exact .inr (.inl rfl) | exact .inr (.inr rfl))))) (de_var 6 rfl (by first | exact .inl rfl | exact .inr (.inl rfl) | exact .inr (.inr rfl))) (by decide)) (by dsimp only [S_scopes_left, Sx.blk]; decide +kernel) (by decide +kernel) (by decide +kernel))
  (dss_cons (ds_app 2 rfl (by first | exact .inl rfl | exact .inr (.inl rfl) | exact .inr (.inr rfl)) (db_tuple B rfl (db_sortS B rfl (de_var 4 rfl (by first | exact .inl rfl | exact .inr (.inl rfl) | exact .inr (.inr rfl))))))
  dss_nil))))
  (dss_cons (ds_ret (db_tuple B rfl (de_var 2 rfl (by first | exact .inl rfl | exact .inr (.inl rfl) | exact .inr (.inr rfl)))))
  dss_nil)))
theorem sc_scopes_left : FnScope N_scopes_left ["scopes", "sequence"] (defScope s_scopes_left) := ⟨rfl, rfl, rfl, by decide +kernel, rfl, by decide +kernel, by decide +kernel⟩
abbrev N_scopes_without : List Str := ["scopes", "lot", "scope", "thing"]
abbrev S_scopes_without (P : Program) (w : World) (K : PySem.W.Frag) (mg : Str → Option Value) (base : Heap) : Sx := ⟨N_scopes_without, defScope s_scopes_without, fun _ => true, P, w, K, mg, base, 0⟩
def T_scopes_without : TSd := (sThen (sRet (eTuple (eLc (iS false (eVar 0)) (gN 2) bYes (eTuple (eLc (iS false (eVar 2)) (gN 3) (eT (e2 (fIn true) (eVar 3) (eVar 1))) (eVar 3) [3])) [2])))
  sNil)
theorem walk_scopes_without (B : Bt mg) : DSs (S_scopes_without P w K mg base) (defBody s_scopes_without) T_scopes_without :=
  (dss_cons (ds_ret (db_tuple B rfl (de_lc' (dlc (own := [(("scope" : Str), 2)]) (ns := [2]) (di_seq (de_var 0 rfl (by first | exact .inl rfl | exact .inr (.inl rfl) | exact .inr (.inr rfl)))) (dg_name 2 rfl (by first | exact .inl rfl | exact .inr rfl)) dts_nil (db_tuple B rfl (de_lc' (dlc (own := [(("thing" : Str), 3)]) (ns := [3]) (di_seq (de_var 2 rfl (by first | exact .inl rfl | exact .inr (.inl rfl) | exact .inr (.inr rfl)))) (dg_name 3 rfl (by first | exact .inl rfl | exact .inr rfl)) (dts_one (dt_nin (de_var 3 rfl (by first | exact .inl rfl | exact .inr (.inl rfl) | exact .inr (.inr rfl))) (de_var 1 rfl (by first | exact .inl rfl | exact .inr (.inl rfl) | exact .inr (.inr rfl))))) (de_var 3 rfl (by first | exact .inl rfl | exact .inr (.inl rfl) | exact .inr (.inr rfl))) (by decide)) (by dsimp only [S_scopes_without, Sx.blk]; decide +kernel))) (by decide)) (by dsimp only [S_scopes_without, Sx.blk]; decide +kernel))))
  dss_nil)
theorem sc_scopes_without : FnScope N_scopes_without ["scopes", "lot"] (defScope s_scopes_without) := ⟨rfl, rfl, rfl, by decide +kernel, rfl, by decide +kernel, by decide +kernel⟩
abbrev N_flows_by : List Str := ["scopes", "sequence", "found", "place", "cluster", "later", "other"]
abbrev S_flows_by (P : Program) (w : World) (K : PySem.W.Frag) (mg : Str → Option Value) (base : Heap) : Sx := ⟨N_flows_by, defScope s_flows_by, fun _ => true, P, w, K, mg, base, 3⟩
def T_flows_by : TSd := (sThen (sSet 2 (eLst aNil))
  (sThen (sFor (iE true (eCB (fCall sp_clusters_by) (aCons (eVar 0) (aCons (eVar 1) aNil)))) (gT (gsCons (gN 3) (gsCons (gN 4) gsNil))) (sThen (sSet 5 (eLc (iS false (eSlT (eVar 1) (oSome (e2 fAdd (eVar 3) (eC (.d (.int 1))))) oNone)) (gN 6) (eT (e2 (fIn false) (eVar 6) (eVar 4))) (eVar 6) [6]))
  (sThen (sApp 2 (eIf (eT (e2 fNe (eVar 5) (eLst aNil))) (e2 fIx (eVar 5) (eC (.d (.int 0)))) (eC (.d .none))))
  sNil)))
  (sThen (sRet (eTuple (eVar 2)))
  sNil)))
theorem walk_flows_by (B : Bt mg) (D_clusters_by : DefW P w K mg base "clusters_by" 3 ["scopes", "sequence"] sp_clusters_by) : DSs (S_flows_by P w K mg base) (defBody s_flows_by) T_flows_by :=
  (dss_cons (ds_set 2 rfl (by first | exact .inl rfl | exact .inr rfl) (de_lst da_nil))
  (dss_cons (ds_for (ns := [3, 4]) (dib_enum B rfl (de_call D_clusters_by.at (by show 3 ≤ 3; decide) rfl (da_cons (de_var 0 rfl (by first | exact .inl rfl | exact .inr (.inl rfl) | exact .inr (.inr rfl))) (da_cons (de_var 1 rfl (by first | exact .inl rfl | exact .inr (.inl rfl) | exact .inr (.inr rfl))) da_nil)) rfl)) (dg_tup2 (dg_name 3 rfl (by first | exact .inl rfl | exact .inr rfl)) (dg_name 4 rfl (by first | exact .inl rfl | exact .inr rfl))) (dss_cons (ds_setLc 5 rfl rfl rfl (dlc (own := [(("other" : Str), 6)]) (ns := [6]) (di_seq (de_slT (de_var 1 rfl (by first | exact .inl rfl | exact .inr (.inl rfl) | exact .inr (.inr rfl))) (do_some (de_add (de_var 3 rfl (by first | exact .inl rfl | exact .inr (.inl rfl) | exact .inr (.inr rfl))) de_int)) do_none)) (dg_name 6 rfl (by first | exact .inl rfl | exact .inr rfl)) (dts_one (dt_in (de_var 6 rfl (by first | exact .inl rfl | exact .inr (.inl rfl) | exact .inr (.inr rfl))) (de_var 4 rfl (by first | exact .inl rfl | exact .inr (.inl rfl) | exact .inr (.inr rfl))))) (de_var 6 rfl (by first | exact .inl rfl | exact .inr (.inl rfl) | exact .inr (.inr rfl))) (by decide)) (by dsimp only [S_flows_by, Sx.blk]; decide +kernel) (by decide +kernel) (by decide +kernel))
  (dss_cons (ds_app 2 rfl (by first | exact .inl rfl | exact .inr (.inl rfl) | exact .inr (.inr rfl)) (de_if (dt_ne (de_var 5 rfl (by first | exact .inl rfl | exact .inr (.inl rfl) | exact .inr (.inr rfl))) (de_lst da_nil)) (de_ix (de_var 5 rfl (by first | exact .inl rfl | exact .inr (.inl rfl) | exact .inr (.inr rfl))) de_int) de_non))
  dss_nil)))
  (dss_cons (ds_ret (db_tuple B rfl (de_var 2 rfl (by first | exact .inl rfl | exact .inr (.inl rfl) | exact .inr (.inr rfl)))))
  dss_nil)))
theorem sc_flows_by : FnScope N_flows_by ["scopes", "sequence"] (defScope s_flows_by) := ⟨rfl, rfl, rfl, by decide +kernel, rfl, by decide +kernel, by decide +kernel⟩
abbrev N_settled_sequence : List Str := ["scopes", "sequence", "goals", "flows", "left", "found", "awaited", "thing", "flow"]
abbrev S_settled_sequence (P : Program) (w : World) (K : PySem.W.Frag) (mg : Str → Option Value) (base : Heap) : Sx := ⟨N_settled_sequence, defScope s_settled_sequence, fun _ => true, P, w, K, mg, base, 4⟩
def T_settled_sequence : TSd := (sThen (sPar3 3 4 5 (aCons (eCB (fCall sp_flows_by) (aCons (eVar 0) (aCons (eVar 1) aNil))) (aCons (e1 fSortT (eVar 1)) (aCons (eLst aNil) aNil))))
  (sThen (sSet 2 (eDc (iZ (eVar 1) (eVar 3)) (gT (gsCons (gN 7) (gsCons (gN 8) gsNil))) bYes (eVar 7) (eVar 8) [7, 8]))
  (sThen (sWhile (eT (e2 fNe (eVar 4) (eLst aNil))) (sThen (sSet 6 (eLc (iS false (eVar 4)) (gN 7) bYes (e2 fIxD (eVar 2) (eVar 7)) [7]))
  (sThen (sSet 7 (e1 fMinI (eLc (iS false (eVar 4)) (gN 7) (eT (e2 (fIn true) (eVar 7) (eVar 6))) (eVar 7) [7])))
  (sThen (sRem 4 (eVar 7))
  (sThen (sApp 5 (eVar 7))
  sNil)))))
  (sThen (sRet (eTupleN (eVar 5)))
  sNil))))
theorem walk_settled_sequence (B : Bt mg) (D_flows_by : DefW P w K mg base "flows_by" 4 ["scopes", "sequence"] sp_flows_by) : DSs (S_settled_sequence P w K mg base) (defBody s_settled_sequence) T_settled_sequence :=
  (dss_cons (ds_par3 3 4 5 rfl rfl rfl (by decide) (by decide) (by decide) rfl rfl rfl (da_cons (de_call D_flows_by.at (by show 4 ≤ 4; decide) rfl (da_cons (de_var 0 rfl (by first | exact .inl rfl | exact .inr (.inl rfl) | exact .inr (.inr rfl))) (da_cons (de_var 1 rfl (by first | exact .inl rfl | exact .inr (.inl rfl) | exact .inr (.inr rfl))) da_nil)) rfl) (da_cons (db_sortT B rfl (de_var 1 rfl (by first | exact .inl rfl | exact .inr (.inl rfl) | exact .inr (.inr rfl)))) (da_cons (de_lst da_nil) da_nil))) (by intro env h; cases env; dsimp only at h; subst h; rfl))
  (dss_cons (ds_set 2 rfl (by first | exact .inl rfl | exact .inr rfl) (de_dc (own := [(("thing" : Str), 7), (("flow" : Str), 8)]) (ns := [7, 8]) (dib_zip B rfl (de_var 1 rfl (by first | exact .inl rfl | exact .inr (.inl rfl) | exact .inr (.inr rfl))) (de_var 3 rfl (by first | exact .inl rfl | exact .inr (.inl rfl) | exact .inr (.inr rfl)))) (dg_tup2 (dg_name 7 rfl (by first | exact .inl rfl | exact .inr rfl)) (dg_name 8 rfl (by first | exact .inl rfl | exact .inr rfl))) dts_nil (de_var 7 rfl (by first | exact .inl rfl | exact .inr (.inl rfl) | exact .inr (.inr rfl))) (de_var 8 rfl (by first | exact .inl rfl | exact .inr (.inl rfl) | exact .inr (.inr rfl))) (by dsimp only [S_settled_sequence, Sx.blk]; decide +kernel) (by decide)) (hs := by intro env h; cases env; dsimp only at h; subst h; rfl))
  (dss_cons (ds_while (dt_ne (de_var 4 rfl (by first | exact .inl rfl | exact .inr (.inl rfl) | exact .inr (.inr rfl))) (de_lst da_nil)) (dss_cons (ds_set 6 rfl (by first | exact .inl rfl | exact .inr rfl) (de_lc' (dlc (own := [(("thing" : Str), 7)]) (ns := [7]) (di_seq (de_var 4 rfl (by first | exact .inl rfl | exact .inr (.inl rfl) | exact .inr (.inr rfl)))) (dg_name 7 rfl (by first | exact .inl rfl | exact .inr rfl)) dts_nil (de_ixD (de_var 2 rfl (by first | exact .inl rfl | exact .inr (.inl rfl) | exact .inr (.inr rfl))) (de_var 7 rfl (by first | exact .inl rfl | exact .inr (.inl rfl) | exact .inr (.inr rfl)))) (by decide)) (by dsimp only [S_settled_sequence, Sx.blk]; decide +kernel)) (hs := by intro env h; cases env; dsimp only at h; subst h; rfl))
  (dss_cons (ds_set 7 rfl (by first | exact .inl rfl | exact .inr rfl) (db_minI B rfl (de_lc' (dlc (own := [(("thing" : Str), 7)]) (ns := [7]) (di_seq (de_var 4 rfl (by first | exact .inl rfl | exact .inr (.inl rfl) | exact .inr (.inr rfl)))) (dg_name 7 rfl (by first | exact .inl rfl | exact .inr rfl)) (dts_one (dt_nin (de_var 7 rfl (by first | exact .inl rfl | exact .inr (.inl rfl) | exact .inr (.inr rfl))) (de_var 6 rfl (by first | exact .inl rfl | exact .inr (.inl rfl) | exact .inr (.inr rfl))))) (de_var 7 rfl (by first | exact .inl rfl | exact .inr (.inl rfl) | exact .inr (.inr rfl))) (by decide)) (by dsimp only [S_settled_sequence, Sx.blk]; decide +kernel))))
  (dss_cons (ds_rem 4 rfl (by first | exact .inl rfl | exact .inr (.inl rfl) | exact .inr (.inr rfl)) (de_var 7 rfl (by first | exact .inl rfl | exact .inr (.inl rfl) | exact .inr (.inr rfl))))
  (dss_cons (ds_app 5 rfl (by first | exact .inl rfl | exact .inr (.inl rfl) | exact .inr (.inr rfl)) (de_var 7 rfl (by first | exact .inl rfl | exact .inr (.inl rfl) | exact .inr (.inr rfl))))
  dss_nil)))))
  (dss_cons (ds_ret (db_tupleN B rfl (de_var 5 rfl (by first | exact .inl rfl | exact .inr (.inl rfl) | exact .inr (.inr rfl)))))
  dss_nil))))
theorem sc_settled_sequence : FnScope N_settled_sequence ["scopes", "sequence"] (defScope s_settled_sequence) := ⟨rfl, rfl, rfl, by decide +kernel, rfl, by decide +kernel, by decide +kernel⟩
abbrev N_lot_size : List Str := ["counts", "lot", "thing"]
abbrev S_lot_size (P : Program) (w : World) (K : PySem.W.Frag) (mg : Str → Option Value) (base : Heap) : Sx := ⟨N_lot_size, defScope s_lot_size, fun _ => true, P, w, K, mg, base, 1⟩
def T_lot_size : TSd := (sThen (sRet (eCB (fCall sp_fill_count) (aCons (eLc (iS false (eVar 1)) (gN 2) bYes (e2 fIx (eVar 0) (eVar 2)) [2]) aNil)))
  sNil)
theorem walk_lot_size (B : Bt mg) (D_fill_count : DefW P w K mg base "fill_count" 1 ["counts"] sp_fill_count) : DSs (S_lot_size P w K mg base) (defBody s_lot_size) T_lot_size :=
  (dss_cons (ds_ret (de_call D_fill_count.at (by show 1 ≤ 1; decide) rfl (da_cons (de_lc' (dlc (own := [(("thing" : Str), 2)]) (ns := [2]) (di_seq (de_var 1 rfl (by first | exact .inl rfl | exact .inr (.inl rfl) | exact .inr (.inr rfl)))) (dg_name 2 rfl (by first | exact .inl rfl | exact .inr rfl)) dts_nil (de_ix (de_var 0 rfl (by first | exact .inl rfl | exact .inr (.inl rfl) | exact .inr (.inr rfl))) (de_var 2 rfl (by first | exact .inl rfl | exact .inr (.inl rfl) | exact .inr (.inr rfl)))) (by decide)) (by dsimp only [S_lot_size, Sx.blk]; decide +kernel)) da_nil) rfl))
  dss_nil)
theorem sc_lot_size : FnScope N_lot_size ["counts", "lot"] (defScope s_lot_size) := ⟨rfl, rfl, rfl, by decide +kernel, rfl, by decide +kernel, by decide +kernel⟩
abbrev N_sizes_by : List Str := ["counts", "scopes", "sequence", "cluster"]
abbrev S_sizes_by (P : Program) (w : World) (K : PySem.W.Frag) (mg : Str → Option Value) (base : Heap) : Sx := ⟨N_sizes_by, defScope s_sizes_by, fun _ => true, P, w, K, mg, base, 3⟩
def T_sizes_by : TSd := (sThen (sRet (eTuple (eLc (iS false (eCB (fCall sp_clusters_by) (aCons (eVar 1) (aCons (eVar 2) aNil)))) (gN 3) bYes (eCB (fCall sp_lot_size) (aCons (eVar 0) (aCons (eVar 3) aNil))) [3])))
  sNil)
theorem walk_sizes_by (B : Bt mg) (D_clusters_by : DefW P w K mg base "clusters_by" 3 ["scopes", "sequence"] sp_clusters_by) (D_lot_size : DefW P w K mg base "lot_size" 2 ["counts", "lot"] sp_lot_size) : DSs (S_sizes_by P w K mg base) (defBody s_sizes_by) T_sizes_by :=
  (dss_cons (ds_ret (db_tuple B rfl (de_lc' (dlc (own := [(("cluster" : Str), 3)]) (ns := [3]) (di_seq (de_call D_clusters_by.at (by show 3 ≤ 3; decide) rfl (da_cons (de_var 1 rfl (by first | exact .inl rfl | exact .inr (.inl rfl) | exact .inr (.inr rfl))) (da_cons (de_var 2 rfl (by first | exact .inl rfl | exact .inr (.inl rfl) | exact .inr (.inr rfl))) da_nil)) rfl)) (dg_name 3 rfl (by first | exact .inl rfl | exact .inr rfl)) dts_nil (de_call D_lot_size.at (by show 2 ≤ 3; decide) rfl (da_cons (de_var 0 rfl (by first | exact .inl rfl | exact .inr (.inl rfl) | exact .inr (.inr rfl))) (da_cons (de_var 3 rfl (by first | exact .inl rfl | exact .inr (.inl rfl) | exact .inr (.inr rfl))) da_nil)) rfl) (by decide)) (by dsimp only [S_sizes_by, Sx.blk]; decide +kernel))))
  dss_nil)
theorem sc_sizes_by : FnScope N_sizes_by ["counts", "scopes", "sequence"] (defScope s_sizes_by) := ⟨rfl, rfl, rfl, by decide +kernel, rfl, by decide +kernel, by decide +kernel⟩
abbrev N_joined_cost : List Str := ["kind", "one", "other"]
abbrev S_joined_cost (P : Program) (w : World) (K : PySem.W.Frag) (mg : Str → Option Value) (base : Heap) : Sx := ⟨N_joined_cost, defScope s_joined_cost, fun _ => true, P, w, K, mg, base, 0⟩
def T_joined_cost : TSd := (sThen (sRet (eIf (eT (e2 fEqS (eVar 0) (eC (.d (.str ("greatest" : Str)))))) (eA2 fMax2 (eVar 1) (eVar 2)) (e2 fAdd (eVar 1) (eVar 2))))
  sNil)
theorem walk_joined_cost (B : Bt mg) : DSs (S_joined_cost P w K mg base) (defBody s_joined_cost) T_joined_cost :=
  (dss_cons (ds_ret (de_if (dt_eqS (de_var 0 rfl (by first | exact .inl rfl | exact .inr (.inl rfl) | exact .inr (.inr rfl))) de_str) (db_max2 B rfl (de_var 1 rfl (by first | exact .inl rfl | exact .inr (.inl rfl) | exact .inr (.inr rfl))) (de_var 2 rfl (by first | exact .inl rfl | exact .inr (.inl rfl) | exact .inr (.inr rfl)))) (de_add (de_var 1 rfl (by first | exact .inl rfl | exact .inr (.inl rfl) | exact .inr (.inr rfl))) (de_var 2 rfl (by first | exact .inl rfl | exact .inr (.inl rfl) | exact .inr (.inr rfl))))))
  dss_nil)
theorem sc_joined_cost : FnScope N_joined_cost ["kind", "one", "other"] (defScope s_joined_cost) := ⟨rfl, rfl, rfl, by decide +kernel, rfl, by decide +kernel, by decide +kernel⟩
abbrev N_cost_by : List Str := ["counts", "scopes", "sequence", "kind", "found", "size"]
abbrev S_cost_by (P : Program) (w : World) (K : PySem.W.Frag) (mg : Str → Option Value) (base : Heap) : Sx := ⟨N_cost_by, defScope s_cost_by, fun _ => true, P, w, K, mg, base, 4⟩
def T_cost_by : TSd := (sThen (sSet 4 (eC (.d (.int 0))))
  (sThen (sFor (iS true (eCB (fCall sp_sizes_by) (aCons (eVar 0) (aCons (eVar 1) (aCons (eVar 2) aNil))))) (gN 5) (sThen (sSet 4 (eCB (fCall sp_joined_cost) (aCons (eVar 3) (aCons (eVar 4) (aCons (eVar 5) aNil)))))
  sNil))
  (sThen (sRet (eVar 4))
  sNil)))
theorem walk_cost_by (B : Bt mg) (D_joined_cost : DefW P w K mg base "joined_cost" 1 ["kind", "one", "other"] sp_joined_cost) (D_sizes_by : DefW P w K mg base "sizes_by" 4 ["counts", "scopes", "sequence"] sp_sizes_by) : DSs (S_cost_by P w K mg base) (defBody s_cost_by) T_cost_by :=
  (dss_cons (ds_set 4 rfl (by first | exact .inl rfl | exact .inr rfl) de_int)
  (dss_cons (ds_for (ns := [5]) (di_seq (de_call D_sizes_by.at (by show 4 ≤ 4; decide) rfl (da_cons (de_var 0 rfl (by first | exact .inl rfl | exact .inr (.inl rfl) | exact .inr (.inr rfl))) (da_cons (de_var 1 rfl (by first | exact .inl rfl | exact .inr (.inl rfl) | exact .inr (.inr rfl))) (da_cons (de_var 2 rfl (by first | exact .inl rfl | exact .inr (.inl rfl) | exact .inr (.inr rfl))) da_nil))) rfl)) (dg_name 5 rfl (by first | exact .inl rfl | exact .inr rfl)) (dss_cons (ds_set 4 rfl (by first | exact .inl rfl | exact .inr rfl) (de_call D_joined_cost.at (by show 1 ≤ 4; decide) rfl (da_cons (de_var 3 rfl (by first | exact .inl rfl | exact .inr (.inl rfl) | exact .inr (.inr rfl))) (da_cons (de_var 4 rfl (by first | exact .inl rfl | exact .inr (.inl rfl) | exact .inr (.inr rfl))) (da_cons (de_var 5 rfl (by first | exact .inl rfl | exact .inr (.inl rfl) | exact .inr (.inr rfl))) da_nil))) rfl))
  dss_nil))
  (dss_cons (ds_ret (de_var 4 rfl (by first | exact .inl rfl | exact .inr (.inl rfl) | exact .inr (.inr rfl))))
  dss_nil)))
theorem sc_cost_by : FnScope N_cost_by ["counts", "scopes", "sequence", "kind"] (defScope s_cost_by) := ⟨rfl, rfl, rfl, by decide +kernel, rfl, by decide +kernel, by decide +kernel⟩
abbrev N_greedy_sequence : List Str := ["counts", "scopes", "lot", "found", "left", "sizes", "thing"]
abbrev S_greedy_sequence (P : Program) (w : World) (K : PySem.W.Frag) (mg : Str → Option Value) (base : Heap) : Sx := ⟨N_greedy_sequence, defScope s_greedy_sequence, fun _ => true, P, w, K, mg, base, 2⟩
def T_greedy_sequence : TSd := (sThen (sPar 3 4 (aCons (eTup aNil) (aCons (e1 fList (eVar 2)) aNil)))
  (sThen (sWhile (eT (e2 fNe (eVar 4) (eLst aNil))) (sThen (sSet 5 (eLc (iS false (eVar 4)) (gN 6) bYes (eTup (aCons (eCB (fCall sp_lot_size) (aCons (eVar 0) (aCons (eCB (fCall sp_cluster_behind) (aCons (eVar 1) (aCons (eVar 3) (aCons (eVar 6) aNil)))) aNil))) (aCons (eVar 6) aNil))) [6]))
  (sThen (sSet 6 (e2 fIx (e1 fMinD (eVar 5)) (eC (.d (.int 1)))))
  (sThen (sRem 4 (eVar 6))
  (sThen (sAug 3 fAddT (eTup (aCons (eVar 6) aNil)))
  sNil)))))
  (sThen (sRet (eVar 3))
  sNil)))
theorem walk_greedy_sequence (B : Bt mg) (D_cluster_behind : DefW P w K mg base "cluster_behind" 2 ["scopes", "before", "thing"] sp_cluster_behind) (D_lot_size : DefW P w K mg base "lot_size" 2 ["counts", "lot"] sp_lot_size) : DSs (S_greedy_sequence P w K mg base) (defBody s_greedy_sequence) T_greedy_sequence :=
  (dss_cons (ds_parC 3 4 rfl rfl (by first | exact .inl rfl | exact .inr rfl) (by first | exact .inl rfl | exact .inr rfl) (da_cons (de_tup da_nil) (da_cons (db_list B rfl (de_var 2 rfl (by first | exact .inl rfl | exact .inr (.inl rfl) | exact .inr (.inr rfl)))) da_nil)) (by intro env h; cases env; dsimp only at h; subst h; rfl))
  (dss_cons (ds_while (dt_ne (de_var 4 rfl (by first | exact .inl rfl | exact .inr (.inl rfl) | exact .inr (.inr rfl))) (de_lst da_nil)) (dss_cons (ds_setLc 5 rfl rfl rfl (dlc (own := [(("thing" : Str), 6)]) (ns := [6]) (di_seq (de_var 4 rfl (by first | exact .inl rfl | exact .inr (.inl rfl) | exact .inr (.inr rfl)))) (dg_name 6 rfl (by first | exact .inl rfl | exact .inr rfl)) dts_nil (de_tup (da_cons (de_call D_lot_size.at (by show 2 ≤ 2; decide) rfl (da_cons (de_var 0 rfl (by first | exact .inl rfl | exact .inr (.inl rfl) | exact .inr (.inr rfl))) (da_cons (de_call D_cluster_behind.at (by show 2 ≤ 2; decide) rfl (da_cons (de_var 1 rfl (by first | exact .inl rfl | exact .inr (.inl rfl) | exact .inr (.inr rfl))) (da_cons (de_var 3 rfl (by first | exact .inl rfl | exact .inr (.inl rfl) | exact .inr (.inr rfl))) (da_cons (de_var 6 rfl (by first | exact .inl rfl | exact .inr (.inl rfl) | exact .inr (.inr rfl))) da_nil))) rfl) da_nil)) rfl) (da_cons (de_var 6 rfl (by first | exact .inl rfl | exact .inr (.inl rfl) | exact .inr (.inr rfl))) da_nil))) (by decide)) (by dsimp only [S_greedy_sequence, Sx.blk]; decide +kernel) (by decide +kernel) (by decide +kernel))
  (dss_cons (ds_set 6 rfl (by first | exact .inl rfl | exact .inr rfl) (de_ix (db_minD B rfl (de_var 5 rfl (by first | exact .inl rfl | exact .inr (.inl rfl) | exact .inr (.inr rfl)))) de_int))
  (dss_cons (ds_rem 4 rfl (by first | exact .inl rfl | exact .inr (.inl rfl) | exact .inr (.inr rfl)) (de_var 6 rfl (by first | exact .inl rfl | exact .inr (.inl rfl) | exact .inr (.inr rfl))))
  (dss_cons (ds_aug 3 rfl (by first | exact .inl rfl | exact .inr rfl) (de_tup (da_cons (de_var 6 rfl (by first | exact .inl rfl | exact .inr (.inl rfl) | exact .inr (.inr rfl))) da_nil)) (fun X c => by rw [← c.K]; exact CR.ip_catT) r2_AddT)
  dss_nil)))))
  (dss_cons (ds_ret (de_var 3 rfl (by first | exact .inl rfl | exact .inr (.inl rfl) | exact .inr (.inr rfl))))
  dss_nil)))
theorem sc_greedy_sequence : FnScope N_greedy_sequence ["counts", "scopes", "lot"] (defScope s_greedy_sequence) := ⟨rfl, rfl, rfl, by decide +kernel, rfl, by decide +kernel, by decide +kernel⟩
abbrev N__law_heap : List Str := ["_law_script", "_law_cell", "_law_cells", "_law_stir"]
abbrev S__law_heap (P : Program) (w : World) (K : PySem.W.Frag) (mg : Str → Option Value) (base : Heap) : Sx := ⟨N__law_heap, defScope s__law_heap, fun _ => true, P, w, K, mg, base, 0⟩
def T__law_heap : TSd := (sThen (sPar 2 3 (aCons (eLc (iS false (eSlS (eVar 0) oNone (oSome (eC (.d (.int 60)))))) (gN 1) bYes (e2 fAdd (e2 fMul (eC (.d (.int 2))) (e1 fAbs (eVar 1))) (e1 fInt (e2 fLt (eVar 1) (eC (.d (.int 0)))))) [1]) (aCons (eC (.d (.int 30211))) aNil)))
  (sFrz 2 (sThen (sFor (iS true (eVar 2)) (gN 1) (sThen (sSet 3 (e2 fMod (e1 fInt (e2 fAdd (e2 fAdd (e2 fMul (eVar 3) (eC (.d (.int 69621)))) (e2 fMod (e1 fInt (eVar 1)) (eC (.d (.int 2147483563))))) (eC (.d (.int 29))))) (eC (.d (.int 2147483647)))))
  sNil))
  (sThen (sRet (eLst (aCons (eBackL (eLc (iS false (eVar 2)) (gN 1) (eT (e2 fGe (eVar 1) (e2 fPow (eC (.d (.int 10))) (eC (.d (.int 18)))))) (eVar 1) [1])) (aCons (eVar 3) aNil))))
  sNil))))
theorem walk__law_heap (B : Bt mg) : DSs (S__law_heap P w K mg base) (defBody s__law_heap) T__law_heap :=
  (dss_cons (ds_par 2 3 rfl rfl (by decide) rfl rfl (da_cons (de_lc' (dlc (own := [(("_law_cell" : Str), 1)]) (ns := [1]) (di_seq (de_slS (de_var 0 rfl (by first | exact .inl rfl | exact .inr (.inl rfl) | exact .inr (.inr rfl))) do_none (do_some de_int))) (dg_name 1 rfl (by first | exact .inl rfl | exact .inr rfl)) dts_nil (de_add (de_mul de_int (db_abs B rfl (de_var 1 rfl (by first | exact .inl rfl | exact .inr (.inl rfl) | exact .inr (.inr rfl))))) (db_int B rfl (de_lt (de_var 1 rfl (by first | exact .inl rfl | exact .inr (.inl rfl) | exact .inr (.inr rfl))) de_int))) (by decide)) (by dsimp only [S__law_heap, Sx.blk]; decide +kernel)) (da_cons de_int da_nil)) (by intro env h; cases env; dsimp only at h; subst h; rfl))
  (dss_frz 2 (dss_cons (ds_for (ns := [1]) (di_seq (de_var 2 rfl (by first | exact .inl rfl | exact .inr (.inl rfl) | exact .inr (.inr rfl)))) (dg_name 1 rfl (by first | exact .inl rfl | exact .inr rfl)) (dss_cons (ds_set 3 rfl (by first | exact .inl rfl | exact .inr rfl) (de_mod (db_int B rfl (de_add (de_add (de_mul (de_var 3 rfl (by first | exact .inl rfl | exact .inr (.inl rfl) | exact .inr (.inr rfl))) de_int) (de_mod (db_int B rfl (de_var 1 rfl (by first | exact .inl rfl | exact .inr (.inl rfl) | exact .inr (.inr rfl)))) de_int)) de_int)) de_int))
  dss_nil))
  (dss_cons (ds_ret (de_lst (da_cons (de_backL (de_lc' (dlc (own := [(("_law_cell" : Str), 1)]) (ns := [1]) (di_seq (de_var 2 rfl (by first | exact .inl rfl | exact .inr (.inl rfl) | exact .inr (.inr rfl)))) (dg_name 1 rfl (by first | exact .inl rfl | exact .inr rfl)) (dts_one (dt_ge (de_var 1 rfl (by first | exact .inl rfl | exact .inr (.inl rfl) | exact .inr (.inr rfl))) (de_pow de_int de_int))) (de_var 1 rfl (by first | exact .inl rfl | exact .inr (.inl rfl) | exact .inr (.inr rfl))) (by decide)) (by dsimp only [S__law_heap, Sx.blk]; decide +kernel))) (da_cons (de_var 3 rfl (by first | exact .inl rfl | exact .inr (.inl rfl) | exact .inr (.inr rfl))) da_nil))))
  dss_nil))))
theorem sc__law_heap : FnScope N__law_heap ["_law_script"] (defScope s__law_heap) := ⟨rfl, rfl, rfl, by decide +kernel, rfl, by decide +kernel, by decide +kernel⟩
abbrev N__law_pick : List Str := ["_law_heap_here", "_law_some"]
abbrev S__law_pick (P : Program) (w : World) (K : PySem.W.Frag) (mg : Str → Option Value) (base : Heap) : Sx := ⟨N__law_pick, defScope s__law_pick, fun _ => true, P, w, K, mg, base, 1⟩
def T__law_pick : TSd := (sThen (sRet (e2 fIx (eVar 1) (eCB (fCall sp__law_draw) (aCons (eVar 0) (aCons (e1 fLen (eVar 1)) aNil)))))
  sNil)
theorem walk__law_pick (B : Bt mg) (D__law_draw : DefW P w K mg base "_law_draw" 1 ["_law_heap_here", "_law_many"] sp__law_draw) : DSs (S__law_pick P w K mg base) (defBody s__law_pick) T__law_pick :=
  (dss_cons (ds_ret (de_ix (de_var 1 rfl (by first | exact .inl rfl | exact .inr (.inl rfl) | exact .inr (.inr rfl))) (de_call D__law_draw.at (by show 1 ≤ 1; decide) rfl (da_cons (de_var 0 rfl (by first | exact .inl rfl | exact .inr (.inl rfl) | exact .inr (.inr rfl))) (da_cons (db_len B rfl (de_var 1 rfl (by first | exact .inl rfl | exact .inr (.inl rfl) | exact .inr (.inr rfl)))) da_nil)) rfl)))
  dss_nil)
theorem sc__law_pick : FnScope N__law_pick ["_law_heap_here", "_law_some"] (defScope s__law_pick) := ⟨rfl, rfl, rfl, by decide +kernel, rfl, by decide +kernel, by decide +kernel⟩
abbrev N__law_shuffled : List Str := ["_law_heap_here", "_law_some", "_law_turn", "_law_rest", "_law_found"]
abbrev S__law_shuffled (P : Program) (w : World) (K : PySem.W.Frag) (mg : Str → Option Value) (base : Heap) : Sx := ⟨N__law_shuffled, defScope s__law_shuffled, fun _ => true, P, w, K, mg, base, 1⟩
def T__law_shuffled : TSd := (sThen (sPar 3 4 (aCons (e1 fList (eVar 1)) (aCons (eLst aNil) aNil)))
  (sThen (sFor (iR (e1 fLen (eVar 1))) (gN 2) (sThen (sAppPop 4 3 (eCB (fCall sp__law_draw) (aCons (eVar 0) (aCons (e1 fLen (eVar 3)) aNil))))
  sNil))
  (sThen (sRet (eTupleN (eVar 4)))
  sNil)))
theorem walk__law_shuffled (B : Bt mg) (D__law_draw : DefW P w K mg base "_law_draw" 1 ["_law_heap_here", "_law_many"] sp__law_draw) : DSs (S__law_shuffled P w K mg base) (defBody s__law_shuffled) T__law_shuffled :=
  (dss_cons (ds_par 3 4 rfl rfl (by decide) rfl rfl (da_cons (db_list B rfl (de_var 1 rfl (by first | exact .inl rfl | exact .inr (.inl rfl) | exact .inr (.inr rfl)))) (da_cons (de_lst da_nil) da_nil)) (by intro env h; cases env; dsimp only at h; subst h; rfl))
  (dss_cons (ds_for (ns := [2]) (dib_rng B rfl (db_len B rfl (de_var 1 rfl (by first | exact .inl rfl | exact .inr (.inl rfl) | exact .inr (.inr rfl))))) (dg_name 2 rfl (by first | exact .inl rfl | exact .inr rfl)) (dss_cons (ds_appPop 4 3 (by decide) rfl (by first | exact .inl rfl | exact .inr (.inl rfl) | exact .inr (.inr rfl)) rfl (by first | exact .inl rfl | exact .inr (.inl rfl) | exact .inr (.inr rfl)) (de_call D__law_draw.at (by show 1 ≤ 1; decide) rfl (da_cons (de_var 0 rfl (by first | exact .inl rfl | exact .inr (.inl rfl) | exact .inr (.inr rfl))) (da_cons (db_len B rfl (de_var 3 rfl (by first | exact .inl rfl | exact .inr (.inl rfl) | exact .inr (.inr rfl)))) da_nil)) rfl))
  dss_nil))
  (dss_cons (ds_ret (db_tupleN B rfl (de_var 4 rfl (by first | exact .inl rfl | exact .inr (.inl rfl) | exact .inr (.inr rfl)))))
  dss_nil)))
theorem sc__law_shuffled : FnScope N__law_shuffled ["_law_heap_here", "_law_some"] (defScope s__law_shuffled) := ⟨rfl, rfl, rfl, by decide +kernel, rfl, by decide +kernel, by decide +kernel⟩
abbrev N__law_cluster : List Str := ["_law_scopes_here", "_law_gone", "_law_thing", "_law_reached", "_law_turn", "_law_before", "_law_scope", "_law_at"]
abbrev S__law_cluster (P : Program) (w : World) (K : PySem.W.Frag) (mg : Str → Option Value) (base : Heap) : Sx := ⟨N__law_cluster, defScope s__law_cluster, fun _ => true, P, w, K, mg, base, 0⟩
def T__law_cluster : TSd := (sThen (sSet 3 (eLst (aCons (eVar 2) aNil)))
  (sThen (sFor (iR (e2 fAdd (e1 fLen (eVar 0)) (eC (.d (.int 1))))) (gN 4) (sThen (sSet 5 (e1 fLen (eVar 3)))
  (sThen (sFor (iS true (eVar 0)) (gN 6) (sThen (sIf (eT (e1 fAny (eLc (iS false (eVar 6)) (gN 7) bYes (eAnd (e2 (fIn false) (eVar 7) (eVar 3)) (eOr (e2 fEq (eVar 7) (eVar 2)) (e2 (fIn false) (eVar 7) (eVar 1)))) [7]))) (sThen (sSet 3 (e2 fAddL (eVar 3) (eLc (iS false (eVar 6)) (gN 7) (eT (e2 (fIn true) (eVar 7) (eVar 3))) (eVar 7) [7])))
  sNil) sNil)
  sNil))
  (sThen (sIf (eT (e2 fEq (e1 fLen (eVar 3)) (eVar 5))) (sThen sBreak
  sNil) sNil)
  sNil))))
  (sThen (sRet (eTuple (e1 fSortL (eLc (iS false (eVar 3)) (gN 7) (bOr (eT (e2 fEq (eVar 7) (eVar 2))) (eT (e2 (fIn true) (eVar 7) (eVar 1)))) (eVar 7) [7]))))
  sNil)))
theorem walk__law_cluster (B : Bt mg) : DSs (S__law_cluster P w K mg base) (defBody s__law_cluster) T__law_cluster :=
  (dss_cons (ds_set 3 rfl (by first | exact .inl rfl | exact .inr rfl) (de_lst (da_cons (de_var 2 rfl (by first | exact .inl rfl | exact .inr (.inl rfl) | exact .inr (.inr rfl))) da_nil)))
  (dss_cons (ds_for (ns := [4]) (dib_rng B rfl (de_add (db_len B rfl (de_var 0 rfl (by first | exact .inl rfl | exact .inr (.inl rfl) | exact .inr (.inr rfl)))) de_int)) (dg_name 4 rfl (by first | exact .inl rfl | exact .inr rfl)) (dss_cons (ds_set 5 rfl (by first | exact .inl rfl | exact .inr rfl) (db_len B rfl (de_var 3 rfl (by first | exact .inl rfl | exact .inr (.inl rfl) | exact .inr (.inr rfl)))))
  (dss_cons (ds_for (ns := [6]) (di_seq (de_var 0 rfl (by first | exact .inl rfl | exact .inr (.inl rfl) | exact .inr (.inr rfl)))) (dg_name 6 rfl (by first | exact .inl rfl | exact .inr rfl)) (dss_cons (ds_if (dt_val (db_any B rfl (de_lc' (dlc (own := [(("_law_at" : Str), 7)]) (ns := [7]) (di_seq (de_var 6 rfl (by first | exact .inl rfl | exact .inr (.inl rfl) | exact .inr (.inr rfl)))) (dg_name 7 rfl (by first | exact .inl rfl | exact .inr rfl)) dts_nil (de_and (de_in (de_var 7 rfl (by first | exact .inl rfl | exact .inr (.inl rfl) | exact .inr (.inr rfl))) (de_var 3 rfl (by first | exact .inl rfl | exact .inr (.inl rfl) | exact .inr (.inr rfl)))) (de_one (de_or (de_eq (de_var 7 rfl (by first | exact .inl rfl | exact .inr (.inl rfl) | exact .inr (.inr rfl))) (de_var 2 rfl (by first | exact .inl rfl | exact .inr (.inl rfl) | exact .inr (.inr rfl)))) (de_one (de_in (de_var 7 rfl (by first | exact .inl rfl | exact .inr (.inl rfl) | exact .inr (.inr rfl))) (de_var 1 rfl (by first | exact .inl rfl | exact .inr (.inl rfl) | exact .inr (.inr rfl)))))))) (by decide)) (by dsimp only [S__law_cluster, Sx.blk]; decide +kernel)))) (dss_cons (ds_set 3 rfl (by first | exact .inl rfl | exact .inr rfl) (de_addL (de_var 3 rfl (by first | exact .inl rfl | exact .inr (.inl rfl) | exact .inr (.inr rfl))) (de_lc' (dlc (own := [(("_law_at" : Str), 7)]) (ns := [7]) (di_seq (de_var 6 rfl (by first | exact .inl rfl | exact .inr (.inl rfl) | exact .inr (.inr rfl)))) (dg_name 7 rfl (by first | exact .inl rfl | exact .inr rfl)) (dts_one (dt_nin (de_var 7 rfl (by first | exact .inl rfl | exact .inr (.inl rfl) | exact .inr (.inr rfl))) (de_var 3 rfl (by first | exact .inl rfl | exact .inr (.inl rfl) | exact .inr (.inr rfl))))) (de_var 7 rfl (by first | exact .inl rfl | exact .inr (.inl rfl) | exact .inr (.inr rfl))) (by decide)) (by dsimp only [S__law_cluster, Sx.blk]; decide +kernel))))
  dss_nil) dss_nil)
  dss_nil))
  (dss_cons (ds_if (dt_eq (db_len B rfl (de_var 3 rfl (by first | exact .inl rfl | exact .inr (.inl rfl) | exact .inr (.inr rfl)))) (de_var 5 rfl (by first | exact .inl rfl | exact .inr (.inl rfl) | exact .inr (.inr rfl)))) (dss_cons ds_break
  dss_nil) dss_nil)
  dss_nil))))
  (dss_cons (ds_ret (db_tuple B rfl (db_sortL B rfl (de_lc' (dlc (own := [(("_law_at" : Str), 7)]) (ns := [7]) (di_seq (de_var 3 rfl (by first | exact .inl rfl | exact .inr (.inl rfl) | exact .inr (.inr rfl)))) (dg_name 7 rfl (by first | exact .inl rfl | exact .inr rfl)) (dts_one (dt_w (dw_or (dt_eq (de_var 7 rfl (by first | exact .inl rfl | exact .inr (.inl rfl) | exact .inr (.inr rfl))) (de_var 2 rfl (by first | exact .inl rfl | exact .inr (.inl rfl) | exact .inr (.inr rfl)))) (dw_or1 (dt_nin (de_var 7 rfl (by first | exact .inl rfl | exact .inr (.inl rfl) | exact .inr (.inr rfl))) (de_var 1 rfl (by first | exact .inl rfl | exact .inr (.inl rfl) | exact .inr (.inr rfl)))))))) (de_var 7 rfl (by first | exact .inl rfl | exact .inr (.inl rfl) | exact .inr (.inr rfl))) (by decide)) (by dsimp only [S__law_cluster, Sx.blk]; decide +kernel)))))
  dss_nil)))
theorem sc__law_cluster : FnScope N__law_cluster ["_law_scopes_here", "_law_gone", "_law_thing"] (defScope s__law_cluster) := ⟨rfl, rfl, rfl, by decide +kernel, rfl, by decide +kernel, by decide +kernel⟩
abbrev N__law_size : List Str := ["_law_counts", "_law_lot", "_law_size_here", "_law_thing"]
abbrev S__law_size (P : Program) (w : World) (K : PySem.W.Frag) (mg : Str → Option Value) (base : Heap) : Sx := ⟨N__law_size, defScope s__law_size, fun _ => true, P, w, K, mg, base, 0⟩
def T__law_size : TSd := (sThen (sSet 2 (eC (.d (.int 1))))
  (sThen (sFor (iS true (eVar 1)) (gN 3) (sThen (sSet 2 (e2 fMul (eVar 2) (e2 fIx (eVar 0) (eVar 3))))
  sNil))
  (sThen (sRet (eVar 2))
  sNil)))
theorem walk__law_size (B : Bt mg) : DSs (S__law_size P w K mg base) (defBody s__law_size) T__law_size :=
  (dss_cons (ds_set 2 rfl (by first | exact .inl rfl | exact .inr rfl) de_int)
  (dss_cons (ds_for (ns := [3]) (di_seq (de_var 1 rfl (by first | exact .inl rfl | exact .inr (.inl rfl) | exact .inr (.inr rfl)))) (dg_name 3 rfl (by first | exact .inl rfl | exact .inr rfl)) (dss_cons (ds_set 2 rfl (by first | exact .inl rfl | exact .inr rfl) (de_mul (de_var 2 rfl (by first | exact .inl rfl | exact .inr (.inl rfl) | exact .inr (.inr rfl))) (de_ix (de_var 0 rfl (by first | exact .inl rfl | exact .inr (.inl rfl) | exact .inr (.inr rfl))) (de_var 3 rfl (by first | exact .inl rfl | exact .inr (.inl rfl) | exact .inr (.inr rfl))))))
  dss_nil))
  (dss_cons (ds_ret (de_var 2 rfl (by first | exact .inl rfl | exact .inr (.inl rfl) | exact .inr (.inr rfl))))
  dss_nil)))
theorem sc__law_size : FnScope N__law_size ["_law_counts", "_law_lot"] (defScope s__law_size) := ⟨rfl, rfl, rfl, by decide +kernel, rfl, by decide +kernel, by decide +kernel⟩
abbrev N__law_scopes : List Str := ["_law_heap_here", "_law_many", "_law_found", "_law_turn", "_law_some", "_law_again", "_law_thing"]
abbrev S__law_scopes (P : Program) (w : World) (K : PySem.W.Frag) (mg : Str → Option Value) (base : Heap) : Sx := ⟨N__law_scopes, defScope s__law_scopes, fun _ => true, P, w, K, mg, base, 2⟩
def T__law_scopes : TSd := (sThen (sIf (bAnd (eT (e2 fGt (eVar 1) (eC (.d (.int 2))))) (eT (e2 fEq (eCB (fCall sp__law_draw) (aCons (eVar 0) (aCons (eC (.d (.int 6))) aNil))) (eC (.d (.int 0)))))) (sThen (sRet (eTuple (eLc (iR (eVar 1)) (gN 6) bYes (eTuple (e1 fSortL (eLst (aCons (eVar 6) (aCons (e2 fMod (e1 fInt (e2 fAdd (eVar 6) (eC (.d (.int 1))))) (eVar 1)) aNil))))) [6])))
  sNil) sNil)
  (sThen (sSet 2 (eLst aNil))
  (sThen (sFor (iR (eCB (fCall sp__law_draw) (aCons (eVar 0) (aCons (e2 fAdd (eVar 1) (eC (.d (.int 3)))) aNil)))) (gN 3) (sThen (sSet 4 (eLst aNil))
  (sThen (sFor (iR (eCB (fCall sp__law_pick) (aCons (eVar 0) (aCons (eLst (aCons (eC (.d (.int 2))) (aCons (eC (.d (.int 2))) (aCons (eC (.d (.int 3))) (aCons (eC (.d (.int 3))) (aCons (eC (.d (.int 4))) (aCons (eC (.d (.int 1))) (aCons (eC (.d (.int 0))) aNil)))))))) aNil)))) (gN 5) (sThen (sSet 6 (eCB (fCall sp__law_draw) (aCons (eVar 0) (aCons (eVar 1) aNil))))
  (sThen (sIf (eT (e2 (fIn true) (eVar 6) (eVar 4))) (sThen (sApp 4 (eVar 6))
  sNil) sNil)
  sNil)))
  (sThen (sApp 2 (eTuple (e1 fSortL (eVar 4))))
  (sThen (sIf (eT (e2 fEq (eCB (fCall sp__law_draw) (aCons (eVar 0) (aCons (eC (.d (.int 9))) aNil))) (eC (.d (.int 0))))) (sThen (sApp 2 (e2 fIx (eVar 2) (eCB (fCall sp__law_draw) (aCons (eVar 0) (aCons (e1 fLen (eVar 2)) aNil)))))
  sNil) sNil)
  sNil)))))
  (sThen (sRet (eTuple (eVar 2)))
  sNil))))
theorem walk__law_scopes (B : Bt mg) (D__law_draw : DefW P w K mg base "_law_draw" 1 ["_law_heap_here", "_law_many"] sp__law_draw) (D__law_pick : DefW P w K mg base "_law_pick" 2 ["_law_heap_here", "_law_some"] sp__law_pick) : DSs (S__law_scopes P w K mg base) (defBody s__law_scopes) T__law_scopes :=
  (dss_cons (ds_if (dt_w (dw_and (dt_gt (de_var 1 rfl (by first | exact .inl rfl | exact .inr (.inl rfl) | exact .inr (.inr rfl))) de_int) (dw_and1 (dt_eq (de_call D__law_draw.at (by show 1 ≤ 2; decide) rfl (da_cons (de_var 0 rfl (by first | exact .inl rfl | exact .inr (.inl rfl) | exact .inr (.inr rfl))) (da_cons de_int da_nil)) rfl) de_int)))) (dss_cons (ds_ret (db_tuple B rfl (de_lc' (dlc (own := [(("_law_thing" : Str), 6)]) (ns := [6]) (dib_rng B rfl (de_var 1 rfl (by first | exact .inl rfl | exact .inr (.inl rfl) | exact .inr (.inr rfl)))) (dg_name 6 rfl (by first | exact .inl rfl | exact .inr rfl)) dts_nil (db_tuple B rfl (db_sortL B rfl (de_lst (da_cons (de_var 6 rfl (by first | exact .inl rfl | exact .inr (.inl rfl) | exact .inr (.inr rfl))) (da_cons (de_mod (db_int B rfl (de_add (de_var 6 rfl (by first | exact .inl rfl | exact .inr (.inl rfl) | exact .inr (.inr rfl))) de_int)) (de_var 1 rfl (by first | exact .inl rfl | exact .inr (.inl rfl) | exact .inr (.inr rfl)))) da_nil))))) (by decide)) (by dsimp only [S__law_scopes, Sx.blk]; decide +kernel))))
  dss_nil) dss_nil)
  (dss_cons (ds_set 2 rfl (by first | exact .inl rfl | exact .inr rfl) (de_lst da_nil))
  (dss_cons (ds_for (ns := [3]) (dib_rng B rfl (de_call D__law_draw.at (by show 1 ≤ 2; decide) rfl (da_cons (de_var 0 rfl (by first | exact .inl rfl | exact .inr (.inl rfl) | exact .inr (.inr rfl))) (da_cons (de_add (de_var 1 rfl (by first | exact .inl rfl | exact .inr (.inl rfl) | exact .inr (.inr rfl))) de_int) da_nil)) rfl)) (dg_name 3 rfl (by first | exact .inl rfl | exact .inr rfl)) (dss_cons (ds_set 4 rfl (by first | exact .inl rfl | exact .inr rfl) (de_lst da_nil))
  (dss_cons (ds_for (ns := [5]) (dib_rng B rfl (de_call D__law_pick.at (by show 2 ≤ 2; decide) rfl (da_cons (de_var 0 rfl (by first | exact .inl rfl | exact .inr (.inl rfl) | exact .inr (.inr rfl))) (da_cons (de_lst (da_cons de_int (da_cons de_int (da_cons de_int (da_cons de_int (da_cons de_int (da_cons de_int (da_cons de_int da_nil)))))))) da_nil)) rfl)) (dg_name 5 rfl (by first | exact .inl rfl | exact .inr rfl)) (dss_cons (ds_set 6 rfl (by first | exact .inl rfl | exact .inr rfl) (de_call D__law_draw.at (by show 1 ≤ 2; decide) rfl (da_cons (de_var 0 rfl (by first | exact .inl rfl | exact .inr (.inl rfl) | exact .inr (.inr rfl))) (da_cons (de_var 1 rfl (by first | exact .inl rfl | exact .inr (.inl rfl) | exact .inr (.inr rfl))) da_nil)) rfl))
  (dss_cons (ds_if (dt_nin (de_var 6 rfl (by first | exact .inl rfl | exact .inr (.inl rfl) | exact .inr (.inr rfl))) (de_var 4 rfl (by first | exact .inl rfl | exact .inr (.inl rfl) | exact .inr (.inr rfl)))) (dss_cons (ds_app 4 rfl (by first | exact .inl rfl | exact .inr (.inl rfl) | exact .inr (.inr rfl)) (de_var 6 rfl (by first | exact .inl rfl | exact .inr (.inl rfl) | exact .inr (.inr rfl))))
  dss_nil) dss_nil)
  dss_nil)))
  (dss_cons (ds_app 2 rfl (by first | exact .inl rfl | exact .inr (.inl rfl) | exact .inr (.inr rfl)) (db_tuple B rfl (db_sortL B rfl (de_var 4 rfl (by first | exact .inl rfl | exact .inr (.inl rfl) | exact .inr (.inr rfl))))))
  (dss_cons (ds_if (dt_eq (de_call D__law_draw.at (by show 1 ≤ 2; decide) rfl (da_cons (de_var 0 rfl (by first | exact .inl rfl | exact .inr (.inl rfl) | exact .inr (.inr rfl))) (da_cons de_int da_nil)) rfl) de_int) (dss_cons (ds_app 2 rfl (by first | exact .inl rfl | exact .inr (.inl rfl) | exact .inr (.inr rfl)) (de_ix (de_var 2 rfl (by first | exact .inl rfl | exact .inr (.inl rfl) | exact .inr (.inr rfl))) (de_call D__law_draw.at (by show 1 ≤ 2; decide) rfl (da_cons (de_var 0 rfl (by first | exact .inl rfl | exact .inr (.inl rfl) | exact .inr (.inr rfl))) (da_cons (db_len B rfl (de_var 2 rfl (by first | exact .inl rfl | exact .inr (.inl rfl) | exact .inr (.inr rfl)))) da_nil)) rfl)))
  dss_nil) dss_nil)
  dss_nil)))))
  (dss_cons (ds_ret (db_tuple B rfl (de_var 2 rfl (by first | exact .inl rfl | exact .inr (.inl rfl) | exact .inr (.inr rfl)))))
  dss_nil))))
theorem sc__law_scopes : FnScope N__law_scopes ["_law_heap_here", "_law_many"] (defScope s__law_scopes) := ⟨rfl, rfl, rfl, by decide +kernel, rfl, by decide +kernel, by decide +kernel⟩
abbrev N__law_net : List Str := ["_law_heap_here", "_law_many", "_law_at", "_law_things", "_law_counts", "_law_parents", "_law_again", "_law_count", "_law_name", "_law_parent"]
abbrev S__law_net (P : Program) (w : World) (K : PySem.W.Frag) (mg : Str → Option Value) (base : Heap) : Sx := ⟨N__law_net, defScope s__law_net, fun _ => true, P, w, K, mg, base, 2⟩
def T__law_net : TSd := (sThen (sPar 3 4 (aCons (eLst aNil) (aCons (eLst aNil) aNil)))
  (sThen (sFor (iR (eVar 1)) (gN 2) (sThen (sSet 5 (eLst aNil))
  (sThen (sFor (iR (eCB (fCall sp__law_draw) (aCons (eVar 0) (aCons (eC (.d (.int 4))) aNil)))) (gN 6) (sThen (sSet 9 (eCB (fCall sp__law_draw) (aCons (eVar 0) (aCons (e2 fAdd (eVar 2) (eC (.d (.int 1)))) aNil))))
  (sThen (sIf (bAnd (eT (e2 fLt (eVar 9) (eVar 2))) (eT (e2 (fIn true) (eVar 9) (eVar 5)))) (sThen (sApp 5 (eVar 9))
  sNil) sNil)
  sNil)))
  (sThen (sSet 7 (e2 fAdd (eC (.d (.int 2))) (e1 fInt (e2 fEq (eCB (fCall sp__law_draw) (aCons (eVar 0) (aCons (eC (.d (.int 5))) aNil))) (eC (.d (.int 0)))))))
  (sThen (sSet 8 (e2 fAddS (e2 fIxS (eC (.d (.str ("abcdefgh" : Str)))) (eVar 2)) (eCB (fCall sp__law_pick) (aCons (eVar 0) (aCons (eLst (aCons (eC (.d (.str ("" : Str)))) (aCons (eC (.d (.str ("a" : Str)))) (aCons (eC (.d (.str ("zz" : Str)))) aNil)))) aNil)))))
  (sThen (sApp 3 (eTup (aCons (eVar 8) (aCons (eVar 7) (aCons (eTuple (e1 fSortL (eVar 5))) (aCons (e2 fRep1 (eTup (aCons (e2 fRep1 (eTup (aCons (eTup (aCons (eC (.d (.int 1))) (aCons (eVar 7) aNil))) aNil)) (eVar 7)) aNil)) (eCB (fCall sp__law_size) (aCons (eVar 4) (aCons (eVar 5) aNil)))) aNil))))))
  (sThen (sApp 4 (eVar 7))
  sNil)))))))
  (sThen (sRet (eTuple (eVar 3)))
  sNil)))
theorem walk__law_net (B : Bt mg) (D__law_draw : DefW P w K mg base "_law_draw" 1 ["_law_heap_here", "_law_many"] sp__law_draw) (D__law_pick : DefW P w K mg base "_law_pick" 2 ["_law_heap_here", "_law_some"] sp__law_pick) (D__law_size : DefW P w K mg base "_law_size" 1 ["_law_counts", "_law_lot"] sp__law_size) : DSs (S__law_net P w K mg base) (defBody s__law_net) T__law_net :=
  (dss_cons (ds_par 3 4 rfl rfl (by decide) rfl rfl (da_cons (de_lst da_nil) (da_cons (de_lst da_nil) da_nil)) (by intro env h; cases env; dsimp only at h; subst h; rfl))
  (dss_cons (ds_for (ns := [2]) (dib_rng B rfl (de_var 1 rfl (by first | exact .inl rfl | exact .inr (.inl rfl) | exact .inr (.inr rfl)))) (dg_name 2 rfl (by first | exact .inl rfl | exact .inr rfl)) (dss_cons (ds_set 5 rfl (by first | exact .inl rfl | exact .inr rfl) (de_lst da_nil))
  (dss_cons (ds_for (ns := [6]) (dib_rng B rfl (de_call D__law_draw.at (by show 1 ≤ 2; decide) rfl (da_cons (de_var 0 rfl (by first | exact .inl rfl | exact .inr (.inl rfl) | exact .inr (.inr rfl))) (da_cons de_int da_nil)) rfl)) (dg_name 6 rfl (by first | exact .inl rfl | exact .inr rfl)) (dss_cons (ds_set 9 rfl (by first | exact .inl rfl | exact .inr rfl) (de_call D__law_draw.at (by show 1 ≤ 2; decide) rfl (da_cons (de_var 0 rfl (by first | exact .inl rfl | exact .inr (.inl rfl) | exact .inr (.inr rfl))) (da_cons (de_add (de_var 2 rfl (by first | exact .inl rfl | exact .inr (.inl rfl) | exact .inr (.inr rfl))) de_int) da_nil)) rfl))
  (dss_cons (ds_if (dt_w (dw_and (dt_lt (de_var 9 rfl (by first | exact .inl rfl | exact .inr (.inl rfl) | exact .inr (.inr rfl))) (de_var 2 rfl (by first | exact .inl rfl | exact .inr (.inl rfl) | exact .inr (.inr rfl)))) (dw_and1 (dt_nin (de_var 9 rfl (by first | exact .inl rfl | exact .inr (.inl rfl) | exact .inr (.inr rfl))) (de_var 5 rfl (by first | exact .inl rfl | exact .inr (.inl rfl) | exact .inr (.inr rfl))))))) (dss_cons (ds_app 5 rfl (by first | exact .inl rfl | exact .inr (.inl rfl) | exact .inr (.inr rfl)) (de_var 9 rfl (by first | exact .inl rfl | exact .inr (.inl rfl) | exact .inr (.inr rfl))))
  dss_nil) dss_nil)
  dss_nil)))
  (dss_cons (ds_set 7 rfl (by first | exact .inl rfl | exact .inr rfl) (de_add de_int (db_int B rfl (de_eq (de_call D__law_draw.at (by show 1 ≤ 2; decide) rfl (da_cons (de_var 0 rfl (by first | exact .inl rfl | exact .inr (.inl rfl) | exact .inr (.inr rfl))) (da_cons de_int da_nil)) rfl) de_int))))
  (dss_cons (ds_set 8 rfl (by first | exact .inl rfl | exact .inr rfl) (de_addS (de_ixS de_str (de_var 2 rfl (by first | exact .inl rfl | exact .inr (.inl rfl) | exact .inr (.inr rfl)))) (de_call D__law_pick.at (by show 2 ≤ 2; decide) rfl (da_cons (de_var 0 rfl (by first | exact .inl rfl | exact .inr (.inl rfl) | exact .inr (.inr rfl))) (da_cons (de_lst (da_cons de_str (da_cons de_str (da_cons de_str da_nil)))) da_nil)) rfl)))
  (dss_cons (ds_app 3 rfl (by first | exact .inl rfl | exact .inr (.inl rfl) | exact .inr (.inr rfl)) (de_tup (da_cons (de_var 8 rfl (by first | exact .inl rfl | exact .inr (.inl rfl) | exact .inr (.inr rfl))) (da_cons (de_var 7 rfl (by first | exact .inl rfl | exact .inr (.inl rfl) | exact .inr (.inr rfl))) (da_cons (db_tuple B rfl (db_sortL B rfl (de_var 5 rfl (by first | exact .inl rfl | exact .inr (.inl rfl) | exact .inr (.inr rfl))))) (da_cons (de_rep1 (de_tup (da_cons (de_rep1 (de_tup (da_cons (de_tup (da_cons de_int (da_cons (de_var 7 rfl (by first | exact .inl rfl | exact .inr (.inl rfl) | exact .inr (.inr rfl))) da_nil))) da_nil)) (de_var 7 rfl (by first | exact .inl rfl | exact .inr (.inl rfl) | exact .inr (.inr rfl)))) da_nil)) (de_call D__law_size.at (by show 1 ≤ 2; decide) rfl (da_cons (de_var 4 rfl (by first | exact .inl rfl | exact .inr (.inl rfl) | exact .inr (.inr rfl))) (da_cons (de_var 5 rfl (by first | exact .inl rfl | exact .inr (.inl rfl) | exact .inr (.inr rfl))) da_nil)) rfl)) da_nil))))))
  (dss_cons (ds_app 4 rfl (by first | exact .inl rfl | exact .inr (.inl rfl) | exact .inr (.inr rfl)) (de_var 7 rfl (by first | exact .inl rfl | exact .inr (.inl rfl) | exact .inr (.inr rfl))))
  dss_nil)))))))
  (dss_cons (ds_ret (db_tuple B rfl (de_var 3 rfl (by first | exact .inl rfl | exact .inr (.inl rfl) | exact .inr (.inr rfl)))))
  dss_nil)))
theorem sc__law_net : FnScope N__law_net ["_law_heap_here", "_law_many"] (defScope s__law_net) := ⟨rfl, rfl, rfl, by decide +kernel, rfl, by decide +kernel, by decide +kernel⟩
abbrev N__law_joined : List Str := ["_law_scopes_here", "_law_thing", "_law_found", "_law_scope", "_law_other"]
abbrev S__law_joined (P : Program) (w : World) (K : PySem.W.Frag) (mg : Str → Option Value) (base : Heap) : Sx := ⟨N__law_joined, defScope s__law_joined, fun _ => true, P, w, K, mg, base, 0⟩
def T__law_joined : TSd := (sThen (sSet 2 (eLst (aCons (eVar 1) aNil)))
  (sThen (sFor (iS true (eVar 0)) (gN 3) (sThen (sIf (eT (e2 (fIn false) (eVar 1) (eVar 3))) (sThen (sSet 2 (e2 fAddL (eVar 2) (eLc (iS false (eVar 3)) (gN 4) (eT (e2 (fIn true) (eVar 4) (eVar 2))) (eVar 4) [4])))
  sNil) sNil)
  sNil))
  (sThen (sRet (eTuple (e1 fSortL (eVar 2))))
  sNil)))
theorem walk__law_joined (B : Bt mg) : DSs (S__law_joined P w K mg base) (defBody s__law_joined) T__law_joined :=
  (dss_cons (ds_set 2 rfl (by first | exact .inl rfl | exact .inr rfl) (de_lst (da_cons (de_var 1 rfl (by first | exact .inl rfl | exact .inr (.inl rfl) | exact .inr (.inr rfl))) da_nil)))
  (dss_cons (ds_for (ns := [3]) (di_seq (de_var 0 rfl (by first | exact .inl rfl | exact .inr (.inl rfl) | exact .inr (.inr rfl)))) (dg_name 3 rfl (by first | exact .inl rfl | exact .inr rfl)) (dss_cons (ds_if (dt_in (de_var 1 rfl (by first | exact .inl rfl | exact .inr (.inl rfl) | exact .inr (.inr rfl))) (de_var 3 rfl (by first | exact .inl rfl | exact .inr (.inl rfl) | exact .inr (.inr rfl)))) (dss_cons (ds_set 2 rfl (by first | exact .inl rfl | exact .inr rfl) (de_addL (de_var 2 rfl (by first | exact .inl rfl | exact .inr (.inl rfl) | exact .inr (.inr rfl))) (de_lc' (dlc (own := [(("_law_other" : Str), 4)]) (ns := [4]) (di_seq (de_var 3 rfl (by first | exact .inl rfl | exact .inr (.inl rfl) | exact .inr (.inr rfl)))) (dg_name 4 rfl (by first | exact .inl rfl | exact .inr rfl)) (dts_one (dt_nin (de_var 4 rfl (by first | exact .inl rfl | exact .inr (.inl rfl) | exact .inr (.inr rfl))) (de_var 2 rfl (by first | exact .inl rfl | exact .inr (.inl rfl) | exact .inr (.inr rfl))))) (de_var 4 rfl (by first | exact .inl rfl | exact .inr (.inl rfl) | exact .inr (.inr rfl))) (by decide)) (by dsimp only [S__law_joined, Sx.blk]; decide +kernel))))
  dss_nil) dss_nil)
  dss_nil))
  (dss_cons (ds_ret (db_tuple B rfl (db_sortL B rfl (de_var 2 rfl (by first | exact .inl rfl | exact .inr (.inl rfl) | exact .inr (.inr rfl))))))
  dss_nil)))
theorem sc__law_joined : FnScope N__law_joined ["_law_scopes_here", "_law_thing"] (defScope s__law_joined) := ⟨rfl, rfl, rfl, by decide +kernel, rfl, by decide +kernel, by decide +kernel⟩
abbrev N__law_left : List Str := ["_law_scopes_here", "_law_sequence", "_law_left_here", "_law_thing", "_law_joined_here", "_law_other", "_law_scope"]
abbrev S__law_left (P : Program) (w : World) (K : PySem.W.Frag) (mg : Str → Option Value) (base : Heap) : Sx := ⟨N__law_left, defScope s__law_left, fun _ => true, P, w, K, mg, base, 1⟩
def T__law_left : TSd := (sThen (sSet 2 (e1 fList (eVar 0)))
  (sThen (sFor (iS true (eVar 1)) (gN 3) (sThen (sSet 4 (eTuple (eLc (iS false (eCB (fCall sp__law_joined) (aCons (eVar 2) (aCons (eVar 3) aNil)))) (gN 5) (eT (e2 fNe (eVar 5) (eVar 3))) (eVar 5) [5])))
  (sThen (sSet 2 (e2 fAddL (eLc (iS false (eVar 2)) (gN 6) (eT (e2 (fIn true) (eVar 3) (eVar 6))) (eVar 6) [6]) (eLst (aCons (eVar 4) aNil))))
  sNil)))
  (sThen (sRet (eTuple (eVar 2)))
  sNil)))
theorem walk__law_left (B : Bt mg) (D__law_joined : DefW P w K mg base "_law_joined" 1 ["_law_scopes_here", "_law_thing"] sp__law_joined) : DSs (S__law_left P w K mg base) (defBody s__law_left) T__law_left :=
  (dss_cons (ds_set 2 rfl (by first | exact .inl rfl | exact .inr rfl) (db_list B rfl (de_var 0 rfl (by first | exact .inl rfl | exact .inr (.inl rfl) | exact .inr (.inr rfl)))))
  (dss_cons (ds_for (ns := [3]) (di_seq (de_var 1 rfl (by first | exact .inl rfl | exact .inr (.inl rfl) | exact .inr (.inr rfl)))) (dg_name 3 rfl (by first | exact .inl rfl | exact .inr rfl)) (dss_cons (ds_set 4 rfl (by first | exact .inl rfl | exact .inr rfl) (db_tuple B rfl (de_lc' (dlc (own := [(("_law_other" : Str), 5)]) (ns := [5]) (di_seq (de_call D__law_joined.at (by show 1 ≤ 1; decide) rfl (da_cons (de_var 2 rfl (by first | exact .inl rfl | exact .inr (.inl rfl) | exact .inr (.inr rfl))) (da_cons (de_var 3 rfl (by first | exact .inl rfl | exact .inr (.inl rfl) | exact .inr (.inr rfl))) da_nil)) rfl)) (dg_name 5 rfl (by first | exact .inl rfl | exact .inr rfl)) (dts_one (dt_ne (de_var 5 rfl (by first | exact .inl rfl | exact .inr (.inl rfl) | exact .inr (.inr rfl))) (de_var 3 rfl (by first | exact .inl rfl | exact .inr (.inl rfl) | exact .inr (.inr rfl))))) (de_var 5 rfl (by first | exact .inl rfl | exact .inr (.inl rfl) | exact .inr (.inr rfl))) (by decide)) (by dsimp only [S__law_left, Sx.blk]; decide +kernel))))
  (dss_cons (ds_set 2 rfl (by first | exact .inl rfl | exact .inr rfl) (de_addL (de_lc' (dlc (own := [(("_law_scope" : Str), 6)]) (ns := [6]) (di_seq (de_var 2 rfl (by first | exact .inl rfl | exact .inr (.inl rfl) | exact .inr (.inr rfl)))) (dg_name 6 rfl (by first | exact .inl rfl | exact .inr rfl)) (dts_one (dt_nin (de_var 3 rfl (by first | exact .inl rfl | exact .inr (.inl rfl) | exact .inr (.inr rfl))) (de_var 6 rfl (by first | exact .inl rfl | exact .inr (.inl rfl) | exact .inr (.inr rfl))))) (de_var 6 rfl (by first | exact .inl rfl | exact .inr (.inl rfl) | exact .inr (.inr rfl))) (by decide)) (by dsimp only [S__law_left, Sx.blk]; decide +kernel)) (de_lst (da_cons (de_var 4 rfl (by first | exact .inl rfl | exact .inr (.inl rfl) | exact .inr (.inr rfl))) da_nil))))
  dss_nil)))
  (dss_cons (ds_ret (db_tuple B rfl (de_var 2 rfl (by first | exact .inl rfl | exact .inr (.inl rfl) | exact .inr (.inr rfl)))))
  dss_nil)))
theorem sc__law_left : FnScope N__law_left ["_law_scopes_here", "_law_sequence"] (defScope s__law_left) := ⟨rfl, rfl, rfl, by decide +kernel, rfl, by decide +kernel, by decide +kernel⟩
abbrev N__law_flows : List Str := ["_law_clusters_here", "_law_sequence", "_law_found", "_law_place", "_law_cluster_here", "_law_later", "_law_other"]
abbrev S__law_flows (P : Program) (w : World) (K : PySem.W.Frag) (mg : Str → Option Value) (base : Heap) : Sx := ⟨N__law_flows, defScope s__law_flows, fun _ => true, P, w, K, mg, base, 0⟩
def T__law_flows : TSd := (sThen (sSet 2 (eLst aNil))
  (sThen (sFor (iE true (eVar 0)) (gT (gsCons (gN 3) (gsCons (gN 4) gsNil))) (sThen (sSet 5 (eLc (iS false (eSlT (eVar 1) (oSome (e2 fAdd (eVar 3) (eC (.d (.int 1))))) oNone)) (gN 6) (eT (e2 (fIn false) (eVar 6) (eVar 4))) (eVar 6) [6]))
  (sThen (sApp 2 (eIf (eT (e2 fNe (eVar 5) (eLst aNil))) (e2 fIx (eVar 5) (eC (.d (.int 0)))) (eC (.d .none))))
  sNil)))
  (sThen (sRet (eTuple (eVar 2)))
  sNil)))
theorem walk__law_flows (B : Bt mg) : DSs (S__law_flows P w K mg base) (defBody s__law_flows) T__law_flows :=
  (dss_cons (ds_set 2 rfl (by first | exact .inl rfl | exact .inr rfl) (de_lst da_nil))
  (dss_cons (ds_for (ns := [3, 4]) (dib_enum B rfl (de_var 0 rfl (by first | exact .inl rfl | exact .inr (.inl rfl) | exact .inr (.inr rfl)))) (dg_tup2 (dg_name 3 rfl (by first | exact .inl rfl | exact .inr rfl)) (dg_name 4 rfl (by first | exact .inl rfl | exact .inr rfl))) (dss_cons (ds_setLc 5 rfl rfl rfl (dlc (own := [(("_law_other" : Str), 6)]) (ns := [6]) (di_seq (de_slT (de_var 1 rfl (by first | exact .inl rfl | exact .inr (.inl rfl) | exact .inr (.inr rfl))) (do_some (de_add (de_var 3 rfl (by first | exact .inl rfl | exact .inr (.inl rfl) | exact .inr (.inr rfl))) de_int)) do_none)) (dg_name 6 rfl (by first | exact .inl rfl | exact .inr rfl)) (dts_one (dt_in (de_var 6 rfl (by first | exact .inl rfl | exact .inr (.inl rfl) | exact .inr (.inr rfl))) (de_var 4 rfl (by first | exact .inl rfl | exact .inr (.inl rfl) | exact .inr (.inr rfl))))) (de_var 6 rfl (by first | exact .inl rfl | exact .inr (.inl rfl) | exact .inr (.inr rfl))) (by decide)) (by dsimp only [S__law_flows, Sx.blk]; decide +kernel) (by decide +kernel) (by decide +kernel))
  (dss_cons (ds_app 2 rfl (by first | exact .inl rfl | exact .inr (.inl rfl) | exact .inr (.inr rfl)) (de_if (dt_ne (de_var 5 rfl (by first | exact .inl rfl | exact .inr (.inl rfl) | exact .inr (.inr rfl))) (de_lst da_nil)) (de_ix (de_var 5 rfl (by first | exact .inl rfl | exact .inr (.inl rfl) | exact .inr (.inr rfl))) de_int) de_non))
  dss_nil)))
  (dss_cons (ds_ret (db_tuple B rfl (de_var 2 rfl (by first | exact .inl rfl | exact .inr (.inl rfl) | exact .inr (.inr rfl)))))
  dss_nil)))
theorem sc__law_flows : FnScope N__law_flows ["_law_clusters_here", "_law_sequence"] (defScope s__law_flows) := ⟨rfl, rfl, rfl, by decide +kernel, rfl, by decide +kernel, by decide +kernel⟩
abbrev N__law_flowing : List Str := ["_law_heap_here", "_law_flows_here", "_law_sequence", "_law_least", "_law_turn", "_law_left_here", "_law_found", "_law_awaited", "_law_ready", "_law_thing", "_law_flow"]
abbrev S__law_flowing (P : Program) (w : World) (K : PySem.W.Frag) (mg : Str → Option Value) (base : Heap) : Sx := ⟨N__law_flowing, defScope s__law_flowing, fun _ => true, P, w, K, mg, base, 2⟩
def T__law_flowing : TSd := (sThen (sPar 5 6 (aCons (e1 fSortT (eVar 2)) (aCons (eLst aNil) aNil)))
  (sThen (sFor (iR (e1 fLen (eVar 2))) (gN 4) (sThen (sSet 7 (eLc (iZ (eVar 2) (eVar 1)) (gT (gsCons (gN 9) (gsCons (gN 10) gsNil))) (eT (e2 (fIn false) (eVar 9) (eVar 5))) (eVar 10) [9, 10]))
  (sThen (sSet 8 (eLc (iS false (eVar 5)) (gN 9) (eT (e2 (fIn true) (eVar 9) (eVar 7))) (eVar 9) [9]))
  (sThen (sSet 9 (eIf (eT (eVar 3)) (e2 fIx (eVar 8) (eC (.d (.int 0)))) (eCB (fCall sp__law_pick) (aCons (eVar 0) (aCons (eVar 8) aNil)))))
  (sThen (sRem 5 (eVar 9))
  (sThen (sApp 6 (eVar 9))
  sNil))))))
  (sThen (sRet (eTupleN (eVar 6)))
  sNil)))
theorem walk__law_flowing (B : Bt mg) (D__law_pick : DefW P w K mg base "_law_pick" 2 ["_law_heap_here", "_law_some"] sp__law_pick) : DSs (S__law_flowing P w K mg base) (defBody s__law_flowing) T__law_flowing :=
  (dss_cons (ds_parC 5 6 rfl rfl (by first | exact .inl rfl | exact .inr rfl) (by first | exact .inl rfl | exact .inr rfl) (da_cons (db_sortT B rfl (de_var 2 rfl (by first | exact .inl rfl | exact .inr (.inl rfl) | exact .inr (.inr rfl)))) (da_cons (de_lst da_nil) da_nil)) (by intro env h; cases env; dsimp only at h; subst h; rfl))
  (dss_cons (ds_for (ns := [4]) (dib_rng B rfl (db_len B rfl (de_var 2 rfl (by first | exact .inl rfl | exact .inr (.inl rfl) | exact .inr (.inr rfl))))) (dg_name 4 rfl (by first | exact .inl rfl | exact .inr rfl)) (dss_cons (ds_set 7 rfl (by first | exact .inl rfl | exact .inr rfl) (de_lc' (dlc (own := [(("_law_thing" : Str), 9), (("_law_flow" : Str), 10)]) (ns := [9, 10]) (dib_zip B rfl (de_var 2 rfl (by first | exact .inl rfl | exact .inr (.inl rfl) | exact .inr (.inr rfl))) (de_var 1 rfl (by first | exact .inl rfl | exact .inr (.inl rfl) | exact .inr (.inr rfl)))) (dg_tup2 (dg_name 9 rfl (by first | exact .inl rfl | exact .inr rfl)) (dg_name 10 rfl (by first | exact .inl rfl | exact .inr rfl))) (dts_one (dt_in (de_var 9 rfl (by first | exact .inl rfl | exact .inr (.inl rfl) | exact .inr (.inr rfl))) (de_var 5 rfl (by first | exact .inl rfl | exact .inr (.inl rfl) | exact .inr (.inr rfl))))) (de_var 10 rfl (by first | exact .inl rfl | exact .inr (.inl rfl) | exact .inr (.inr rfl))) (by decide)) (by dsimp only [S__law_flowing, Sx.blk]; decide +kernel)) (hs := by intro env h; cases env; dsimp only at h; subst h; rfl))
  (dss_cons (ds_setLc 8 rfl rfl rfl (dlc (own := [(("_law_thing" : Str), 9)]) (ns := [9]) (di_seq (de_var 5 rfl (by first | exact .inl rfl | exact .inr (.inl rfl) | exact .inr (.inr rfl)))) (dg_name 9 rfl (by first | exact .inl rfl | exact .inr rfl)) (dts_one (dt_nin (de_var 9 rfl (by first | exact .inl rfl | exact .inr (.inl rfl) | exact .inr (.inr rfl))) (de_var 7 rfl (by first | exact .inl rfl | exact .inr (.inl rfl) | exact .inr (.inr rfl))))) (de_var 9 rfl (by first | exact .inl rfl | exact .inr (.inl rfl) | exact .inr (.inr rfl))) (by decide)) (by dsimp only [S__law_flowing, Sx.blk]; decide +kernel) (by decide +kernel) (by decide +kernel))
  (dss_cons (ds_set 9 rfl (by first | exact .inl rfl | exact .inr rfl) (de_if (dt_val (de_var 3 rfl (by first | exact .inl rfl | exact .inr (.inl rfl) | exact .inr (.inr rfl)))) (de_ix (de_var 8 rfl (by first | exact .inl rfl | exact .inr (.inl rfl) | exact .inr (.inr rfl))) de_int) (de_call D__law_pick.at (by show 2 ≤ 2; decide) rfl (da_cons (de_var 0 rfl (by first | exact .inl rfl | exact .inr (.inl rfl) | exact .inr (.inr rfl))) (da_cons (de_var 8 rfl (by first | exact .inl rfl | exact .inr (.inl rfl) | exact .inr (.inr rfl))) da_nil)) rfl)))
  (dss_cons (ds_rem 5 rfl (by first | exact .inl rfl | exact .inr (.inl rfl) | exact .inr (.inr rfl)) (de_var 9 rfl (by first | exact .inl rfl | exact .inr (.inl rfl) | exact .inr (.inr rfl))))
  (dss_cons (ds_app 6 rfl (by first | exact .inl rfl | exact .inr (.inl rfl) | exact .inr (.inr rfl)) (de_var 9 rfl (by first | exact .inl rfl | exact .inr (.inl rfl) | exact .inr (.inr rfl))))
  dss_nil))))))
  (dss_cons (ds_ret (db_tupleN B rfl (de_var 6 rfl (by first | exact .inl rfl | exact .inr (.inl rfl) | exact .inr (.inr rfl)))))
  dss_nil)))
theorem sc__law_flowing : FnScope N__law_flowing ["_law_heap_here", "_law_flows_here", "_law_sequence", "_law_least"] (defScope s__law_flowing) := ⟨rfl, rfl, rfl, by decide +kernel, rfl, by decide +kernel, by decide +kernel⟩
abbrev N__law_greedy : List Str := ["_law_counts", "_law_scopes_here", "_law_lot", "_law_turn", "_law_left_here", "_law_found", "_law_sizes", "_law_thing"]
abbrev S__law_greedy (P : Program) (w : World) (K : PySem.W.Frag) (mg : Str → Option Value) (base : Heap) : Sx := ⟨N__law_greedy, defScope s__law_greedy, fun _ => true, P, w, K, mg, base, 1⟩
def T__law_greedy : TSd := (sThen (sPar 4 5 (aCons (e1 fList (eVar 2)) (aCons (eTup aNil) aNil)))
  (sThen (sFor (iR (e1 fLen (eVar 2))) (gN 3) (sThen (sSet 6 (eLc (iS false (eVar 4)) (gN 7) bYes (eCB (fCall sp__law_size) (aCons (eVar 0) (aCons (eCB (fCall sp__law_cluster) (aCons (eVar 1) (aCons (eVar 5) (aCons (eVar 7) aNil)))) aNil))) [7]))
  (sThen (sSet 7 (e2 fIx (eVar 4) (eLix (eVar 6) (e1 fMinI (eVar 6)))))
  (sThen (sRem 4 (eVar 7))
  (sThen (sSet 5 (e2 fAddT (eVar 5) (eTup (aCons (eVar 7) aNil))))
  sNil)))))
  (sThen (sRet (eVar 5))
  sNil)))
theorem walk__law_greedy (B : Bt mg) (D__law_cluster : DefW P w K mg base "_law_cluster" 1 ["_law_scopes_here", "_law_gone", "_law_thing"] sp__law_cluster) (D__law_size : DefW P w K mg base "_law_size" 1 ["_law_counts", "_law_lot"] sp__law_size) : DSs (S__law_greedy P w K mg base) (defBody s__law_greedy) T__law_greedy :=
  (dss_cons (ds_parC 4 5 rfl rfl (by first | exact .inl rfl | exact .inr rfl) (by first | exact .inl rfl | exact .inr rfl) (da_cons (db_list B rfl (de_var 2 rfl (by first | exact .inl rfl | exact .inr (.inl rfl) | exact .inr (.inr rfl)))) (da_cons (de_tup da_nil) da_nil)) (by intro env h; cases env; dsimp only at h; subst h; rfl))
  (dss_cons (ds_for (ns := [3]) (dib_rng B rfl (db_len B rfl (de_var 2 rfl (by first | exact .inl rfl | exact .inr (.inl rfl) | exact .inr (.inr rfl))))) (dg_name 3 rfl (by first | exact .inl rfl | exact .inr rfl)) (dss_cons (ds_setLc 6 rfl rfl rfl (dlc (own := [(("_law_thing" : Str), 7)]) (ns := [7]) (di_seq (de_var 4 rfl (by first | exact .inl rfl | exact .inr (.inl rfl) | exact .inr (.inr rfl)))) (dg_name 7 rfl (by first | exact .inl rfl | exact .inr rfl)) dts_nil (de_call D__law_size.at (by show 1 ≤ 1; decide) rfl (da_cons (de_var 0 rfl (by first | exact .inl rfl | exact .inr (.inl rfl) | exact .inr (.inr rfl))) (da_cons (de_call D__law_cluster.at (by show 1 ≤ 1; decide) rfl (da_cons (de_var 1 rfl (by first | exact .inl rfl | exact .inr (.inl rfl) | exact .inr (.inr rfl))) (da_cons (de_var 5 rfl (by first | exact .inl rfl | exact .inr (.inl rfl) | exact .inr (.inr rfl))) (da_cons (de_var 7 rfl (by first | exact .inl rfl | exact .inr (.inl rfl) | exact .inr (.inr rfl))) da_nil))) rfl) da_nil)) rfl) (by decide)) (by dsimp only [S__law_greedy, Sx.blk]; decide +kernel) (by decide +kernel) (by decide +kernel))
  (dss_cons (ds_set 7 rfl (by first | exact .inl rfl | exact .inr rfl) (de_ix (de_var 4 rfl (by first | exact .inl rfl | exact .inr (.inl rfl) | exact .inr (.inr rfl))) (de_lix (de_var 6 rfl (by first | exact .inl rfl | exact .inr (.inl rfl) | exact .inr (.inr rfl))) (db_minI B rfl (de_var 6 rfl (by first | exact .inl rfl | exact .inr (.inl rfl) | exact .inr (.inr rfl)))))))
  (dss_cons (ds_rem 4 rfl (by first | exact .inl rfl | exact .inr (.inl rfl) | exact .inr (.inr rfl)) (de_var 7 rfl (by first | exact .inl rfl | exact .inr (.inl rfl) | exact .inr (.inr rfl))))
  (dss_cons (ds_set 5 rfl (by first | exact .inl rfl | exact .inr rfl) (de_addT (de_var 5 rfl (by first | exact .inl rfl | exact .inr (.inl rfl) | exact .inr (.inr rfl))) (de_tup (da_cons (de_var 7 rfl (by first | exact .inl rfl | exact .inr (.inl rfl) | exact .inr (.inr rfl))) da_nil))))
  dss_nil)))))
  (dss_cons (ds_ret (de_var 5 rfl (by first | exact .inl rfl | exact .inr (.inl rfl) | exact .inr (.inr rfl))))
  dss_nil)))
theorem sc__law_greedy : FnScope N__law_greedy ["_law_counts", "_law_scopes_here", "_law_lot"] (defScope s__law_greedy) := ⟨rfl, rfl, rfl, by decide +kernel, rfl, by decide +kernel, by decide +kernel⟩
abbrev N__law_clusters : List Str := ["_law_scopes_here", "_law_sequence", "_law_place", "_law_thing"]
abbrev S__law_clusters (P : Program) (w : World) (K : PySem.W.Frag) (mg : Str → Option Value) (base : Heap) : Sx := ⟨N__law_clusters, defScope s__law_clusters, fun _ => true, P, w, K, mg, base, 1⟩
def T__law_clusters : TSd := (sThen (sRet (eTuple (eLc (iE false (eVar 1)) (gT (gsCons (gN 2) (gsCons (gN 3) gsNil))) bYes (eCB (fCall sp__law_cluster) (aCons (eVar 0) (aCons (eSlT (eVar 1) oNone (oSome (eVar 2))) (aCons (eVar 3) aNil)))) [2, 3])))
  sNil)
theorem walk__law_clusters (B : Bt mg) (D__law_cluster : DefW P w K mg base "_law_cluster" 1 ["_law_scopes_here", "_law_gone", "_law_thing"] sp__law_cluster) : DSs (S__law_clusters P w K mg base) (defBody s__law_clusters) T__law_clusters :=
  (dss_cons (ds_ret (db_tuple B rfl (de_lc' (dlc (own := [(("_law_place" : Str), 2), (("_law_thing" : Str), 3)]) (ns := [2, 3]) (dib_enum B rfl (de_var 1 rfl (by first | exact .inl rfl | exact .inr (.inl rfl) | exact .inr (.inr rfl)))) (dg_tup2 (dg_name 2 rfl (by first | exact .inl rfl | exact .inr rfl)) (dg_name 3 rfl (by first | exact .inl rfl | exact .inr rfl))) dts_nil (de_call D__law_cluster.at (by show 1 ≤ 1; decide) rfl (da_cons (de_var 0 rfl (by first | exact .inl rfl | exact .inr (.inl rfl) | exact .inr (.inr rfl))) (da_cons (de_slT (de_var 1 rfl (by first | exact .inl rfl | exact .inr (.inl rfl) | exact .inr (.inr rfl))) do_none (do_some (de_var 2 rfl (by first | exact .inl rfl | exact .inr (.inl rfl) | exact .inr (.inr rfl))))) (da_cons (de_var 3 rfl (by first | exact .inl rfl | exact .inr (.inl rfl) | exact .inr (.inr rfl))) da_nil))) rfl) (by decide)) (by dsimp only [S__law_clusters, Sx.blk]; decide +kernel))))
  dss_nil)
theorem sc__law_clusters : FnScope N__law_clusters ["_law_scopes_here", "_law_sequence"] (defScope s__law_clusters) := ⟨rfl, rfl, rfl, by decide +kernel, rfl, by decide +kernel, by decide +kernel⟩
abbrev N__law_costs_right : List Str := ["_law_counts", "_law_scopes_here", "_law_sequence", "_law_clusters_here", "_law_sizes", "_law_place", "_law_cluster_here", "_law_left_here"]
abbrev S__law_costs_right (P : Program) (w : World) (K : PySem.W.Frag) (mg : Str → Option Value) (base : Heap) : Sx := ⟨N__law_costs_right, defScope s__law_costs_right, fun _ => true, P, w, K, mg, base, 5⟩
def T__law_costs_right : TSd := (sThen (sIf (bOr (eT (e2 fNeS (e1 fRepr (eCB (fCall sp_clusters_by) (aCons (eVar 1) (aCons (eVar 2) aNil)))) (e1 fRepr (eVar 3)))) (eT (e2 fNe (eCB (fun rs => fCall sp_clusters_by rs.reverse) (aCons (eVar 2) (aCons (eVar 1) aNil))) (eVar 3)))) (sThen (sRet (eC (.d (.bool false))))
  sNil) sNil)
  (sThen (sSet 4 (eTuple (eLc (iS false (eVar 3)) (gN 6) bYes (eCB (fCall sp__law_size) (aCons (eVar 0) (aCons (eVar 6) aNil))) [6])))
  (sThen (sIf (bOr (eT (e2 fNeS (e1 fRepr (eCB (fCall sp_sizes_by) (aCons (eVar 0) (aCons (eVar 1) (aCons (eVar 2) aNil))))) (e1 fRepr (eVar 4)))) (eT (e2 fNe (eCB (fun rs => fCall sp_sizes_by rs.reverse) (aCons (eVar 2) (aCons (eVar 1) (aCons (eVar 0) aNil)))) (eVar 4)))) (sThen (sRet (eC (.d (.bool false))))
  sNil) sNil)
  (sThen (sIf (eT (e2 fNeS (e1 fRepr (eCB (fCall sp_cost_by) (aCons (eVar 0) (aCons (eVar 1) (aCons (eVar 2) (aCons (eC (.d (.str ("greatest" : Str)))) aNil)))))) (e1 fRepr (e1 fMaxT (e2 fAddT (eTup (aCons (eC (.d (.int 0))) aNil)) (eVar 4)))))) (sThen (sRet (eC (.d (.bool false))))
  sNil) sNil)
  (sThen (sIf (eT (e2 fNeS (e1 fRepr (eCB (fun rs => fCall sp_cost_by rs.reverse) (aCons (eC (.d (.str ("total" : Str)))) (aCons (eVar 2) (aCons (eVar 1) (aCons (eVar 0) aNil)))))) (e1 fRepr (e1 fSumT (eVar 4))))) (sThen (sRet (eC (.d (.bool false))))
  sNil) sNil)
  (sThen (sFor (iE true (eVar 3)) (gT (gsCons (gN 5) (gsCons (gN 6) gsNil))) (sThen (sSet 7 (eCB (fCall sp_scopes_left) (aCons (eVar 1) (aCons (eSlT (eVar 2) oNone (oSome (eVar 5))) aNil))))
  (sThen (sIf (bOr (eT (e2 fNeS (e1 fRepr (eVar 7)) (e1 fRepr (eCB (fCall sp__law_left) (aCons (eVar 1) (aCons (eSlT (eVar 2) oNone (oSome (eVar 5))) aNil)))))) (eT (e2 fNe (eCB (fCall sp__law_joined) (aCons (eVar 7) (aCons (e2 fIx (eVar 2) (eVar 5)) aNil))) (eVar 6)))) (sThen (sRet (eC (.d (.bool false))))
  sNil) sNil)
  (sThen (sIf (eT (e2 fNeS (e1 fRepr (eCB (fCall sp_lot_size) (aCons (eVar 0) (aCons (eVar 6) aNil)))) (e1 fRepr (e2 fIx (eVar 4) (eVar 5))))) (sThen (sRet (eC (.d (.bool false))))
  sNil) sNil)
  sNil))))
  (sThen (sRet (eAnd (e2 fEqS (e1 fRepr (eCB (fun rs => fCall sp_scopes_left rs.reverse) (aCons (eVar 2) (aCons (eVar 1) aNil)))) (e1 fRepr (eCB (fCall sp__law_left) (aCons (eVar 1) (aCons (eVar 2) aNil))))) (e2 fEq (eCB (fun rs => fCall sp_lot_size rs.reverse) (aCons (eTup aNil) (aCons (eVar 0) aNil))) (eC (.d (.int 1))))))
  sNil)))))))
theorem walk__law_costs_right (B : Bt mg) (D__law_joined : DefW P w K mg base "_law_joined" 1 ["_law_scopes_here", "_law_thing"] sp__law_joined) (D__law_left : DefW P w K mg base "_law_left" 2 ["_law_scopes_here", "_law_sequence"] sp__law_left) (D__law_size : DefW P w K mg base "_law_size" 1 ["_law_counts", "_law_lot"] sp__law_size) (D_clusters_by : DefW P w K mg base "clusters_by" 3 ["scopes", "sequence"] sp_clusters_by) (D_cost_by : DefW P w K mg base "cost_by" 5 ["counts", "scopes", "sequence", "kind"] sp_cost_by) (D_lot_size : DefW P w K mg base "lot_size" 2 ["counts", "lot"] sp_lot_size) (D_scopes_left : DefW P w K mg base "scopes_left" 2 ["scopes", "sequence"] sp_scopes_left) (D_sizes_by : DefW P w K mg base "sizes_by" 4 ["counts", "scopes", "sequence"] sp_sizes_by) : DSs (S__law_costs_right P w K mg base) (defBody s__law_costs_right) T__law_costs_right :=
  (dss_cons (ds_if (dt_w (dw_or (dt_neS (db_repr B rfl (de_call D_clusters_by.at (by show 3 ≤ 5; decide) rfl (da_cons (de_var 1 rfl (by first | exact .inl rfl | exact .inr (.inl rfl) | exact .inr (.inr rfl))) (da_cons (de_var 2 rfl (by first | exact .inl rfl | exact .inr (.inl rfl) | exact .inr (.inr rfl))) da_nil)) rfl)) (db_repr B rfl (de_var 3 rfl (by first | exact .inl rfl | exact .inr (.inl rfl) | exact .inr (.inr rfl))))) (dw_or1 (dt_ne (de_callR D_clusters_by.at (by show 3 ≤ 5; decide) rfl (dk_cons (de_var 2 rfl (by first | exact .inl rfl | exact .inr (.inl rfl) | exact .inr (.inr rfl))) (dk_cons (de_var 1 rfl (by first | exact .inl rfl | exact .inr (.inl rfl) | exact .inr (.inr rfl))) dk_nil)) rfl) (de_var 3 rfl (by first | exact .inl rfl | exact .inr (.inl rfl) | exact .inr (.inr rfl))))))) (dss_cons (ds_ret de_bl)
  dss_nil) dss_nil)
  (dss_cons (ds_set 4 rfl (by first | exact .inl rfl | exact .inr rfl) (db_tuple B rfl (de_lc' (dlc (own := [(("_law_cluster_here" : Str), 6)]) (ns := [6]) (di_seq (de_var 3 rfl (by first | exact .inl rfl | exact .inr (.inl rfl) | exact .inr (.inr rfl)))) (dg_name 6 rfl (by first | exact .inl rfl | exact .inr rfl)) dts_nil (de_call D__law_size.at (by show 1 ≤ 5; decide) rfl (da_cons (de_var 0 rfl (by first | exact .inl rfl | exact .inr (.inl rfl) | exact .inr (.inr rfl))) (da_cons (de_var 6 rfl (by first | exact .inl rfl | exact .inr (.inl rfl) | exact .inr (.inr rfl))) da_nil)) rfl) (by decide)) (by dsimp only [S__law_costs_right, Sx.blk]; decide +kernel))))
  (dss_cons (ds_if (dt_w (dw_or (dt_neS (db_repr B rfl (de_call D_sizes_by.at (by show 4 ≤ 5; decide) rfl (da_cons (de_var 0 rfl (by first | exact .inl rfl | exact .inr (.inl rfl) | exact .inr (.inr rfl))) (da_cons (de_var 1 rfl (by first | exact .inl rfl | exact .inr (.inl rfl) | exact .inr (.inr rfl))) (da_cons (de_var 2 rfl (by first | exact .inl rfl | exact .inr (.inl rfl) | exact .inr (.inr rfl))) da_nil))) rfl)) (db_repr B rfl (de_var 4 rfl (by first | exact .inl rfl | exact .inr (.inl rfl) | exact .inr (.inr rfl))))) (dw_or1 (dt_ne (de_callR D_sizes_by.at (by show 4 ≤ 5; decide) rfl (dk_cons (de_var 2 rfl (by first | exact .inl rfl | exact .inr (.inl rfl) | exact .inr (.inr rfl))) (dk_cons (de_var 1 rfl (by first | exact .inl rfl | exact .inr (.inl rfl) | exact .inr (.inr rfl))) (dk_cons (de_var 0 rfl (by first | exact .inl rfl | exact .inr (.inl rfl) | exact .inr (.inr rfl))) dk_nil))) rfl) (de_var 4 rfl (by first | exact .inl rfl | exact .inr (.inl rfl) | exact .inr (.inr rfl))))))) (dss_cons (ds_ret de_bl)
  dss_nil) dss_nil)
  (dss_cons (ds_if (dt_neS (db_repr B rfl (de_call D_cost_by.at (by show 5 ≤ 5; decide) rfl (da_cons (de_var 0 rfl (by first | exact .inl rfl | exact .inr (.inl rfl) | exact .inr (.inr rfl))) (da_cons (de_var 1 rfl (by first | exact .inl rfl | exact .inr (.inl rfl) | exact .inr (.inr rfl))) (da_cons (de_var 2 rfl (by first | exact .inl rfl | exact .inr (.inl rfl) | exact .inr (.inr rfl))) (da_cons de_str da_nil)))) rfl)) (db_repr B rfl (db_maxT B rfl (de_addT (de_tup (da_cons de_int da_nil)) (de_var 4 rfl (by first | exact .inl rfl | exact .inr (.inl rfl) | exact .inr (.inr rfl))))))) (dss_cons (ds_ret de_bl)
  dss_nil) dss_nil)
  (dss_cons (ds_if (dt_neS (db_repr B rfl (de_callR D_cost_by.at (by show 5 ≤ 5; decide) rfl (dk_cons de_str (dk_cons (de_var 2 rfl (by first | exact .inl rfl | exact .inr (.inl rfl) | exact .inr (.inr rfl))) (dk_cons (de_var 1 rfl (by first | exact .inl rfl | exact .inr (.inl rfl) | exact .inr (.inr rfl))) (dk_cons (de_var 0 rfl (by first | exact .inl rfl | exact .inr (.inl rfl) | exact .inr (.inr rfl))) dk_nil)))) rfl)) (db_repr B rfl (db_sumT B rfl (de_var 4 rfl (by first | exact .inl rfl | exact .inr (.inl rfl) | exact .inr (.inr rfl)))))) (dss_cons (ds_ret de_bl)
  dss_nil) dss_nil)
  (dss_cons (ds_for (ns := [5, 6]) (dib_enum B rfl (de_var 3 rfl (by first | exact .inl rfl | exact .inr (.inl rfl) | exact .inr (.inr rfl)))) (dg_tup2 (dg_name 5 rfl (by first | exact .inl rfl | exact .inr rfl)) (dg_name 6 rfl (by first | exact .inl rfl | exact .inr rfl))) (dss_cons (ds_set 7 rfl (by first | exact .inl rfl | exact .inr rfl) (de_call D_scopes_left.at (by show 2 ≤ 5; decide) rfl (da_cons (de_var 1 rfl (by first | exact .inl rfl | exact .inr (.inl rfl) | exact .inr (.inr rfl))) (da_cons (de_slT (de_var 2 rfl (by first | exact .inl rfl | exact .inr (.inl rfl) | exact .inr (.inr rfl))) do_none (do_some (de_var 5 rfl (by first | exact .inl rfl | exact .inr (.inl rfl) | exact .inr (.inr rfl))))) da_nil)) rfl))
  (dss_cons (ds_if (dt_w (dw_or (dt_neS (db_repr B rfl (de_var 7 rfl (by first | exact .inl rfl | exact .inr (.inl rfl) | exact .inr (.inr rfl)))) (db_repr B rfl (de_call D__law_left.at (by show 2 ≤ 5; decide) rfl (da_cons (de_var 1 rfl (by first | exact .inl rfl | exact .inr (.inl rfl) | exact .inr (.inr rfl))) (da_cons (de_slT (de_var 2 rfl (by first | exact .inl rfl | exact .inr (.inl rfl) | exact .inr (.inr rfl))) do_none (do_some (de_var 5 rfl (by first | exact .inl rfl | exact .inr (.inl rfl) | exact .inr (.inr rfl))))) da_nil)) rfl))) (dw_or1 (dt_ne (de_call D__law_joined.at (by show 1 ≤ 5; decide) rfl (da_cons (de_var 7 rfl (by first | exact .inl rfl | exact .inr (.inl rfl) | exact .inr (.inr rfl))) (da_cons (de_ix (de_var 2 rfl (by first | exact .inl rfl | exact .inr (.inl rfl) | exact .inr (.inr rfl))) (de_var 5 rfl (by first | exact .inl rfl | exact .inr (.inl rfl) | exact .inr (.inr rfl)))) da_nil)) rfl) (de_var 6 rfl (by first | exact .inl rfl | exact .inr (.inl rfl) | exact .inr (.inr rfl))))))) (dss_cons (ds_ret de_bl)
  dss_nil) dss_nil)
  (dss_cons (ds_if (dt_neS (db_repr B rfl (de_call D_lot_size.at (by show 2 ≤ 5; decide) rfl (da_cons (de_var 0 rfl (by first | exact .inl rfl | exact .inr (.inl rfl) | exact .inr (.inr rfl))) (da_cons (de_var 6 rfl (by first | exact .inl rfl | exact .inr (.inl rfl) | exact .inr (.inr rfl))) da_nil)) rfl)) (db_repr B rfl (de_ix (de_var 4 rfl (by first | exact .inl rfl | exact .inr (.inl rfl) | exact .inr (.inr rfl))) (de_var 5 rfl (by first | exact .inl rfl | exact .inr (.inl rfl) | exact .inr (.inr rfl)))))) (dss_cons (ds_ret de_bl)
  dss_nil) dss_nil)
  dss_nil))))
  (dss_cons (ds_ret (de_and (de_eqS (db_repr B rfl (de_callR D_scopes_left.at (by show 2 ≤ 5; decide) rfl (dk_cons (de_var 2 rfl (by first | exact .inl rfl | exact .inr (.inl rfl) | exact .inr (.inr rfl))) (dk_cons (de_var 1 rfl (by first | exact .inl rfl | exact .inr (.inl rfl) | exact .inr (.inr rfl))) dk_nil)) rfl)) (db_repr B rfl (de_call D__law_left.at (by show 2 ≤ 5; decide) rfl (da_cons (de_var 1 rfl (by first | exact .inl rfl | exact .inr (.inl rfl) | exact .inr (.inr rfl))) (da_cons (de_var 2 rfl (by first | exact .inl rfl | exact .inr (.inl rfl) | exact .inr (.inr rfl))) da_nil)) rfl))) (de_one (de_eq (de_callR D_lot_size.at (by show 2 ≤ 5; decide) rfl (dk_cons (de_tup da_nil) (dk_cons (de_var 0 rfl (by first | exact .inl rfl | exact .inr (.inl rfl) | exact .inr (.inr rfl))) dk_nil)) rfl) de_int))))
  dss_nil)))))))
theorem sc__law_costs_right : FnScope N__law_costs_right ["_law_counts", "_law_scopes_here", "_law_sequence", "_law_clusters_here"] (defScope s__law_costs_right) := ⟨rfl, rfl, rfl, by decide +kernel, rfl, by decide +kernel, by decide +kernel⟩
abbrev N__law_flows_right : List Str := ["_law_heap_here", "_law_scopes_here", "_law_sequence", "_law_clusters_here", "_law_flows_here", "_law_settled", "_law_other", "_law_theirs", "_law_alike", "_law_kept", "_law_thing", "_law_cluster_here", "_law_flow"]
abbrev S__law_flows_right (P : Program) (w : World) (K : PySem.W.Frag) (mg : Str → Option Value) (base : Heap) : Sx := ⟨N__law_flows_right, defScope s__law_flows_right, fun _ => true, P, w, K, mg, base, 5⟩
def T__law_flows_right : TSd := (sThen (sSet 4 (eCB (fCall sp__law_flows) (aCons (eVar 3) (aCons (eVar 2) aNil))))
  (sThen (sIf (bOr (eT (e2 fNeS (e1 fRepr (eCB (fCall sp_flows_by) (aCons (eVar 1) (aCons (eVar 2) aNil)))) (e1 fRepr (eVar 4)))) (eT (e2 fNe (eCB (fun rs => fCall sp_flows_by rs.reverse) (aCons (eVar 2) (aCons (eVar 1) aNil))) (eVar 4)))) (sThen (sRet (eC (.d (.bool false))))
  sNil) sNil)
  (sThen (sSet 5 (eCB (fCall sp_settled_sequence) (aCons (eVar 1) (aCons (eVar 2) aNil))))
  (sThen (sIf (bOr (eT (e2 fNeS (e1 fRepr (eVar 5)) (e1 fRepr (eCB (fCall sp__law_flowing) (aCons (eVar 0) (aCons (eVar 4) (aCons (eVar 2) (aCons (eC (.d (.bool true))) aNil)))))))) (eT (e2 fNe (eCB (fun rs => fCall sp_settled_sequence rs.reverse) (aCons (eVar 2) (aCons (eVar 1) aNil))) (eVar 5)))) (sThen (sRet (eC (.d (.bool false))))
  sNil) sNil)
  (sThen (sFor (iL (aCons (eCB (fCall sp__law_flowing) (aCons (eVar 0) (aCons (eVar 4) (aCons (eVar 2) (aCons (eC (.d (.bool false))) aNil))))) (aCons (eVar 5) (aCons (eCB (fCall sp__law_shuffled) (aCons (eVar 0) (aCons (eVar 2) aNil))) aNil)))) (gN 6) (sThen (sSet 7 (eCB (fCall sp_clusters_by) (aCons (eVar 1) (aCons (eVar 6) aNil))))
  (sThen (sSet 8 (e1 fAll (eLc (iZ (eVar 2) (eVar 3)) (gT (gsCons (gN 10) (gsCons (gN 11) gsNil))) bYes (e2 fEq (e2 fIx (eVar 7) (eTix (eVar 6) (eVar 10))) (eVar 11)) [10, 11])))
  (sThen (sSet 9 (e1 fAll (eLc (iZ (eVar 2) (eVar 4)) (gT (gsCons (gN 10) (gsCons (gN 12) gsNil))) bYes (eOr (e2 fIsN (eVar 12) (eC (.d .none))) (e2 fLt (eTix (eVar 6) (eVar 10)) (eTix (eVar 6) (eVar 12)))) [10, 12])))
  (sThen (sIf (bOr (eT (e2 fNe (eVar 8) (eVar 9))) (bOr (eT (e2 fNe (e2 fEq (eCB (fCall sp_settled_sequence) (aCons (eVar 1) (aCons (eVar 6) aNil))) (eVar 5)) (eVar 9))) (bAnd (eT (eVar 9)) (eT (e2 fLtT (eVar 6) (eVar 5)))))) (sThen (sRet (eC (.d (.bool false))))
  sNil) sNil)
  sNil)))))
  (sThen (sRet (eC (.d (.bool true))))
  sNil))))))
theorem walk__law_flows_right (B : Bt mg) (D__law_flowing : DefW P w K mg base "_law_flowing" 3 ["_law_heap_here", "_law_flows_here", "_law_sequence", "_law_least"] sp__law_flowing) (D__law_flows : DefW P w K mg base "_law_flows" 1 ["_law_clusters_here", "_law_sequence"] sp__law_flows) (D__law_shuffled : DefW P w K mg base "_law_shuffled" 2 ["_law_heap_here", "_law_some"] sp__law_shuffled) (D_clusters_by : DefW P w K mg base "clusters_by" 3 ["scopes", "sequence"] sp_clusters_by) (D_flows_by : DefW P w K mg base "flows_by" 4 ["scopes", "sequence"] sp_flows_by) (D_settled_sequence : DefW P w K mg base "settled_sequence" 5 ["scopes", "sequence"] sp_settled_sequence) : DSs (S__law_flows_right P w K mg base) (defBody s__law_flows_right) T__law_flows_right :=
  (dss_cons (ds_set 4 rfl (by first | exact .inl rfl | exact .inr rfl) (de_call D__law_flows.at (by show 1 ≤ 5; decide) rfl (da_cons (de_var 3 rfl (by first | exact .inl rfl | exact .inr (.inl rfl) | exact .inr (.inr rfl))) (da_cons (de_var 2 rfl (by first | exact .inl rfl | exact .inr (.inl rfl) | exact .inr (.inr rfl))) da_nil)) rfl))
  (dss_cons (ds_if (dt_w (dw_or (dt_neS (db_repr B rfl (de_call D_flows_by.at (by show 4 ≤ 5; decide) rfl (da_cons (de_var 1 rfl (by first | exact .inl rfl | exact .inr (.inl rfl) | exact .inr (.inr rfl))) (da_cons (de_var 2 rfl (by first | exact .inl rfl | exact .inr (.inl rfl) | exact .inr (.inr rfl))) da_nil)) rfl)) (db_repr B rfl (de_var 4 rfl (by first | exact .inl rfl | exact .inr (.inl rfl) | exact .inr (.inr rfl))))) (dw_or1 (dt_ne (de_callR D_flows_by.at (by show 4 ≤ 5; decide) rfl (dk_cons (de_var 2 rfl (by first | exact .inl rfl | exact .inr (.inl rfl) | exact .inr (.inr rfl))) (dk_cons (de_var 1 rfl (by first | exact .inl rfl | exact .inr (.inl rfl) | exact .inr (.inr rfl))) dk_nil)) rfl) (de_var 4 rfl (by first | exact .inl rfl | exact .inr (.inl rfl) | exact .inr (.inr rfl))))))) (dss_cons (ds_ret de_bl)
  dss_nil) dss_nil)
  (dss_cons (ds_set 5 rfl (by first | exact .inl rfl | exact .inr rfl) (de_call D_settled_sequence.at (by show 5 ≤ 5; decide) rfl (da_cons (de_var 1 rfl (by first | exact .inl rfl | exact .inr (.inl rfl) | exact .inr (.inr rfl))) (da_cons (de_var 2 rfl (by first | exact .inl rfl | exact .inr (.inl rfl) | exact .inr (.inr rfl))) da_nil)) rfl))
  (dss_cons (ds_if (dt_w (dw_or (dt_neS (db_repr B rfl (de_var 5 rfl (by first | exact .inl rfl | exact .inr (.inl rfl) | exact .inr (.inr rfl)))) (db_repr B rfl (de_call D__law_flowing.at (by show 3 ≤ 5; decide) rfl (da_cons (de_var 0 rfl (by first | exact .inl rfl | exact .inr (.inl rfl) | exact .inr (.inr rfl))) (da_cons (de_var 4 rfl (by first | exact .inl rfl | exact .inr (.inl rfl) | exact .inr (.inr rfl))) (da_cons (de_var 2 rfl (by first | exact .inl rfl | exact .inr (.inl rfl) | exact .inr (.inr rfl))) (da_cons de_bl da_nil)))) rfl))) (dw_or1 (dt_ne (de_callR D_settled_sequence.at (by show 5 ≤ 5; decide) rfl (dk_cons (de_var 2 rfl (by first | exact .inl rfl | exact .inr (.inl rfl) | exact .inr (.inr rfl))) (dk_cons (de_var 1 rfl (by first | exact .inl rfl | exact .inr (.inl rfl) | exact .inr (.inr rfl))) dk_nil)) rfl) (de_var 5 rfl (by first | exact .inl rfl | exact .inr (.inl rfl) | exact .inr (.inr rfl))))))) (dss_cons (ds_ret de_bl)
  dss_nil) dss_nil)
  (dss_cons (ds_for (ns := [6]) (di_lst (da_cons (de_call D__law_flowing.at (by show 3 ≤ 5; decide) rfl (da_cons (de_var 0 rfl (by first | exact .inl rfl | exact .inr (.inl rfl) | exact .inr (.inr rfl))) (da_cons (de_var 4 rfl (by first | exact .inl rfl | exact .inr (.inl rfl) | exact .inr (.inr rfl))) (da_cons (de_var 2 rfl (by first | exact .inl rfl | exact .inr (.inl rfl) | exact .inr (.inr rfl))) (da_cons de_bl da_nil)))) rfl) (da_cons (de_var 5 rfl (by first | exact .inl rfl | exact .inr (.inl rfl) | exact .inr (.inr rfl))) (da_cons (de_call D__law_shuffled.at (by show 2 ≤ 5; decide) rfl (da_cons (de_var 0 rfl (by first | exact .inl rfl | exact .inr (.inl rfl) | exact .inr (.inr rfl))) (da_cons (de_var 2 rfl (by first | exact .inl rfl | exact .inr (.inl rfl) | exact .inr (.inr rfl))) da_nil)) rfl) da_nil)))) (dg_name 6 rfl (by first | exact .inl rfl | exact .inr rfl)) (dss_cons (ds_set 7 rfl (by first | exact .inl rfl | exact .inr rfl) (de_call D_clusters_by.at (by show 3 ≤ 5; decide) rfl (da_cons (de_var 1 rfl (by first | exact .inl rfl | exact .inr (.inl rfl) | exact .inr (.inr rfl))) (da_cons (de_var 6 rfl (by first | exact .inl rfl | exact .inr (.inl rfl) | exact .inr (.inr rfl))) da_nil)) rfl))
  (dss_cons (ds_set 8 rfl (by first | exact .inl rfl | exact .inr rfl) (db_all B rfl (de_lc' (dlc (own := [(("_law_thing" : Str), 10), (("_law_cluster_here" : Str), 11)]) (ns := [10, 11]) (dib_zip B rfl (de_var 2 rfl (by first | exact .inl rfl | exact .inr (.inl rfl) | exact .inr (.inr rfl))) (de_var 3 rfl (by first | exact .inl rfl | exact .inr (.inl rfl) | exact .inr (.inr rfl)))) (dg_tup2 (dg_name 10 rfl (by first | exact .inl rfl | exact .inr rfl)) (dg_name 11 rfl (by first | exact .inl rfl | exact .inr rfl))) dts_nil (de_eq (de_ix (de_var 7 rfl (by first | exact .inl rfl | exact .inr (.inl rfl) | exact .inr (.inr rfl))) (de_tix (de_var 6 rfl (by first | exact .inl rfl | exact .inr (.inl rfl) | exact .inr (.inr rfl))) (de_var 10 rfl (by first | exact .inl rfl | exact .inr (.inl rfl) | exact .inr (.inr rfl))))) (de_var 11 rfl (by first | exact .inl rfl | exact .inr (.inl rfl) | exact .inr (.inr rfl)))) (by decide)) (by dsimp only [S__law_flows_right, Sx.blk]; decide +kernel))))
  (dss_cons (ds_set 9 rfl (by first | exact .inl rfl | exact .inr rfl) (db_all B rfl (de_lc' (dlc (own := [(("_law_thing" : Str), 10), (("_law_flow" : Str), 12)]) (ns := [10, 12]) (dib_zip B rfl (de_var 2 rfl (by first | exact .inl rfl | exact .inr (.inl rfl) | exact .inr (.inr rfl))) (de_var 4 rfl (by first | exact .inl rfl | exact .inr (.inl rfl) | exact .inr (.inr rfl)))) (dg_tup2 (dg_name 10 rfl (by first | exact .inl rfl | exact .inr rfl)) (dg_name 12 rfl (by first | exact .inl rfl | exact .inr rfl))) dts_nil (de_or (de_isN (de_var 12 rfl (by first | exact .inl rfl | exact .inr (.inl rfl) | exact .inr (.inr rfl))) de_non) (de_one (de_lt (de_tix (de_var 6 rfl (by first | exact .inl rfl | exact .inr (.inl rfl) | exact .inr (.inr rfl))) (de_var 10 rfl (by first | exact .inl rfl | exact .inr (.inl rfl) | exact .inr (.inr rfl)))) (de_tix (de_var 6 rfl (by first | exact .inl rfl | exact .inr (.inl rfl) | exact .inr (.inr rfl))) (de_var 12 rfl (by first | exact .inl rfl | exact .inr (.inl rfl) | exact .inr (.inr rfl))))))) (by decide)) (by dsimp only [S__law_flows_right, Sx.blk]; decide +kernel))))
  (dss_cons (ds_if (dt_w (dw_or (dt_ne (de_var 8 rfl (by first | exact .inl rfl | exact .inr (.inl rfl) | exact .inr (.inr rfl))) (de_var 9 rfl (by first | exact .inl rfl | exact .inr (.inl rfl) | exact .inr (.inr rfl)))) (dw_or (dt_ne (de_eq (de_call D_settled_sequence.at (by show 5 ≤ 5; decide) rfl (da_cons (de_var 1 rfl (by first | exact .inl rfl | exact .inr (.inl rfl) | exact .inr (.inr rfl))) (da_cons (de_var 6 rfl (by first | exact .inl rfl | exact .inr (.inl rfl) | exact .inr (.inr rfl))) da_nil)) rfl) (de_var 5 rfl (by first | exact .inl rfl | exact .inr (.inl rfl) | exact .inr (.inr rfl)))) (de_var 9 rfl (by first | exact .inl rfl | exact .inr (.inl rfl) | exact .inr (.inr rfl)))) (dw_or1 (dt_w (dw_and (dt_val (de_var 9 rfl (by first | exact .inl rfl | exact .inr (.inl rfl) | exact .inr (.inr rfl)))) (dw_and1 (dt_ltT (de_var 6 rfl (by first | exact .inl rfl | exact .inr (.inl rfl) | exact .inr (.inr rfl))) (de_var 5 rfl (by first | exact .inl rfl | exact .inr (.inl rfl) | exact .inr (.inr rfl))))))))))) (dss_cons (ds_ret de_bl)
  dss_nil) dss_nil)
  dss_nil)))))
  (dss_cons (ds_ret de_bl)
  dss_nil))))))
theorem sc__law_flows_right : FnScope N__law_flows_right ["_law_heap_here", "_law_scopes_here", "_law_sequence", "_law_clusters_here"] (defScope s__law_flows_right) := ⟨rfl, rfl, rfl, by decide +kernel, rfl, by decide +kernel, by decide +kernel⟩
abbrev N__law_behind_right : List Str := ["_law_heap_here", "_law_scopes_here", "_law_things", "_law_mixed", "_law_due", "_law_lot", "_law_fewer", "_law_told", "_law_before", "_law_thing", "_law_other", "_law_scope"]
abbrev S__law_behind_right (P : Program) (w : World) (K : PySem.W.Frag) (mg : Str → Option Value) (base : Heap) : Sx := ⟨N__law_behind_right, defScope s__law_behind_right, fun _ => true, P, w, K, mg, base, 2⟩
def T__law_behind_right : TSd := (sThen (sSet 3 (eCB (fCall sp__law_shuffled) (aCons (eVar 0) (aCons (eVar 2) aNil))))
  (sThen (sPar 8 9 (aCons (eSlT (eVar 3) (oSome (eC (.d (.int 1)))) (oSome (e2 fAdd (eC (.d (.int 1))) (eCB (fCall sp__law_draw) (aCons (eVar 0) (aCons (e1 fLen (eVar 2)) aNil)))))) (aCons (e2 fIx (eVar 3) (eC (.d (.int 0)))) aNil)))
  (sThen (sSet 4 (eCB (fCall sp__law_cluster) (aCons (eVar 1) (aCons (eVar 8) (aCons (eVar 9) aNil)))))
  (sThen (sIf (eT (e2 fNeS (e1 fRepr (eCB (fCall sp_cluster_behind) (aCons (eVar 1) (aCons (eVar 8) (aCons (eVar 9) aNil))))) (e1 fRepr (eVar 4)))) (sThen (sRet (eC (.d (.bool false))))
  sNil) sNil)
  (sThen (sIf (eT (e2 fNe (eCB (fun rs => fCall sp_cluster_behind rs.reverse) (aCons (eVar 9) (aCons (eCB (fCall sp__law_shuffled) (aCons (eVar 0) (aCons (eVar 8) aNil))) (aCons (eVar 1) aNil)))) (eVar 4))) (sThen (sRet (eC (.d (.bool false))))
  sNil) sNil)
  (sThen (sSet 5 (eTuple (e1 fSortL (eLc (iS false (eVar 2)) (gN 10) (bAnd (eT (e2 fNe (eVar 10) (eVar 9))) (eT (e2 fEq (eCB (fCall sp__law_draw) (aCons (eVar 0) (aCons (eC (.d (.int 3))) aNil))) (eC (.d (.int 0)))))) (eVar 10) [10]))))
  (sThen (sSet 6 (eCB (fCall sp_scopes_without) (aCons (eVar 1) (aCons (eVar 5) aNil))))
  (sThen (sIf (eT (e2 fNeS (e1 fRepr (eVar 6)) (e1 fRepr (eTuple (eLc (iS false (eVar 1)) (gN 11) bYes (eTuple (eLc (iS false (eVar 11)) (gN 10) (eT (e2 (fIn true) (eVar 10) (eVar 5))) (eVar 10) [10])) [11]))))) (sThen (sRet (eC (.d (.bool false))))
  sNil) sNil)
  (sThen (sIf (eT (e2 fNe (eCB (fun rs => fCall sp_scopes_without rs.reverse) (aCons (eVar 5) (aCons (eVar 1) aNil))) (eVar 6))) (sThen (sRet (eC (.d (.bool false))))
  sNil) sNil)
  (sThen (sSet 7 (eCB (fCall sp_cluster_behind) (aCons (eVar 6) (aCons (eTuple (eLc (iS false (eVar 8)) (gN 10) (eT (e2 (fIn true) (eVar 10) (eVar 5))) (eVar 10) [10])) (aCons (eVar 9) aNil)))))
  (sThen (sRet (e1 fAll (eLc (iS false (eVar 7)) (gN 10) bYes (eAnd (e2 (fIn false) (eVar 10) (eVar 4)) (e2 (fIn true) (eVar 10) (eVar 5))) [10])))
  sNil)))))))))))
theorem walk__law_behind_right (B : Bt mg) (D__law_cluster : DefW P w K mg base "_law_cluster" 1 ["_law_scopes_here", "_law_gone", "_law_thing"] sp__law_cluster) (D__law_draw : DefW P w K mg base "_law_draw" 1 ["_law_heap_here", "_law_many"] sp__law_draw) (D__law_shuffled : DefW P w K mg base "_law_shuffled" 2 ["_law_heap_here", "_law_some"] sp__law_shuffled) (D_cluster_behind : DefW P w K mg base "cluster_behind" 2 ["scopes", "before", "thing"] sp_cluster_behind) (D_scopes_without : DefW P w K mg base "scopes_without" 1 ["scopes", "lot"] sp_scopes_without) : DSs (S__law_behind_right P w K mg base) (defBody s__law_behind_right) T__law_behind_right :=
  (dss_cons (ds_set 3 rfl (by first | exact .inl rfl | exact .inr rfl) (de_call D__law_shuffled.at (by show 2 ≤ 2; decide) rfl (da_cons (de_var 0 rfl (by first | exact .inl rfl | exact .inr (.inl rfl) | exact .inr (.inr rfl))) (da_cons (de_var 2 rfl (by first | exact .inl rfl | exact .inr (.inl rfl) | exact .inr (.inr rfl))) da_nil)) rfl))
  (dss_cons (ds_parC 8 9 rfl rfl (by first | exact .inl rfl | exact .inr rfl) (by first | exact .inl rfl | exact .inr rfl) (da_cons (de_slT (de_var 3 rfl (by first | exact .inl rfl | exact .inr (.inl rfl) | exact .inr (.inr rfl))) (do_some de_int) (do_some (de_add de_int (de_call D__law_draw.at (by show 1 ≤ 2; decide) rfl (da_cons (de_var 0 rfl (by first | exact .inl rfl | exact .inr (.inl rfl) | exact .inr (.inr rfl))) (da_cons (db_len B rfl (de_var 2 rfl (by first | exact .inl rfl | exact .inr (.inl rfl) | exact .inr (.inr rfl)))) da_nil)) rfl)))) (da_cons (de_ix (de_var 3 rfl (by first | exact .inl rfl | exact .inr (.inl rfl) | exact .inr (.inr rfl))) de_int) da_nil)) (by intro env h; cases env; dsimp only at h; subst h; rfl))
  (dss_cons (ds_set 4 rfl (by first | exact .inl rfl | exact .inr rfl) (de_call D__law_cluster.at (by show 1 ≤ 2; decide) rfl (da_cons (de_var 1 rfl (by first | exact .inl rfl | exact .inr (.inl rfl) | exact .inr (.inr rfl))) (da_cons (de_var 8 rfl (by first | exact .inl rfl | exact .inr (.inl rfl) | exact .inr (.inr rfl))) (da_cons (de_var 9 rfl (by first | exact .inl rfl | exact .inr (.inl rfl) | exact .inr (.inr rfl))) da_nil))) rfl))
  (dss_cons (ds_if (dt_neS (db_repr B rfl (de_call D_cluster_behind.at (by show 2 ≤ 2; decide) rfl (da_cons (de_var 1 rfl (by first | exact .inl rfl | exact .inr (.inl rfl) | exact .inr (.inr rfl))) (da_cons (de_var 8 rfl (by first | exact .inl rfl | exact .inr (.inl rfl) | exact .inr (.inr rfl))) (da_cons (de_var 9 rfl (by first | exact .inl rfl | exact .inr (.inl rfl) | exact .inr (.inr rfl))) da_nil))) rfl)) (db_repr B rfl (de_var 4 rfl (by first | exact .inl rfl | exact .inr (.inl rfl) | exact .inr (.inr rfl))))) (dss_cons (ds_ret de_bl)
  dss_nil) dss_nil)
  (dss_cons (ds_if (dt_ne (de_callR D_cluster_behind.at (by show 2 ≤ 2; decide) rfl (dk_cons (de_var 9 rfl (by first | exact .inl rfl | exact .inr (.inl rfl) | exact .inr (.inr rfl))) (dk_cons (de_call D__law_shuffled.at (by show 2 ≤ 2; decide) rfl (da_cons (de_var 0 rfl (by first | exact .inl rfl | exact .inr (.inl rfl) | exact .inr (.inr rfl))) (da_cons (de_var 8 rfl (by first | exact .inl rfl | exact .inr (.inl rfl) | exact .inr (.inr rfl))) da_nil)) rfl) (dk_cons (de_var 1 rfl (by first | exact .inl rfl | exact .inr (.inl rfl) | exact .inr (.inr rfl))) dk_nil))) rfl) (de_var 4 rfl (by first | exact .inl rfl | exact .inr (.inl rfl) | exact .inr (.inr rfl)))) (dss_cons (ds_ret de_bl)
  dss_nil) dss_nil)
  (dss_cons (ds_set 5 rfl (by first | exact .inl rfl | exact .inr rfl) (db_tuple B rfl (db_sortL B rfl (de_lc' (dlc (own := [(("_law_other" : Str), 10)]) (ns := [10]) (di_seq (de_var 2 rfl (by first | exact .inl rfl | exact .inr (.inl rfl) | exact .inr (.inr rfl)))) (dg_name 10 rfl (by first | exact .inl rfl | exact .inr rfl)) (dts_one (dt_w (dw_and (dt_ne (de_var 10 rfl (by first | exact .inl rfl | exact .inr (.inl rfl) | exact .inr (.inr rfl))) (de_var 9 rfl (by first | exact .inl rfl | exact .inr (.inl rfl) | exact .inr (.inr rfl)))) (dw_and1 (dt_eq (de_call D__law_draw.at (by show 1 ≤ 2; decide) rfl (da_cons (de_var 0 rfl (by first | exact .inl rfl | exact .inr (.inl rfl) | exact .inr (.inr rfl))) (da_cons de_int da_nil)) rfl) de_int))))) (de_var 10 rfl (by first | exact .inl rfl | exact .inr (.inl rfl) | exact .inr (.inr rfl))) (by decide)) (by dsimp only [S__law_behind_right, Sx.blk]; decide +kernel)))))
  (dss_cons (ds_set 6 rfl (by first | exact .inl rfl | exact .inr rfl) (de_call D_scopes_without.at (by show 1 ≤ 2; decide) rfl (da_cons (de_var 1 rfl (by first | exact .inl rfl | exact .inr (.inl rfl) | exact .inr (.inr rfl))) (da_cons (de_var 5 rfl (by first | exact .inl rfl | exact .inr (.inl rfl) | exact .inr (.inr rfl))) da_nil)) rfl))
  (dss_cons (ds_if (dt_neS (db_repr B rfl (de_var 6 rfl (by first | exact .inl rfl | exact .inr (.inl rfl) | exact .inr (.inr rfl)))) (db_repr B rfl (db_tuple B rfl (de_lc' (dlc (own := [(("_law_scope" : Str), 11)]) (ns := [11]) (di_seq (de_var 1 rfl (by first | exact .inl rfl | exact .inr (.inl rfl) | exact .inr (.inr rfl)))) (dg_name 11 rfl (by first | exact .inl rfl | exact .inr rfl)) dts_nil (db_tuple B rfl (de_lc' (dlc (own := [(("_law_other" : Str), 10)]) (ns := [10]) (di_seq (de_var 11 rfl (by first | exact .inl rfl | exact .inr (.inl rfl) | exact .inr (.inr rfl)))) (dg_name 10 rfl (by first | exact .inl rfl | exact .inr rfl)) (dts_one (dt_nin (de_var 10 rfl (by first | exact .inl rfl | exact .inr (.inl rfl) | exact .inr (.inr rfl))) (de_var 5 rfl (by first | exact .inl rfl | exact .inr (.inl rfl) | exact .inr (.inr rfl))))) (de_var 10 rfl (by first | exact .inl rfl | exact .inr (.inl rfl) | exact .inr (.inr rfl))) (by decide)) (by dsimp only [S__law_behind_right, Sx.blk]; decide +kernel))) (by decide)) (by dsimp only [S__law_behind_right, Sx.blk]; decide +kernel))))) (dss_cons (ds_ret de_bl)
  dss_nil) dss_nil)
  (dss_cons (ds_if (dt_ne (de_callR D_scopes_without.at (by show 1 ≤ 2; decide) rfl (dk_cons (de_var 5 rfl (by first | exact .inl rfl | exact .inr (.inl rfl) | exact .inr (.inr rfl))) (dk_cons (de_var 1 rfl (by first | exact .inl rfl | exact .inr (.inl rfl) | exact .inr (.inr rfl))) dk_nil)) rfl) (de_var 6 rfl (by first | exact .inl rfl | exact .inr (.inl rfl) | exact .inr (.inr rfl)))) (dss_cons (ds_ret de_bl)
  dss_nil) dss_nil)
  (dss_cons (ds_set 7 rfl (by first | exact .inl rfl | exact .inr rfl) (de_call D_cluster_behind.at (by show 2 ≤ 2; decide) rfl (da_cons (de_var 6 rfl (by first | exact .inl rfl | exact .inr (.inl rfl) | exact .inr (.inr rfl))) (da_cons (db_tuple B rfl (de_lc' (dlc (own := [(("_law_other" : Str), 10)]) (ns := [10]) (di_seq (de_var 8 rfl (by first | exact .inl rfl | exact .inr (.inl rfl) | exact .inr (.inr rfl)))) (dg_name 10 rfl (by first | exact .inl rfl | exact .inr rfl)) (dts_one (dt_nin (de_var 10 rfl (by first | exact .inl rfl | exact .inr (.inl rfl) | exact .inr (.inr rfl))) (de_var 5 rfl (by first | exact .inl rfl | exact .inr (.inl rfl) | exact .inr (.inr rfl))))) (de_var 10 rfl (by first | exact .inl rfl | exact .inr (.inl rfl) | exact .inr (.inr rfl))) (by decide)) (by dsimp only [S__law_behind_right, Sx.blk]; decide +kernel))) (da_cons (de_var 9 rfl (by first | exact .inl rfl | exact .inr (.inl rfl) | exact .inr (.inr rfl))) da_nil))) rfl))
  (dss_cons (ds_ret (db_all B rfl (de_lc' (dlc (own := [(("_law_other" : Str), 10)]) (ns := [10]) (di_seq (de_var 7 rfl (by first | exact .inl rfl | exact .inr (.inl rfl) | exact .inr (.inr rfl)))) (dg_name 10 rfl (by first | exact .inl rfl | exact .inr rfl)) dts_nil (de_and (de_in (de_var 10 rfl (by first | exact .inl rfl | exact .inr (.inl rfl) | exact .inr (.inr rfl))) (de_var 4 rfl (by first | exact .inl rfl | exact .inr (.inl rfl) | exact .inr (.inr rfl)))) (de_one (de_nin (de_var 10 rfl (by first | exact .inl rfl | exact .inr (.inl rfl) | exact .inr (.inr rfl))) (de_var 5 rfl (by first | exact .inl rfl | exact .inr (.inl rfl) | exact .inr (.inr rfl)))))) (by decide)) (by dsimp only [S__law_behind_right, Sx.blk]; decide +kernel))))
  dss_nil)))))))))))
theorem sc__law_behind_right : FnScope N__law_behind_right ["_law_heap_here", "_law_scopes_here", "_law_things"] (defScope s__law_behind_right) := ⟨rfl, rfl, rfl, by decide +kernel, rfl, by decide +kernel, by decide +kernel⟩
abbrev N__law_odd : List Str := ["_law_heap_here", "_law_sequence", "_law_some", "_law_at"]
abbrev S__law_odd (P : Program) (w : World) (K : PySem.W.Frag) (mg : Str → Option Value) (base : Heap) : Sx := ⟨N__law_odd, defScope s__law_odd, fun _ => true, P, w, K, mg, base, 2⟩
def T__law_odd : TSd := (sThen (sSet 2 (eLst (aCons (e1 fList (eVar 1)) (aCons (e2 fAddT (eVar 1) (eSlT (eVar 1) oNone (oSome (eC (.d (.int 1)))))) (aCons (eSlT (eVar 1) (oSome (eC (.d (.int 1)))) oNone) (aCons (e2 fAddT (eVar 1) (eTup (aCons (eC (.d (.int 8))) aNil))) (aCons (eTuple (eLc (iS false (eVar 1)) (gN 3) bYes (e2 fSub (eC (.d (.int 0))) (eVar 3)) [3])) (aCons (eC (.d .none)) (aCons (eC (.d (.int 0))) (aCons (eC (.d (.str ("" : Str)))) (aCons (eC (.d (.str ("01" : Str)))) aNil)))))))))))
  (sThen (sSet 2 (e2 fAddL (eVar 2) (eLst (aCons (eTuple (eLc (iS false (eVar 1)) (gN 3) bYes (e1 fStr (eVar 3)) [3])) (aCons (e2 fAddT (eVar 1) (eTup (aCons (eC (.d .none)) aNil))) (aCons (eTup (aCons (eVar 1) aNil)) (aCons (eBackT (eVar 1)) aNil)))))))
  (sThen (sSet 2 (e2 fAddL (eVar 2) (eLst (aCons (eTuple (eLc (iS false (eVar 1)) (gN 3) bYes (eIf (eT (e2 fLt (eVar 3) (eC (.d (.int 2))))) (e1 fBool (eVar 3)) (eVar 3)) [3])) aNil))))
  (sThen (sIf (eT (e2 fGt (e1 fLen (eVar 1)) (eC (.d (.int 1))))) (sThen (sSet 2 (e2 fAddL (eVar 2) (eLst (aCons (e2 fAddT (e2 fAddT (eSlT (eVar 1) oNone (oSome (eC (.d (.int 1))))) (eSlT (eVar 1) oNone (oSome (eC (.d (.int 1)))))) (eSlT (eVar 1) (oSome (eC (.d (.int 2)))) oNone)) (aCons (e2 fAddT (eSlT (eVar 1) oNone (oSome (eNeg (eC (.d (.int 1)))))) (eTup (aCons (e2 fSub (eC (.d (.int 0))) (eC (.d (.int 1)))) aNil))) (aCons (e2 fAddT (eSlT (eVar 1) oNone (oSome (eNeg (eC (.d (.int 1)))))) (eTup (aCons (eTup (aCons (eC (.d (.int 0))) aNil)) aNil))) aNil))))))
  sNil) sNil)
  (sFrz 2 (sThen (sRet (eCB (fCall sp__law_pick) (aCons (eVar 0) (aCons (eVar 2) aNil))))
  sNil))))))
theorem walk__law_odd (B : Bt mg) (D__law_pick : DefW P w K mg base "_law_pick" 2 ["_law_heap_here", "_law_some"] sp__law_pick) : DSs (S__law_odd P w K mg base) (defBody s__law_odd) T__law_odd :=
  (dss_cons (ds_set 2 rfl (by first | exact .inl rfl | exact .inr rfl) (de_lst (da_cons (db_list B rfl (de_var 1 rfl (by first | exact .inl rfl | exact .inr (.inl rfl) | exact .inr (.inr rfl)))) (da_cons (de_addT (de_var 1 rfl (by first | exact .inl rfl | exact .inr (.inl rfl) | exact .inr (.inr rfl))) (de_slT (de_var 1 rfl (by first | exact .inl rfl | exact .inr (.inl rfl) | exact .inr (.inr rfl))) do_none (do_some de_int))) (da_cons (de_slT (de_var 1 rfl (by first | exact .inl rfl | exact .inr (.inl rfl) | exact .inr (.inr rfl))) (do_some de_int) do_none) (da_cons (de_addT (de_var 1 rfl (by first | exact .inl rfl | exact .inr (.inl rfl) | exact .inr (.inr rfl))) (de_tup (da_cons de_int da_nil))) (da_cons (db_tuple B rfl (de_lc' (dlc (own := [(("_law_at" : Str), 3)]) (ns := [3]) (di_seq (de_var 1 rfl (by first | exact .inl rfl | exact .inr (.inl rfl) | exact .inr (.inr rfl)))) (dg_name 3 rfl (by first | exact .inl rfl | exact .inr rfl)) dts_nil (de_sub de_int (de_var 3 rfl (by first | exact .inl rfl | exact .inr (.inl rfl) | exact .inr (.inr rfl)))) (by decide)) (by dsimp only [S__law_odd, Sx.blk]; decide +kernel))) (da_cons de_non (da_cons de_int (da_cons de_str (da_cons de_str da_nil)))))))))))
  (dss_cons (ds_set 2 rfl (by first | exact .inl rfl | exact .inr rfl) (de_addL (de_var 2 rfl (by first | exact .inl rfl | exact .inr (.inl rfl) | exact .inr (.inr rfl))) (de_lst (da_cons (db_tuple B rfl (de_lc' (dlc (own := [(("_law_at" : Str), 3)]) (ns := [3]) (di_seq (de_var 1 rfl (by first | exact .inl rfl | exact .inr (.inl rfl) | exact .inr (.inr rfl)))) (dg_name 3 rfl (by first | exact .inl rfl | exact .inr rfl)) dts_nil (db_str B rfl (de_var 3 rfl (by first | exact .inl rfl | exact .inr (.inl rfl) | exact .inr (.inr rfl)))) (by decide)) (by dsimp only [S__law_odd, Sx.blk]; decide +kernel))) (da_cons (de_addT (de_var 1 rfl (by first | exact .inl rfl | exact .inr (.inl rfl) | exact .inr (.inr rfl))) (de_tup (da_cons de_non da_nil))) (da_cons (de_tup (da_cons (de_var 1 rfl (by first | exact .inl rfl | exact .inr (.inl rfl) | exact .inr (.inr rfl))) da_nil)) (da_cons (de_backT (de_var 1 rfl (by first | exact .inl rfl | exact .inr (.inl rfl) | exact .inr (.inr rfl)))) da_nil)))))))
  (dss_cons (ds_set 2 rfl (by first | exact .inl rfl | exact .inr rfl) (de_addL (de_var 2 rfl (by first | exact .inl rfl | exact .inr (.inl rfl) | exact .inr (.inr rfl))) (de_lst (da_cons (db_tuple B rfl (de_lc' (dlc (own := [(("_law_at" : Str), 3)]) (ns := [3]) (di_seq (de_var 1 rfl (by first | exact .inl rfl | exact .inr (.inl rfl) | exact .inr (.inr rfl)))) (dg_name 3 rfl (by first | exact .inl rfl | exact .inr rfl)) dts_nil (de_if (dt_lt (de_var 3 rfl (by first | exact .inl rfl | exact .inr (.inl rfl) | exact .inr (.inr rfl))) de_int) (db_bool B rfl (de_var 3 rfl (by first | exact .inl rfl | exact .inr (.inl rfl) | exact .inr (.inr rfl)))) (de_var 3 rfl (by first | exact .inl rfl | exact .inr (.inl rfl) | exact .inr (.inr rfl)))) (by decide)) (by dsimp only [S__law_odd, Sx.blk]; decide +kernel))) da_nil))))
  (dss_cons (ds_if (dt_gt (db_len B rfl (de_var 1 rfl (by first | exact .inl rfl | exact .inr (.inl rfl) | exact .inr (.inr rfl)))) de_int) (dss_cons (ds_set 2 rfl (by first | exact .inl rfl | exact .inr rfl) (de_addL (de_var 2 rfl (by first | exact .inl rfl | exact .inr (.inl rfl) | exact .inr (.inr rfl))) (de_lst (da_cons (de_addT (de_addT (de_slT (de_var 1 rfl (by first | exact .inl rfl | exact .inr (.inl rfl) | exact .inr (.inr rfl))) do_none (do_some de_int)) (de_slT (de_var 1 rfl (by first | exact .inl rfl | exact .inr (.inl rfl) | exact .inr (.inr rfl))) do_none (do_some de_int))) (de_slT (de_var 1 rfl (by first | exact .inl rfl | exact .inr (.inl rfl) | exact .inr (.inr rfl))) (do_some de_int) do_none)) (da_cons (de_addT (de_slT (de_var 1 rfl (by first | exact .inl rfl | exact .inr (.inl rfl) | exact .inr (.inr rfl))) do_none (do_some (de_neg de_int))) (de_tup (da_cons (de_sub de_int de_int) da_nil))) (da_cons (de_addT (de_slT (de_var 1 rfl (by first | exact .inl rfl | exact .inr (.inl rfl) | exact .inr (.inr rfl))) do_none (do_some (de_neg de_int))) (de_tup (da_cons (de_tup (da_cons de_int da_nil)) da_nil))) da_nil))))))
  dss_nil) dss_nil)
  (dss_frz 2 (dss_cons (ds_ret (de_call D__law_pick.at (by show 2 ≤ 2; decide) rfl (da_cons (de_var 0 rfl (by first | exact .inl rfl | exact .inr (.inl rfl) | exact .inr (.inr rfl))) (da_cons (de_var 2 rfl (by first | exact .inl rfl | exact .inr (.inl rfl) | exact .inr (.inr rfl))) da_nil)) rfl))
  dss_nil))))))
theorem sc__law_odd : FnScope N__law_odd ["_law_heap_here", "_law_sequence"] (defScope s__law_odd) := ⟨rfl, rfl, rfl, by decide +kernel, rfl, by decide +kernel, by decide +kernel⟩
abbrev N__law_is_sequence : List Str := ["_law_lot", "_law_value", "_law_at"]
abbrev S__law_is_sequence (P : Program) (w : World) (K : PySem.W.Frag) (mg : Str → Option Value) (base : Heap) : Sx := ⟨N__law_is_sequence, defScope s__law_is_sequence, fun _ => true, P, w, K, mg, base, 0⟩
def T__law_is_sequence : TSd := (sThen (sIf (bOr (bNot (eT (eA2 fIsi' (eVar 1) (eC (.ty "tuple"))))) (bNot (eT (e1 fAll (eLc (iS false (eVar 1)) (gN 2) bYes (eA2 fIsi' (eVar 2) (eC (.ty "int"))) [2]))))) (sThen (sRet (eC (.d (.bool false))))
  sNil) sNil)
  (sThen (sRet (eAnd (eNot (e1 fAny (eLc (iS false (eVar 1)) (gN 2) bYes (eA2 fIsi' (eVar 2) (eC (.ty "bool"))) [2]))) (e2 fEq (e1 fSortT (eVar 1)) (e1 fList (eVar 0)))))
  sNil))
theorem walk__law_is_sequence (B : Bt mg) : DSs (S__law_is_sequence P w K mg base) (defBody s__law_is_sequence) T__law_is_sequence :=
  (dss_cons (ds_if (dt_w (dw_or (dt_not (dt_val (db_isi B rfl (de_var 1 rfl (by first | exact .inl rfl | exact .inr (.inl rfl) | exact .inr (.inr rfl))) (db_cls (x := ("tuple" : Str)) (T := "tuple") B rfl (by decide) PyProof.Rows.boot_tuple)))) (dw_or1 (dt_not (dt_val (db_all B rfl (de_lc' (dlc (own := [(("_law_at" : Str), 2)]) (ns := [2]) (di_seq (de_var 1 rfl (by first | exact .inl rfl | exact .inr (.inl rfl) | exact .inr (.inr rfl)))) (dg_name 2 rfl (by first | exact .inl rfl | exact .inr rfl)) dts_nil (db_isi B rfl (de_var 2 rfl (by first | exact .inl rfl | exact .inr (.inl rfl) | exact .inr (.inr rfl))) (db_cls (x := ("int" : Str)) (T := "int") B rfl (by decide) PyProof.Rows.boot_int)) (by decide)) (by dsimp only [S__law_is_sequence, Sx.blk]; decide +kernel)))))))) (dss_cons (ds_ret de_bl)
  dss_nil) dss_nil)
  (dss_cons (ds_ret (de_and (de_not (db_any B rfl (de_lc' (dlc (own := [(("_law_at" : Str), 2)]) (ns := [2]) (di_seq (de_var 1 rfl (by first | exact .inl rfl | exact .inr (.inl rfl) | exact .inr (.inr rfl)))) (dg_name 2 rfl (by first | exact .inl rfl | exact .inr rfl)) dts_nil (db_isi B rfl (de_var 2 rfl (by first | exact .inl rfl | exact .inr (.inl rfl) | exact .inr (.inr rfl))) (db_cls (x := ("bool" : Str)) (T := "bool") B rfl (by decide) PyProof.Rows.boot_bool)) (by decide)) (by dsimp only [S__law_is_sequence, Sx.blk]; decide +kernel)))) (de_one (de_eq (db_sortT B rfl (de_var 1 rfl (by first | exact .inl rfl | exact .inr (.inl rfl) | exact .inr (.inr rfl)))) (db_list B rfl (de_var 0 rfl (by first | exact .inl rfl | exact .inr (.inl rfl) | exact .inr (.inr rfl))))))))
  dss_nil))
theorem sc__law_is_sequence : FnScope N__law_is_sequence ["_law_lot", "_law_value"] (defScope s__law_is_sequence) := ⟨rfl, rfl, rfl, by decide +kernel, rfl, by decide +kernel, by decide +kernel⟩
abbrev N_law : List Str := ["_law_script", "_law_heap_here", "_law_turn", "_law_ring", "_law_many", "_law_lot", "_law_sequence", "_law_clusters_here", "_law_greedy_here", "_law_value", "_law_counts", "_law_scopes_here", "_law_things", "_law_own", "_law_right", "_law_net_here", "_law_at", "_law_thing"]
abbrev S_law (P : Program) (w : World) (K : PySem.W.Frag) (mg : Str → Option Value) (base : Heap) : Sx := ⟨N_law, defScope s_law, fun _ => true, P, w, K, mg, base, 8⟩
def T_law : TSd := (sThen (sFor (iR (e2 fAdd (eC (.d (.int 1))) (e1 fInt (e2 fGt (e1 fLen (eVar 0)) (eC (.d (.int 2))))))) (gN 2) (sThen (sSet 4 (e2 fAdd (eC (.d (.int 1))) (eCB (fCall sp__law_draw) (aCons (eVar 1) (aCons (eC (.d (.int 8))) aNil)))))
  (sThen (sPar 10 11 (aCons (eTuple (eLc (iR (eVar 4)) (gN 16) bYes (e2 fAdd (eC (.d (.int 2))) (eCB (fCall sp__law_draw) (aCons (eVar 1) (aCons (eC (.d (.int 5))) aNil)))) [16])) (aCons (eCB (fCall sp__law_scopes) (aCons (eVar 1) (aCons (eVar 4) aNil))) aNil)))
  (sThen (sIf (eT (e2 fEq (eCB (fCall sp__law_draw) (aCons (eVar 1) (aCons (eC (.d (.int 4))) aNil))) (eC (.d (.int 0))))) (sThen (sSet 12 (eCB (fCall sp__law_net) (aCons (eVar 1) (aCons (eVar 4) aNil))))
  (sThen (sPar 15 10 (aCons (eNet okThings (eVar 12)) (aCons (eTuple (eLc (iS false (eVar 12)) (gN 17) bYes (e2 fIx (eVar 17) (eC (.d (.int 1)))) [17])) aNil)))
  (sThen (sSet 11 (eCB (fCall sp_scopes_in) (aCons (eVar 15) aNil)))
  (sThen (sIf (bOr (eT (e2 fNeS (e1 fRepr (eVar 11)) (e1 fRepr (eTuple (eLc (iE false (eVar 12)) (gT (gsCons (gN 16) (gsCons (gN 17) gsNil))) bYes (e2 fAddT (e2 fIx (eVar 17) (eC (.d (.int 2)))) (eTup (aCons (eVar 16) aNil))) [16, 17]))))) (eT (e2 fNe (eCB (fun rs => fCall sp_scopes_in rs.reverse) (aCons (eVar 15) aNil)) (eVar 11)))) (sThen (sRet (eC (.d (.bool false))))
  sNil) sNil)
  sNil)))) sNil)
  (sThen (sSet 5 (eTuple (eLc (iR (eVar 4)) (gN 16) (eT (e2 fGt (eCB (fCall sp__law_draw) (aCons (eVar 1) (aCons (eC (.d (.int 4))) aNil))) (eC (.d (.int 0))))) (eVar 16) [16])))
  (sThen (sSet 6 (eCB (fCall sp__law_shuffled) (aCons (eVar 1) (aCons (eCB (fCall sp__law_pick) (aCons (eVar 1) (aCons (eLst (aCons (eVar 5) (aCons (eVar 5) (aCons (eTupRg (eVar 4)) aNil)))) aNil))) aNil))))
  (sThen (sSet 7 (eCB (fCall sp__law_clusters) (aCons (eVar 11) (aCons (eVar 6) aNil))))
  (sThen (sIf (bOr (bNot (eT (eCB (fCall sp__law_costs_right) (aCons (eVar 10) (aCons (eVar 11) (aCons (eVar 6) (aCons (eVar 7) aNil))))))) (bNot (eT (eCB (fCall sp__law_flows_right) (aCons (eVar 1) (aCons (eVar 11) (aCons (eVar 6) (aCons (eVar 7) aNil)))))))) (sThen (sRet (eC (.d (.bool false))))
  sNil) sNil)
  (sThen (sIf (bNot (eT (eCB (fCall sp__law_behind_right) (aCons (eVar 1) (aCons (eVar 11) (aCons (eTupRg (eVar 4)) aNil)))))) (sThen (sRet (eC (.d (.bool false))))
  sNil) sNil)
  (sThen (sSet 8 (eCB (fCall sp__law_greedy) (aCons (eVar 10) (aCons (eVar 11) (aCons (eVar 5) aNil)))))
  (sThen (sIf (bOr (eT (e2 fNeS (e1 fRepr (eCB (fCall sp_greedy_sequence) (aCons (eVar 10) (aCons (eVar 11) (aCons (eVar 5) aNil))))) (e1 fRepr (eVar 8)))) (eT (e2 fNe (eCB (fun rs => fCall sp_greedy_sequence rs.reverse) (aCons (eVar 5) (aCons (eVar 11) (aCons (eVar 10) aNil)))) (eVar 8)))) (sThen (sRet (eC (.d (.bool false))))
  sNil) sNil)
  (sThen (sFor (iL (aCons (eVar 6) (aCons (eCB (fCall sp__law_odd) (aCons (eVar 1) (aCons (eVar 6) aNil))) (aCons (eCB (fCall sp__law_odd) (aCons (eVar 1) (aCons (eVar 6) aNil))) (aCons (eVar 5) (aCons (eVar 8) aNil)))))) (gN 9) (sThen (sSet 13 (eTuple (e1 fSortT (eVar 6))))
  (sThen (sSet 14 (eCB (fCall sp__law_is_sequence) (aCons (eVar 13) (aCons (eVar 9) aNil))))
  (sThen (sIf (bOr (eT (e2 fNeS (e1 fRepr (eCB (fCall sp_is_sequence) (aCons (eVar 13) (aCons (eVar 9) aNil)))) (e1 fRepr (eVar 14)))) (eT (e2 fNe (eCB (fun rs => fCall sp_is_sequence rs.reverse) (aCons (eVar 9) (aCons (eVar 13) aNil))) (eVar 14)))) (sThen (sRet (eC (.d (.bool false))))
  sNil) sNil)
  sNil))))
  sNil))))))))))))
  (sThen (sSet 3 (eTup (aCons (eTup (aCons (eC (.d (.int 0))) (aCons (eC (.d (.int 1))) aNil))) (aCons (eTup (aCons (eC (.d (.int 1))) (aCons (eC (.d (.int 2))) aNil))) (aCons (eTup (aCons (eC (.d (.int 2))) (aCons (eC (.d (.int 3))) aNil))) (aCons (eTup (aCons (eC (.d (.int 0))) (aCons (eC (.d (.int 3))) aNil))) aNil))))))
  (sThen (sIf (bOr (eT (e2 fNe (eCB (fCall sp_clusters_by) (aCons (eVar 3) (aCons (eTup (aCons (eC (.d (.int 0))) (aCons (eC (.d (.int 2))) (aCons (eC (.d (.int 3))) (aCons (eC (.d (.int 1))) aNil))))) aNil))) (eTup (aCons (eTup (aCons (eC (.d (.int 0))) (aCons (eC (.d (.int 1))) (aCons (eC (.d (.int 3))) aNil)))) (aCons (eTup (aCons (eC (.d (.int 1))) (aCons (eC (.d (.int 2))) (aCons (eC (.d (.int 3))) aNil)))) (aCons (eTup (aCons (eC (.d (.int 1))) (aCons (eC (.d (.int 3))) aNil))) (aCons (eTup (aCons (eC (.d (.int 1))) aNil)) aNil))))))) (eT (e2 fNe (eCB (fCall sp_settled_sequence) (aCons (eVar 3) (aCons (eTup (aCons (eC (.d (.int 2))) (aCons (eC (.d (.int 0))) (aCons (eC (.d (.int 3))) (aCons (eC (.d (.int 1))) aNil))))) aNil))) (eTup (aCons (eC (.d (.int 0))) (aCons (eC (.d (.int 2))) (aCons (eC (.d (.int 3))) (aCons (eC (.d (.int 1))) aNil)))))))) (sThen (sRet (eC (.d (.bool false))))
  sNil) sNil)
  (sThen (sIf (bOr (eT (e2 fNe (eCB (fCall sp_scopes_left) (aCons (eVar 3) (aCons (eTup (aCons (eC (.d (.int 0))) (aCons (eC (.d (.int 2))) aNil))) aNil))) (eTup (aCons (eTup (aCons (eC (.d (.int 1))) (aCons (eC (.d (.int 3))) aNil))) (aCons (eTup (aCons (eC (.d (.int 1))) (aCons (eC (.d (.int 3))) aNil))) aNil))))) (eT (e2 fNe (eCB (fCall sp_flows_by) (aCons (eVar 3) (aCons (eTup (aCons (eC (.d (.int 2))) (aCons (eC (.d (.int 0))) (aCons (eC (.d (.int 3))) (aCons (eC (.d (.int 1))) aNil))))) aNil))) (eTup (aCons (eC (.d (.int 3))) (aCons (eC (.d (.int 3))) (aCons (eC (.d (.int 1))) (aCons (eC (.d .none)) aNil)))))))) (sThen (sRet (eC (.d (.bool false))))
  sNil) sNil)
  (sThen (sIf (eT (e2 fNe (eCB (fCall sp_greedy_sequence) (aCons (eTup (aCons (eC (.d (.int 3))) (aCons (eC (.d (.int 2))) (aCons (eC (.d (.int 2))) (aCons (eC (.d (.int 2))) aNil))))) (aCons (eVar 3) (aCons (eTup (aCons (eC (.d (.int 0))) (aCons (eC (.d (.int 1))) (aCons (eC (.d (.int 2))) (aCons (eC (.d (.int 3))) aNil))))) aNil)))) (eTup (aCons (eC (.d (.int 2))) (aCons (eC (.d (.int 0))) (aCons (eC (.d (.int 1))) (aCons (eC (.d (.int 3))) aNil))))))) (sThen (sRet (eC (.d (.bool false))))
  sNil) sNil)
  (sThen (sIf (eT (e2 fNe (eTup (aCons (eCB (fCall sp_cost_by) (aCons (eTup (aCons (eC (.d (.int 2))) aNil)) (aCons (eTup aNil) (aCons (eTup aNil) (aCons (eC (.d (.str ("greatest" : Str)))) aNil))))) (aCons (eCB (fCall sp_cost_by) (aCons (eTup aNil) (aCons (eTup aNil) (aCons (eTup aNil) (aCons (eC (.d (.str ("total" : Str)))) aNil))))) (aCons (eCB (fCall sp_cost_by) (aCons (eTup (aCons (eC (.d (.int 5))) aNil)) (aCons (eTup aNil) (aCons (eTup (aCons (eC (.d (.int 0))) aNil)) (aCons (eC (.d (.str ("total" : Str)))) aNil))))) aNil)))) (eTup (aCons (eC (.d (.int 0))) (aCons (eC (.d (.int 0))) (aCons (eC (.d (.int 5))) aNil)))))) (sThen (sRet (eC (.d (.bool false))))
  sNil) sNil)
  (sThen (sRet (eAnd (e2 fEq (eTup (aCons (eCB (fCall sp_clusters_by) (aCons (eTup aNil) (aCons (eTup aNil) aNil))) (aCons (eCB (fCall sp_settled_sequence) (aCons (eTup aNil) (aCons (eTup aNil) aNil))) (aCons (eCB (fCall sp_scopes_left) (aCons (eTup aNil) (aCons (eTup aNil) aNil))) (aCons (eCB (fCall sp_greedy_sequence) (aCons (eTup aNil) (aCons (eTup aNil) (aCons (eTup aNil) aNil)))) aNil))))) (eTup (aCons (eTup aNil) (aCons (eTup aNil) (aCons (eTup aNil) (aCons (eTup aNil) aNil)))))) (e2 fIsB (eCB (fCall sp_is_sequence) (aCons (eTup aNil) (aCons (eTup aNil) aNil))) (eC (.d (.bool true))))))
  sNil)))))))
theorem walk_law (B : Bt mg) (D__law_behind_right : DefW P w K mg base "_law_behind_right" 3 ["_law_heap_here", "_law_scopes_here", "_law_things"] sp__law_behind_right) (D__law_clusters : DefW P w K mg base "_law_clusters" 2 ["_law_scopes_here", "_law_sequence"] sp__law_clusters) (D__law_costs_right : DefW P w K mg base "_law_costs_right" 6 ["_law_counts", "_law_scopes_here", "_law_sequence", "_law_clusters_here"] sp__law_costs_right) (D__law_draw : DefW P w K mg base "_law_draw" 1 ["_law_heap_here", "_law_many"] sp__law_draw) (D__law_flows_right : DefW P w K mg base "_law_flows_right" 6 ["_law_heap_here", "_law_scopes_here", "_law_sequence", "_law_clusters_here"] sp__law_flows_right) (D__law_greedy : DefW P w K mg base "_law_greedy" 2 ["_law_counts", "_law_scopes_here", "_law_lot"] sp__law_greedy) (D__law_is_sequence : DefW P w K mg base "_law_is_sequence" 1 ["_law_lot", "_law_value"] sp__law_is_sequence) (D__law_net : DefW P w K mg base "_law_net" 3 ["_law_heap_here", "_law_many"] sp__law_net) (D__law_odd : DefW P w K mg base "_law_odd" 3 ["_law_heap_here", "_law_sequence"] sp__law_odd) (D__law_pick : DefW P w K mg base "_law_pick" 2 ["_law_heap_here", "_law_some"] sp__law_pick) (D__law_scopes : DefW P w K mg base "_law_scopes" 3 ["_law_heap_here", "_law_many"] sp__law_scopes) (D__law_shuffled : DefW P w K mg base "_law_shuffled" 2 ["_law_heap_here", "_law_some"] sp__law_shuffled) (D_clusters_by : DefW P w K mg base "clusters_by" 3 ["scopes", "sequence"] sp_clusters_by) (D_cost_by : DefW P w K mg base "cost_by" 5 ["counts", "scopes", "sequence", "kind"] sp_cost_by) (D_flows_by : DefW P w K mg base "flows_by" 4 ["scopes", "sequence"] sp_flows_by) (D_greedy_sequence : DefW P w K mg base "greedy_sequence" 3 ["counts", "scopes", "lot"] sp_greedy_sequence) (D_is_sequence : DefW P w K mg base "is_sequence" 4 ["lot", "value"] sp_is_sequence) (D_scopes_in : DefW P w K mg base "scopes_in" 3 ["net"] sp_scopes_in) (D_scopes_left : DefW P w K mg base "scopes_left" 2 ["scopes", "sequence"] sp_scopes_left) (D_settled_sequence : DefW P w K mg base "settled_sequence" 5 ["scopes", "sequence"] sp_settled_sequence) (NW : NetW P w K mg base 7 okThings) : DSs (S_law P w K mg base) ((defBody s_law).drop 1) T_law :=
  (dss_cons (ds_for (ns := [2]) (dib_rng B rfl (de_add de_int (db_int B rfl (de_gt (db_len B rfl (de_var 0 rfl (by first | exact .inl rfl | exact .inr (.inl rfl) | exact .inr (.inr rfl)))) de_int)))) (dg_name 2 rfl (by first | exact .inl rfl | exact .inr rfl)) (dss_cons (ds_set 4 rfl (by first | exact .inl rfl | exact .inr rfl) (de_add de_int (de_call D__law_draw.at (by show 1 ≤ 8; decide) rfl (da_cons (de_var 1 rfl (by first | exact .inl rfl | exact .inr (.inl rfl) | exact .inr (.inr rfl))) (da_cons de_int da_nil)) rfl)))
  (dss_cons (ds_par 10 11 rfl rfl (by decide) rfl rfl (da_cons (db_tuple B rfl (de_lc' (dlc (own := [(("_law_at" : Str), 16)]) (ns := [16]) (dib_rng B rfl (de_var 4 rfl (by first | exact .inl rfl | exact .inr (.inl rfl) | exact .inr (.inr rfl)))) (dg_name 16 rfl (by first | exact .inl rfl | exact .inr rfl)) dts_nil (de_add de_int (de_call D__law_draw.at (by show 1 ≤ 8; decide) rfl (da_cons (de_var 1 rfl (by first | exact .inl rfl | exact .inr (.inl rfl) | exact .inr (.inr rfl))) (da_cons de_int da_nil)) rfl)) (by decide)) (by dsimp only [S_law, Sx.blk]; decide +kernel))) (da_cons (de_call D__law_scopes.at (by show 3 ≤ 8; decide) rfl (da_cons (de_var 1 rfl (by first | exact .inl rfl | exact .inr (.inl rfl) | exact .inr (.inr rfl))) (da_cons (de_var 4 rfl (by first | exact .inl rfl | exact .inr (.inl rfl) | exact .inr (.inr rfl))) da_nil)) rfl) da_nil)) (by intro env h; cases env; dsimp only at h; subst h; rfl))
  (dss_cons (ds_if (dt_eq (de_call D__law_draw.at (by show 1 ≤ 8; decide) rfl (da_cons (de_var 1 rfl (by first | exact .inl rfl | exact .inr (.inl rfl) | exact .inr (.inr rfl))) (da_cons de_int da_nil)) rfl) de_int) (dss_cons (ds_set 12 rfl (by first | exact .inl rfl | exact .inr rfl) (de_call D__law_net.at (by show 3 ≤ 8; decide) rfl (da_cons (de_var 1 rfl (by first | exact .inl rfl | exact .inr (.inl rfl) | exact .inr (.inr rfl))) (da_cons (de_var 4 rfl (by first | exact .inl rfl | exact .inr (.inl rfl) | exact .inr (.inr rfl))) da_nil)) rfl))
  (dss_cons (ds_par 15 10 rfl rfl (by decide) rfl rfl (da_cons (de_net NW.at (by show 8 ≤ 8; decide) rfl (de_var 12 rfl (by first | exact .inl rfl | exact .inr (.inl rfl) | exact .inr (.inr rfl)))) (da_cons (db_tuple B rfl (de_lc' (dlc (own := [(("_law_thing" : Str), 17)]) (ns := [17]) (di_seq (de_var 12 rfl (by first | exact .inl rfl | exact .inr (.inl rfl) | exact .inr (.inr rfl)))) (dg_name 17 rfl (by first | exact .inl rfl | exact .inr rfl)) dts_nil (de_ix (de_var 17 rfl (by first | exact .inl rfl | exact .inr (.inl rfl) | exact .inr (.inr rfl))) de_int) (by decide)) (by dsimp only [S_law, Sx.blk]; decide +kernel))) da_nil)) (by intro env h; cases env; dsimp only at h; subst h; rfl))
  (dss_cons (ds_set 11 rfl (by first | exact .inl rfl | exact .inr rfl) (de_call D_scopes_in.at (by show 3 ≤ 8; decide) rfl (da_cons (de_var 15 rfl (by first | exact .inl rfl | exact .inr (.inl rfl) | exact .inr (.inr rfl))) da_nil) rfl))
  (dss_cons (ds_if (dt_w (dw_or (dt_neS (db_repr B rfl (de_var 11 rfl (by first | exact .inl rfl | exact .inr (.inl rfl) | exact .inr (.inr rfl)))) (db_repr B rfl (db_tuple B rfl (de_lc' (dlc (own := [(("_law_at" : Str), 16), (("_law_thing" : Str), 17)]) (ns := [16, 17]) (dib_enum B rfl (de_var 12 rfl (by first | exact .inl rfl | exact .inr (.inl rfl) | exact .inr (.inr rfl)))) (dg_tup2 (dg_name 16 rfl (by first | exact .inl rfl | exact .inr rfl)) (dg_name 17 rfl (by first | exact .inl rfl | exact .inr rfl))) dts_nil (de_addT (de_ix (de_var 17 rfl (by first | exact .inl rfl | exact .inr (.inl rfl) | exact .inr (.inr rfl))) de_int) (de_tup (da_cons (de_var 16 rfl (by first | exact .inl rfl | exact .inr (.inl rfl) | exact .inr (.inr rfl))) da_nil))) (by decide)) (by dsimp only [S_law, Sx.blk]; decide +kernel))))) (dw_or1 (dt_ne (de_callR D_scopes_in.at (by show 3 ≤ 8; decide) rfl (dk_cons (de_var 15 rfl (by first | exact .inl rfl | exact .inr (.inl rfl) | exact .inr (.inr rfl))) dk_nil) rfl) (de_var 11 rfl (by first | exact .inl rfl | exact .inr (.inl rfl) | exact .inr (.inr rfl))))))) (dss_cons (ds_ret de_bl)
  dss_nil) dss_nil)
  dss_nil)))) dss_nil)
  (dss_cons (ds_set 5 rfl (by first | exact .inl rfl | exact .inr rfl) (db_tuple B rfl (de_lc' (dlc (own := [(("_law_at" : Str), 16)]) (ns := [16]) (dib_rng B rfl (de_var 4 rfl (by first | exact .inl rfl | exact .inr (.inl rfl) | exact .inr (.inr rfl)))) (dg_name 16 rfl (by first | exact .inl rfl | exact .inr rfl)) (dts_one (dt_gt (de_call D__law_draw.at (by show 1 ≤ 8; decide) rfl (da_cons (de_var 1 rfl (by first | exact .inl rfl | exact .inr (.inl rfl) | exact .inr (.inr rfl))) (da_cons de_int da_nil)) rfl) de_int)) (de_var 16 rfl (by first | exact .inl rfl | exact .inr (.inl rfl) | exact .inr (.inr rfl))) (by decide)) (by dsimp only [S_law, Sx.blk]; decide +kernel))))
  (dss_cons (ds_set 6 rfl (by first | exact .inl rfl | exact .inr rfl) (de_call D__law_shuffled.at (by show 2 ≤ 8; decide) rfl (da_cons (de_var 1 rfl (by first | exact .inl rfl | exact .inr (.inl rfl) | exact .inr (.inr rfl))) (da_cons (de_call D__law_pick.at (by show 2 ≤ 8; decide) rfl (da_cons (de_var 1 rfl (by first | exact .inl rfl | exact .inr (.inl rfl) | exact .inr (.inr rfl))) (da_cons (de_lst (da_cons (de_var 5 rfl (by first | exact .inl rfl | exact .inr (.inl rfl) | exact .inr (.inr rfl))) (da_cons (de_var 5 rfl (by first | exact .inl rfl | exact .inr (.inl rfl) | exact .inr (.inr rfl))) (da_cons (db_tupRg B rfl rfl (de_var 4 rfl (by first | exact .inl rfl | exact .inr (.inl rfl) | exact .inr (.inr rfl)))) da_nil)))) da_nil)) rfl) da_nil)) rfl))
  (dss_cons (ds_set 7 rfl (by first | exact .inl rfl | exact .inr rfl) (de_call D__law_clusters.at (by show 2 ≤ 8; decide) rfl (da_cons (de_var 11 rfl (by first | exact .inl rfl | exact .inr (.inl rfl) | exact .inr (.inr rfl))) (da_cons (de_var 6 rfl (by first | exact .inl rfl | exact .inr (.inl rfl) | exact .inr (.inr rfl))) da_nil)) rfl))
  (dss_cons (ds_if (dt_w (dw_or (dt_not (dt_val (de_call D__law_costs_right.at (by show 6 ≤ 8; decide) rfl (da_cons (de_var 10 rfl (by first | exact .inl rfl | exact .inr (.inl rfl) | exact .inr (.inr rfl))) (da_cons (de_var 11 rfl (by first | exact .inl rfl | exact .inr (.inl rfl) | exact .inr (.inr rfl))) (da_cons (de_var 6 rfl (by first | exact .inl rfl | exact .inr (.inl rfl) | exact .inr (.inr rfl))) (da_cons (de_var 7 rfl (by first | exact .inl rfl | exact .inr (.inl rfl) | exact .inr (.inr rfl))) da_nil)))) rfl))) (dw_or1 (dt_not (dt_val (de_call D__law_flows_right.at (by show 6 ≤ 8; decide) rfl (da_cons (de_var 1 rfl (by first | exact .inl rfl | exact .inr (.inl rfl) | exact .inr (.inr rfl))) (da_cons (de_var 11 rfl (by first | exact .inl rfl | exact .inr (.inl rfl) | exact .inr (.inr rfl))) (da_cons (de_var 6 rfl (by first | exact .inl rfl | exact .inr (.inl rfl) | exact .inr (.inr rfl))) (da_cons (de_var 7 rfl (by first | exact .inl rfl | exact .inr (.inl rfl) | exact .inr (.inr rfl))) da_nil)))) rfl)))))) (dss_cons (ds_ret de_bl)
  dss_nil) dss_nil)
  (dss_cons (ds_if (dt_not (dt_val (de_call D__law_behind_right.at (by show 3 ≤ 8; decide) rfl (da_cons (de_var 1 rfl (by first | exact .inl rfl | exact .inr (.inl rfl) | exact .inr (.inr rfl))) (da_cons (de_var 11 rfl (by first | exact .inl rfl | exact .inr (.inl rfl) | exact .inr (.inr rfl))) (da_cons (db_tupRg B rfl rfl (de_var 4 rfl (by first | exact .inl rfl | exact .inr (.inl rfl) | exact .inr (.inr rfl)))) da_nil))) rfl))) (dss_cons (ds_ret de_bl)
  dss_nil) dss_nil)
  (dss_cons (ds_set 8 rfl (by first | exact .inl rfl | exact .inr rfl) (de_call D__law_greedy.at (by show 2 ≤ 8; decide) rfl (da_cons (de_var 10 rfl (by first | exact .inl rfl | exact .inr (.inl rfl) | exact .inr (.inr rfl))) (da_cons (de_var 11 rfl (by first | exact .inl rfl | exact .inr (.inl rfl) | exact .inr (.inr rfl))) (da_cons (de_var 5 rfl (by first | exact .inl rfl | exact .inr (.inl rfl) | exact .inr (.inr rfl))) da_nil))) rfl))
  (dss_cons (ds_if (dt_w (dw_or (dt_neS (db_repr B rfl (de_call D_greedy_sequence.at (by show 3 ≤ 8; decide) rfl (da_cons (de_var 10 rfl (by first | exact .inl rfl | exact .inr (.inl rfl) | exact .inr (.inr rfl))) (da_cons (de_var 11 rfl (by first | exact .inl rfl | exact .inr (.inl rfl) | exact .inr (.inr rfl))) (da_cons (de_var 5 rfl (by first | exact .inl rfl | exact .inr (.inl rfl) | exact .inr (.inr rfl))) da_nil))) rfl)) (db_repr B rfl (de_var 8 rfl (by first | exact .inl rfl | exact .inr (.inl rfl) | exact .inr (.inr rfl))))) (dw_or1 (dt_ne (de_callR D_greedy_sequence.at (by show 3 ≤ 8; decide) rfl (dk_cons (de_var 5 rfl (by first | exact .inl rfl | exact .inr (.inl rfl) | exact .inr (.inr rfl))) (dk_cons (de_var 11 rfl (by first | exact .inl rfl | exact .inr (.inl rfl) | exact .inr (.inr rfl))) (dk_cons (de_var 10 rfl (by first | exact .inl rfl | exact .inr (.inl rfl) | exact .inr (.inr rfl))) dk_nil))) rfl) (de_var 8 rfl (by first | exact .inl rfl | exact .inr (.inl rfl) | exact .inr (.inr rfl))))))) (dss_cons (ds_ret de_bl)
  dss_nil) dss_nil)
  (dss_cons (ds_for (ns := [9]) (di_lst (da_cons (de_var 6 rfl (by first | exact .inl rfl | exact .inr (.inl rfl) | exact .inr (.inr rfl))) (da_cons (de_call D__law_odd.at (by show 3 ≤ 8; decide) rfl (da_cons (de_var 1 rfl (by first | exact .inl rfl | exact .inr (.inl rfl) | exact .inr (.inr rfl))) (da_cons (de_var 6 rfl (by first | exact .inl rfl | exact .inr (.inl rfl) | exact .inr (.inr rfl))) da_nil)) rfl) (da_cons (de_call D__law_odd.at (by show 3 ≤ 8; decide) rfl (da_cons (de_var 1 rfl (by first | exact .inl rfl | exact .inr (.inl rfl) | exact .inr (.inr rfl))) (da_cons (de_var 6 rfl (by first | exact .inl rfl | exact .inr (.inl rfl) | exact .inr (.inr rfl))) da_nil)) rfl) (da_cons (de_var 5 rfl (by first | exact .inl rfl | exact .inr (.inl rfl) | exact .inr (.inr rfl))) (da_cons (de_var 8 rfl (by first | exact .inl rfl | exact .inr (.inl rfl) | exact .inr (.inr rfl))) da_nil)))))) (dg_name 9 rfl (by first | exact .inl rfl | exact .inr rfl)) (dss_cons (ds_set 13 rfl (by first | exact .inl rfl | exact .inr rfl) (db_tuple B rfl (db_sortT B rfl (de_var 6 rfl (by first | exact .inl rfl | exact .inr (.inl rfl) | exact .inr (.inr rfl))))))
  (dss_cons (ds_set 14 rfl (by first | exact .inl rfl | exact .inr rfl) (de_call D__law_is_sequence.at (by show 1 ≤ 8; decide) rfl (da_cons (de_var 13 rfl (by first | exact .inl rfl | exact .inr (.inl rfl) | exact .inr (.inr rfl))) (da_cons (de_var 9 rfl (by first | exact .inl rfl | exact .inr (.inl rfl) | exact .inr (.inr rfl))) da_nil)) rfl))
  (dss_cons (ds_if (dt_w (dw_or (dt_neS (db_repr B rfl (de_call D_is_sequence.at (by show 4 ≤ 8; decide) rfl (da_cons (de_var 13 rfl (by first | exact .inl rfl | exact .inr (.inl rfl) | exact .inr (.inr rfl))) (da_cons (de_var 9 rfl (by first | exact .inl rfl | exact .inr (.inl rfl) | exact .inr (.inr rfl))) da_nil)) rfl)) (db_repr B rfl (de_var 14 rfl (by first | exact .inl rfl | exact .inr (.inl rfl) | exact .inr (.inr rfl))))) (dw_or1 (dt_ne (de_callR D_is_sequence.at (by show 4 ≤ 8; decide) rfl (dk_cons (de_var 9 rfl (by first | exact .inl rfl | exact .inr (.inl rfl) | exact .inr (.inr rfl))) (dk_cons (de_var 13 rfl (by first | exact .inl rfl | exact .inr (.inl rfl) | exact .inr (.inr rfl))) dk_nil)) rfl) (de_var 14 rfl (by first | exact .inl rfl | exact .inr (.inl rfl) | exact .inr (.inr rfl))))))) (dss_cons (ds_ret de_bl)
  dss_nil) dss_nil)
  dss_nil))))
  dss_nil))))))))))))
  (dss_cons (ds_set 3 rfl (by first | exact .inl rfl | exact .inr rfl) (de_tup (da_cons (de_tup (da_cons de_int (da_cons de_int da_nil))) (da_cons (de_tup (da_cons de_int (da_cons de_int da_nil))) (da_cons (de_tup (da_cons de_int (da_cons de_int da_nil))) (da_cons (de_tup (da_cons de_int (da_cons de_int da_nil))) da_nil))))))
  (dss_cons (ds_if (dt_w (dw_or (dt_ne (de_call D_clusters_by.at (by show 3 ≤ 8; decide) rfl (da_cons (de_var 3 rfl (by first | exact .inl rfl | exact .inr (.inl rfl) | exact .inr (.inr rfl))) (da_cons (de_tup (da_cons de_int (da_cons de_int (da_cons de_int (da_cons de_int da_nil))))) da_nil)) rfl) (de_tup (da_cons (de_tup (da_cons de_int (da_cons de_int (da_cons de_int da_nil)))) (da_cons (de_tup (da_cons de_int (da_cons de_int (da_cons de_int da_nil)))) (da_cons (de_tup (da_cons de_int (da_cons de_int da_nil))) (da_cons (de_tup (da_cons de_int da_nil)) da_nil)))))) (dw_or1 (dt_ne (de_call D_settled_sequence.at (by show 5 ≤ 8; decide) rfl (da_cons (de_var 3 rfl (by first | exact .inl rfl | exact .inr (.inl rfl) | exact .inr (.inr rfl))) (da_cons (de_tup (da_cons de_int (da_cons de_int (da_cons de_int (da_cons de_int da_nil))))) da_nil)) rfl) (de_tup (da_cons de_int (da_cons de_int (da_cons de_int (da_cons de_int da_nil))))))))) (dss_cons (ds_ret de_bl)
  dss_nil) dss_nil)
  (dss_cons (ds_if (dt_w (dw_or (dt_ne (de_call D_scopes_left.at (by show 2 ≤ 8; decide) rfl (da_cons (de_var 3 rfl (by first | exact .inl rfl | exact .inr (.inl rfl) | exact .inr (.inr rfl))) (da_cons (de_tup (da_cons de_int (da_cons de_int da_nil))) da_nil)) rfl) (de_tup (da_cons (de_tup (da_cons de_int (da_cons de_int da_nil))) (da_cons (de_tup (da_cons de_int (da_cons de_int da_nil))) da_nil)))) (dw_or1 (dt_ne (de_call D_flows_by.at (by show 4 ≤ 8; decide) rfl (da_cons (de_var 3 rfl (by first | exact .inl rfl | exact .inr (.inl rfl) | exact .inr (.inr rfl))) (da_cons (de_tup (da_cons de_int (da_cons de_int (da_cons de_int (da_cons de_int da_nil))))) da_nil)) rfl) (de_tup (da_cons de_int (da_cons de_int (da_cons de_int (da_cons de_non da_nil))))))))) (dss_cons (ds_ret de_bl)
  dss_nil) dss_nil)
  (dss_cons (ds_if (dt_ne (de_call D_greedy_sequence.at (by show 3 ≤ 8; decide) rfl (da_cons (de_tup (da_cons de_int (da_cons de_int (da_cons de_int (da_cons de_int da_nil))))) (da_cons (de_var 3 rfl (by first | exact .inl rfl | exact .inr (.inl rfl) | exact .inr (.inr rfl))) (da_cons (de_tup (da_cons de_int (da_cons de_int (da_cons de_int (da_cons de_int da_nil))))) da_nil))) rfl) (de_tup (da_cons de_int (da_cons de_int (da_cons de_int (da_cons de_int da_nil)))))) (dss_cons (ds_ret de_bl)
  dss_nil) dss_nil)
  (dss_cons (ds_if (dt_ne (de_tup (da_cons (de_call D_cost_by.at (by show 5 ≤ 8; decide) rfl (da_cons (de_tup (da_cons de_int da_nil)) (da_cons (de_tup da_nil) (da_cons (de_tup da_nil) (da_cons de_str da_nil)))) rfl) (da_cons (de_call D_cost_by.at (by show 5 ≤ 8; decide) rfl (da_cons (de_tup da_nil) (da_cons (de_tup da_nil) (da_cons (de_tup da_nil) (da_cons de_str da_nil)))) rfl) (da_cons (de_call D_cost_by.at (by show 5 ≤ 8; decide) rfl (da_cons (de_tup (da_cons de_int da_nil)) (da_cons (de_tup da_nil) (da_cons (de_tup (da_cons de_int da_nil)) (da_cons de_str da_nil)))) rfl) da_nil)))) (de_tup (da_cons de_int (da_cons de_int (da_cons de_int da_nil))))) (dss_cons (ds_ret de_bl)
  dss_nil) dss_nil)
  (dss_cons (ds_ret (de_and (de_eq (de_tup (da_cons (de_call D_clusters_by.at (by show 3 ≤ 8; decide) rfl (da_cons (de_tup da_nil) (da_cons (de_tup da_nil) da_nil)) rfl) (da_cons (de_call D_settled_sequence.at (by show 5 ≤ 8; decide) rfl (da_cons (de_tup da_nil) (da_cons (de_tup da_nil) da_nil)) rfl) (da_cons (de_call D_scopes_left.at (by show 2 ≤ 8; decide) rfl (da_cons (de_tup da_nil) (da_cons (de_tup da_nil) da_nil)) rfl) (da_cons (de_call D_greedy_sequence.at (by show 3 ≤ 8; decide) rfl (da_cons (de_tup da_nil) (da_cons (de_tup da_nil) (da_cons (de_tup da_nil) da_nil))) rfl) da_nil))))) (de_tup (da_cons (de_tup da_nil) (da_cons (de_tup da_nil) (da_cons (de_tup da_nil) (da_cons (de_tup da_nil) da_nil)))))) (de_one (de_isB (de_call D_is_sequence.at (by show 4 ≤ 8; decide) rfl (da_cons (de_tup da_nil) (da_cons (de_tup da_nil) da_nil)) rfl) de_bl))))
  dss_nil)))))))
theorem sc_law : FnScope N_law ["_law_script"] (defScope s_law) := ⟨rfl, rfl, rfl, by decide +kernel, rfl, by decide +kernel, by decide +kernel⟩
end
end K20
set_option Elab.async false
set_option linter.all false
set_option maxRecDepth 100000
set_option maxHeartbeats 1000000
namespace K20
open PySem PySem.Spec PyProof.Rows L2 DL
/-- all of them pure, item by item -/
def pA : List EV → Bool
  | [] => true
  | r :: rs => pureE r && pA rs
@[simp] theorem pA_nil : pA [] = true := rfl
@[simp] theorem pA_cons {r : EV} {rs : List EV} : pA (r :: rs) = (pureE r && pA rs) := rfl
theorem pA_all : ∀ rs : List EV, rs.all pureE = pA rs
  | [] => rfl
  | r :: rs => by rw [List.all_cons, pA_cons, pA_all rs]
/-! ### the readings, step by step -/
section
variable {ρ : DL.Env} {D : DEnds} {t u : TSd} {ta tb to tk tv te : TD} {tc tt tt1 : TB} {tA tr : TAd} {Q : EV → Prop} {R : Bool → Prop} {A : List EV → Prop} {ti ti1 : TId} {g g1 : TGd} {f : EV → EV → (EV → Prop) → Prop} {h : EV → (EV → Prop) → Prop} {hh : List EV → (EV → Prop) → Prop} {i j l : Nat} {vs vs1 : List Nat} {m : Bool}
@[simp ↓] theorem r_then : sThen t u D ρ = t { nx := u D, rt := D.rt, bk := D.bk, ct := D.ct } ρ := rfl
@[simp ↓] theorem r_nil : sNil D ρ = D.nx ρ := rfl
@[simp ↓] theorem r_if : sIf tc t u D ρ = tc ρ fun b => (b = true → t D ρ) ∧ (b = false → u D ρ) := by
  unfold sIf
  congr 1
  funext b
  cases b <;> simp
@[simp ↓] theorem r_ret : sRet ta D ρ = ta ρ D.rt := rfl
@[simp ↓] theorem r_expr : sExpr ta D ρ = ta ρ fun _ => D.nx ρ := rfl
@[simp ↓] theorem r_never : sNever D ρ = False := rfl
@[simp ↓] theorem r_break : sBreak D ρ = D.bk ρ := rfl
@[simp ↓] theorem r_cont : sCont D ρ = D.ct ρ := rfl
@[simp ↓] theorem r_set : sSet i ta D ρ = ta ρ fun r => keep r = true ∧ D.nx (ρ.set i (some r)) := rfl
@[simp ↓] theorem r_asg : sAsg ta g D ρ = ta ρ fun r => g r ρ D.nx := rfl
@[simp ↓] theorem r_par : sPar i j tA D ρ = tA ρ fun rs => match rs with
  | [q, r] => keep q = true ∧ keep r = true ∧ D.nx ((ρ.set i (some q)).set j (some r))
  | _ => False := rfl
@[simp ↓] theorem r_par3 : sPar3 i j l tA D ρ = tA ρ fun rs => match rs with
  | [q, r, y] => keep q = true ∧ keep r = true ∧ keep y = true ∧ D.nx (((ρ.set i (some q)).set j (some r)).set l (some y))
  | _ => False := rfl
@[simp ↓] theorem r_aug : sAug i f te D ρ = match ρ[i]? with
  | some (some x) => te ρ fun y => f (rd x) y fun r => keep r = true ∧ D.nx (ρ.set i (some r))
  | _ => False := rfl
@[simp ↓] theorem r_for : sFor ti g t D ρ = ti ρ fun rs => forGo g t D rs ρ := rfl
@[simp ↓] theorem r_forN : forGo g t D [] ρ = D.nx ρ := rfl
@[simp] theorem r_forC {r : EV} {rs : List EV} : forGo g t D (r :: rs) ρ = g r ρ fun ρ2 => t { nx := forGo g t D rs, rt := D.rt, bk := D.nx, ct := forGo g t D rs } ρ2 := rfl
@[simp ↓] theorem r_app : sApp i te D ρ = match ρ[i]? with
  | some (some (.o xs)) => te ρ fun y => match frz y with
    | some d => xs.length < 1000 ∧ D.nx (ρ.set i (some (.o (xs ++ [d]))))
    | none => False
  | _ => False := rfl
@[simp ↓] theorem r_rem : sRem i te D ρ = match ρ[i]? with
  | some (some (.o xs)) => te ρ fun y => match y with
    | .d (.int k) => ∃ ns, intsOf xs = some ns ∧ k ∈ ns ∧ D.nx (ρ.set i (some (.o ((ns.erase k).map .int))))
    | _ => False
  | _ => False := rfl
@[simp ↓] theorem r_add : sAdd i te D ρ = match ρ[i]? with
  | some (some (.s ns)) => te ρ fun y => match y with
    | .d (.int k) => ns.length < 1000 ∧ D.nx (ρ.set i (some (.s (addN ns k))))
    | _ => False
  | _ => False := rfl
@[simp ↓] theorem r_appPop : sAppPop i j te D ρ = match ρ[i]?, ρ[j]? with
  | some (some (.o xs)), some (some (.o ys)) => te ρ fun y => match y with
    | .d (.int n) => 0 ≤ n ∧ xs.length < 1000 ∧ ys.length < 1000 ∧ ∃ d, ys[n.toNat]? = some d ∧ D.nx ((ρ.set j (some (.o (ys.eraseIdx n.toNat)))).set i (some (.o (xs ++ [d]))))
    | _ => False
  | _, _ => False := rfl
@[simp ↓] theorem r_frz : sFrz i t D ρ = match ρ[i]? with
  | some (some (.o xs)) => t D (ρ.set i (some (.d (.list xs))))
  | _ => t D ρ := rfl
@[simp ↓] theorem r_var : eVar i ρ Q = match ρ[i]? with
  | some (some ev) => Q (rd ev)
  | _ => False := rfl
@[simp ↓] theorem r_c {r : EV} : eC r ρ Q = Q r := rfl
@[simp ↓] theorem r_e1 : e1 h ta ρ Q = ta ρ fun x => h x Q := rfl
@[simp ↓] theorem r_e2 : e2 f ta tb ρ Q = ta ρ fun x => tb ρ fun y => f x y Q := rfl
@[simp ↓] theorem r_eA2 : eA2 hh ta tb ρ Q = ta ρ fun x => tb ρ fun y => hh [x, y] Q := rfl
@[simp ↓] theorem r_eT : eT ta ρ R = ta ρ fun x => match x with
  | .d (.bool b) => R b
  | _ => False := rfl
@[simp ↓] theorem r_and {t u : TB} : bAnd t u ρ R = t ρ fun c => (c = true → u ρ R) ∧ (c = false → R false) := by
  unfold bAnd
  congr 1
  funext b
  cases b <;> simp
@[simp ↓] theorem r_or {t u : TB} : bOr t u ρ R = t ρ fun c => (c = true → R true) ∧ (c = false → u ρ R) := by
  unfold bOr
  congr 1
  funext b
  cases b <;> simp
@[simp ↓] theorem r_not {t : TB} : bNot t ρ R = t ρ fun c => R (!c) := rfl
@[simp ↓] theorem r_eAnd : eAnd ta tb ρ Q = ta ρ fun x => match x with
  | .d (.bool c) => (c = true → tb ρ Q) ∧ (c = false → Q (.d (.bool false)))
  | _ => False := by
  unfold eAnd
  congr 1
  funext x
  cases x <;> try rfl
  rename_i y
  cases y <;> try rfl
  rename_i b
  cases b <;> simp
@[simp ↓] theorem r_eOr : eOr ta tb ρ Q = ta ρ fun x => match x with
  | .d (.bool c) => (c = true → Q (.d (.bool true))) ∧ (c = false → tb ρ Q)
  | _ => False := by
  unfold eOr
  congr 1
  funext x
  cases x <;> try rfl
  rename_i y
  cases y <;> try rfl
  rename_i b
  cases b <;> simp
@[simp ↓] theorem r_eNot : eNot ta ρ Q = ta ρ fun x => match x with
  | .d (.bool b) => Q (.d (.bool (!b)))
  | _ => False := rfl
@[simp ↓] theorem r_eIf : eIf tc ta tb ρ Q = tc ρ fun c => (c = true → ta ρ Q) ∧ (c = false → tb ρ Q) := by
  unfold eIf
  congr 1
  funext b
  cases b <;> simp
@[simp ↓] theorem r_aNil : aNil ρ A = A [] := rfl
@[simp ↓] theorem r_aCons : aCons ta tr ρ A = ta ρ fun x => tr ρ fun xs => A (x :: xs) := rfl
@[simp ↓] theorem r_eCB : eCB hh tA ρ Q = tA ρ fun rs => hh rs Q := rfl
@[simp ↓] theorem r_eTup : eTup tA ρ Q = tA ρ fun rs => match frzA rs with
  | some ds => Q (.d (.tuple ds))
  | none => False := rfl
@[simp ↓] theorem r_eLst : eLst tA ρ Q = tA ρ fun rs => match frzA rs with
  | some ds => Q (.o ds)
  | none => False := rfl
@[simp ↓] theorem r_iS : iS m ta ρ A = ta ρ fun x => match asM m x with
  | some xs => A (xs.map .d)
  | none => False := rfl
@[simp ↓] theorem r_iR : iR ta ρ A = ta ρ fun x => iR1 [x] A := rfl
@[simp ↓] theorem r_iR1 {n : Int} : iR1 [.d (.int n)] A = (n ≤ 100000 ∧ -100000 ≤ n ∧ A ((List.range n.toNat).map fun (i : Nat) => EV.d (.int (i : Int)))) := rfl
@[simp ↓] theorem r_iE : iE m ta ρ A = ta ρ fun x => iE1 m [x] A := rfl
@[simp ↓] theorem r_iE1 {x : EV} : iE1 m [x] A = match asM m x with
    | some xs => A (enl xs)
    | none => False := rfl
@[simp ↓] theorem r_iZ : iZ ta tb ρ A = ta ρ fun x => tb ρ fun y => iZ2 [x, y] A := rfl
@[simp ↓] theorem r_iZ2 {x y : EV} : iZ2 [x, y] A = match asT x, asT y with
    | some xs, some ys => A (zil xs ys)
    | _, _ => False := rfl
@[simp ↓] theorem r_iT : iT ta ρ A = ta ρ fun x => match x with
  | .d (.str z) => A (sgl z)
  | _ => False := rfl
@[simp ↓] theorem r_iL : iL tA ρ A = tA ρ fun rs => rs.all dn? = true ∧ A rs := rfl
@[simp ↓] theorem r_gN {r : EV} {Q : DL.Env → Prop} : gN i r ρ Q = (dn? r = true ∧ Q (ρ.set i (some r))) := rfl
@[simp ↓] theorem r_gT {r : EV} {u : TGsd} {Q : DL.Env → Prop} : gT u r ρ Q = match asT r with
  | some ds => u ds ρ Q
  | none => False := rfl
@[simp ↓] theorem r_gsC {d : PyData} {ds : List PyData} {u : TGsd} {Q : DL.Env → Prop} : gsCons g u (d :: ds) ρ Q = g (.d d) ρ fun ρ' => u ds ρ' Q := rfl
@[simp ↓] theorem r_gsN {ds : List PyData} {Q : DL.Env → Prop} : gsNil ds ρ Q = (ds = [] ∧ Q ρ) := rfl
@[simp ↓] theorem r_lc : eLc ti g tt te vs ρ Q = ti ρ fun rs => lcGo g tt te (wp ρ vs) rs [] fun ds => Q (.o ds) := rfl
@[simp ↓] theorem r_sc : eSc ti g tt te vs ρ Q = ti ρ fun rs => scGo g tt te (wp ρ vs) rs [] fun ds => Q (.s ds) := rfl
@[simp ↓] theorem r_dc : eDc ti g tt tk tv vs ρ Q = ti ρ fun rs => dcGo g tt tk tv (wp ρ vs) rs [] fun ds => Q (.dic ds) := rfl
@[simp ↓] theorem r_lc2 : eLc2 ti g tt ti1 g1 tt1 te vs vs1 ρ Q = ti ρ fun rs => lc2Go g tt ti1 g1 tt1 te vs1 (wp ρ vs) rs [] fun ds => Q (.o ds) := rfl
@[simp ↓] theorem r_yes : bYes ρ R = R true := rfl
@[simp ↓] theorem r_wpN : wp ρ [] = ρ := rfl
@[simp ↓] theorem r_wpC {v : Nat} : wp ρ (v :: vs) = (wp ρ vs).set v none := rfl
@[simp ↓] theorem r_set1 : eSet1 te ρ Q = te ρ fun y => match y with
  | .d (.int c) => Q (.s [c])
  | _ => False := rfl
@[simp ↓] theorem r_tuple : eTuple ta ρ Q = ta ρ fun x => match asL x, asT x with
  | some xs, _ => Q (.d (.tuple xs))
  | none, some xs => Q (.d (.tuple xs))
  | none, none => False := rfl
@[simp ↓] theorem r_tupleN : eTupleN ta ρ Q = ta ρ fun x => match asL x with
  | some xs => Q (.dn (.tuple xs))
  | none => False := rfl
@[simp ↓] theorem r_tupRg : eTupRg ta ρ Q = ta ρ fun x => match x with
  | .d (.int n) => 0 ≤ n ∧ n ≤ 1000 ∧ Q (.d (.tuple ((List.range n.toNat).map fun (i : Nat) => .int (i : Int))))
  | _ => False := rfl
@[simp ↓] theorem r_neg : eNeg ta ρ Q = ta ρ fun x => match x with
  | .d (.int i) => Q (.d (.int (-i)))
  | _ => False := rfl
@[simp ↓] theorem r_backT : eBackT ta ρ Q = ta ρ fun x => match asT x with
  | some xs => Q (.d (.tuple xs.reverse))
  | none => False := rfl
@[simp ↓] theorem r_backL : eBackL ta ρ Q = ta ρ fun x => match asL x with
  | some xs => Q (.o xs.reverse)
  | none => False := rfl
@[simp ↓] theorem r_slT {tl th : TOd} : eSlT ta tl th ρ Q = ta ρ fun x => tl ρ fun lo => th ρ fun hi => match asT x with
  | some xs => Q (.d (.tuple (DL.cut xs lo hi)))
  | none => False := rfl
@[simp ↓] theorem r_slS {tl th : TOd} : eSlS ta tl th ρ Q = ta ρ fun x => tl ρ fun lo => th ρ fun hi => match x with
  | .scr ns => Q (.o ((DL.cut ns lo hi).map .int))
  | _ => False := rfl
@[simp ↓] theorem r_oN {Q : Option Int → Prop} : oNone ρ Q = Q none := rfl
@[simp ↓] theorem r_oS {Q : Option Int → Prop} : oSome ta ρ Q = ta ρ fun x => match x with
  | .d (.int i) => Q (some i)
  | _ => False := rfl
@[simp ↓] theorem r_things : eThings ta ρ Q = ta ρ fun x => match x with
  | .net d => Q (.d d)
  | _ => False := rfl
@[simp ↓] theorem r_chain {tc : TD} : eChain ta tb tc ρ R = ta ρ fun x => tb ρ fun y => match x, y with
  | .d (.int i), .d (.int j) => (i ≤ j → tc ρ fun z => match z with
      | .d (.int l) => R (decide (j ≤ l))
      | _ => False) ∧ (¬ i ≤ j → R false)
  | _, _ => False := by
  unfold eChain
  congr 1
  funext x
  congr 1
  funext y
  cases x <;> try rfl
  rename_i a
  cases a <;> try rfl
  rename_i i
  cases y <;> try rfl
  rename_i b
  cases b <;> try rfl
  rename_i j
  by_cases hij : i ≤ j
  · simp only [hij, decide_true, not_true_eq_false, false_implies, and_true, true_implies] <;> rfl
  · simp only [hij, decide_false, not_false_eq_true, false_implies, true_and, true_implies]
@[simp ↓] theorem r_lix : eLix to ta ρ Q = to ρ fun x => match asL x with
  | some xs => ta ρ fun y => fLix xs Q [y]
  | none => False := rfl
@[simp ↓] theorem r_fLix {xs : List PyData} {k : Int} : fLix xs Q [.d (.int k)] = ∃ ns, intsOf xs = some ns ∧ k ∈ ns ∧ Q (.d (.int (ns.idxOf k : Nat))) := rfl
@[simp ↓] theorem r_tix : eTix to ta ρ Q = to ρ fun x => match x with
  | .dn (.tuple xs) => ∃ ns, intsOf xs = some ns ∧ ta ρ fun y => fTix ns Q [y]
  | _ => False := rfl
@[simp ↓] theorem r_fTix {ns : List Int} {k : Int} : fTix ns Q [.d (.int k)] = (k ∈ ns ∧ Q (.d (.int (ns.idxOf k : Nat)))) := rfl
@[simp ↓] theorem r_net {ok : PyData → Prop} : eNet ok ta ρ Q = ta ρ fun x => match x with
  | .d d => ok d ∧ Q (.net d)
  | _ => False := rfl
@[simp ↓] theorem r_call {sp : FD} {rs : List EV} : fCall sp rs Q = match argA rs with
  | some as => sp as fun r => (pA rs = true ∨ lfr r = true) ∧ Q r
  | none => False := by
  rw [← pA_all]
  rfl
@[simp] theorem r_argN : argA [] = some [] := rfl
@[simp] theorem r_argC {r : EV} {rs : List EV} : argA (r :: rs) = match arg r, argA rs with
    | some a, some as => some (a :: as)
    | _, _ => none := rfl
@[simp] theorem r_arg_d {x : PyData} : arg (.d x) = some (.d x) := rfl
@[simp] theorem r_arg_dn {x : PyData} : arg (.dn x) = some (.d x) := rfl
@[simp] theorem r_arg_l {x : List PyData} : arg (.l x) = some (.d (.list x)) := rfl
@[simp] theorem r_arg_o {x : List PyData} : arg (.o x) = some (.d (.list x)) := rfl
@[simp] theorem r_arg_hp : arg .hp = some .hp := rfl
@[simp] theorem r_arg_net {x : PyData} : arg (.net x) = some (.net x) := rfl
@[simp] theorem r_arg_scr {x : List Int} : arg (.scr x) = some (.scr x) := rfl
@[simp] theorem r_pu_d {x : PyData} : pureE (.d x) = true := rfl
@[simp] theorem r_pu_dn {x : PyData} : pureE (.dn x) = true := rfl
@[simp] theorem r_pu_l {x : List PyData} : pureE (.l x) = false := rfl
@[simp] theorem r_pu_o {x : List PyData} : pureE (.o x) = false := rfl
@[simp] theorem r_pu_hp : pureE .hp = true := rfl
@[simp] theorem r_pu_net {x : PyData} : pureE (.net x) = true := rfl
@[simp] theorem r_rd_d {x : PyData} : rd (.d x) = .d x := rfl
@[simp] theorem r_rd_dn {x : PyData} : rd (.dn x) = .dn x := rfl
@[simp] theorem r_rd_o {x : List PyData} : rd (.o x) = .l x := rfl
@[simp] theorem r_rd_s {x : List Int} : rd (.s x) = .rs x := rfl
@[simp] theorem r_rd_hp : rd .hp = .hp := rfl
@[simp] theorem r_rd_net {x : PyData} : rd (.net x) = .net x := rfl
@[simp] theorem r_rd_scr {x : List Int} : rd (.scr x) = .scr x := rfl
@[simp] theorem r_rd_dic {x : List (Int × PyData)} : rd (.dic x) = .dic x := rfl
@[simp] theorem r_k_d {x : PyData} : keep (.d x) = true := rfl
@[simp] theorem r_k_dn {x : PyData} : keep (.dn x) = true := rfl
@[simp] theorem r_k_o {x : List PyData} : keep (.o x) = true := rfl
@[simp] theorem r_k_s {x : List Int} : keep (.s x) = true := rfl
@[simp] theorem r_k_dic {x : List (Int × PyData)} : keep (.dic x) = true := rfl
@[simp] theorem r_k_net {x : PyData} : keep (.net x) = true := rfl
@[simp] theorem r_dn_d {x : PyData} : dn? (.d x) = true := rfl
@[simp] theorem r_dn_dn {x : PyData} : dn? (.dn x) = true := rfl
@[simp] theorem r_frz_d {x : PyData} : frz (.d x) = some x := rfl
@[simp] theorem r_frz_dn {x : PyData} : frz (.dn x) = some x := rfl
@[simp] theorem r_frz_o {x : List PyData} : frz (.o x) = some (.list x) := rfl
@[simp] theorem r_frzN : frzA [] = some [] := rfl
@[simp] theorem r_frzC {r : EV} {rs : List EV} : frzA (r :: rs) = match frz r, frzA rs with
    | some d, some ds => some (d :: ds)
    | _, _ => none := rfl
@[simp] theorem r_asL_l {x : List PyData} : asL (.l x) = some x := rfl
@[simp] theorem r_asL_o {x : List PyData} : asL (.o x) = some x := rfl
@[simp] theorem r_asL_dl {x : List PyData} : asL (.d (.list x)) = some x := rfl
@[simp] theorem r_asL_dt {x : List PyData} : asL (.d (.tuple x)) = none := rfl
@[simp] theorem r_asL_dn {x : PyData} : asL (.dn x) = none := rfl
@[simp] theorem r_asT_l {x : List PyData} : asT (.l x) = none := rfl
@[simp] theorem r_asT_dt {x : List PyData} : asT (.d (.tuple x)) = some x := rfl
@[simp] theorem r_asT_dn {x : List PyData} : asT (.dn (.tuple x)) = some x := rfl
@[simp] theorem r_seq_l {x : List PyData} : asSeq (.l x) = some x := rfl
@[simp] theorem r_seq_o {x : List PyData} : asSeq (.o x) = some x := rfl
@[simp] theorem r_seq_dl {x : List PyData} : asSeq (.d (.list x)) = some x := rfl
@[simp] theorem r_seq_dt {x : List PyData} : asSeq (.d (.tuple x)) = some x := rfl
@[simp] theorem r_seq_dn {x : List PyData} : asSeq (.dn (.tuple x)) = some x := rfl
@[simp] theorem r_seq_str {x : Str} : asSeq (.d (.str x)) = none := rfl
@[simp] theorem r_seq_scr {x : List Int} : asSeq (.scr x) = none := rfl
@[simp] theorem r_asM_f {x : EV} : asM false x = asSeq x := rfl
@[simp] theorem r_asM_t {x : EV} : asM true x = asF x := rfl
@[simp] theorem r_asF_o {x : List PyData} : asF (.o x) = some x := rfl
@[simp] theorem r_asF_dl {x : List PyData} : asF (.d (.list x)) = some x := rfl
@[simp] theorem r_asF_dt {x : List PyData} : asF (.d (.tuple x)) = some x := rfl
@[simp] theorem r_asF_dn {x : List PyData} : asF (.dn (.tuple x)) = some x := rfl
@[simp] theorem r_dt_d {x : PyData} : dt (.d x) = some x := rfl
@[simp] theorem r_dt_dn {x : PyData} : dt (.dn x) = some x := rfl
@[simp] theorem r_dt_k {x : PyData} : dt (.k x) = some x := rfl
@[simp] theorem r_dt_l {x : List PyData} : dt (.l x) = some (.list x) := rfl
@[simp] theorem r_dt_o {x : List PyData} : dt (.o x) = some (.list x) := rfl
@[simp] theorem r_lfr_d {x : PyData} : lfr (.d x) = lf x := rfl
@[simp] theorem r_lfr_o {x : List PyData} : lfr (.o x) = lfA x := rfl
@[simp] theorem r_lfr_dn {x : PyData} : lfr (.dn x) = lf x := rfl
@[simp ↓] theorem r_fEqS {a b : Str} : fEqS (.d (.str a)) (.d (.str b)) Q = Q (.d (.bool (decide (a = b)))) := rfl
@[simp ↓] theorem r_fNeS {a b : Str} : fNeS (.d (.str a)) (.d (.str b)) Q = Q (.d (.bool (!decide (a = b)))) := rfl
/-! operators -/
@[simp ↓] theorem r_fII {F : Int → Int → PyData} {i j : Int} : fII F (.d (.int i)) (.d (.int j)) Q = Q (.d (F i j)) := rfl
@[simp ↓] theorem r_fIC {C : Int → Int → Prop} {F : Int → Int → PyData} {i j : Int} : fIC C F (.d (.int i)) (.d (.int j)) Q = (C i j ∧ Q (.d (F i j))) := rfl
@[simp ↓] theorem r_fEq {x y : EV} : fEq x y Q = match dt x, dt y with
  | some d, some e => SeqAt.shaped d = true ∧ SeqAt.shaped e = true ∧ Q (.d (.bool (PyData.eqv d e)))
  | _, _ => False := rfl
@[simp ↓] theorem r_fNe {x y : EV} : fNe x y Q = match dt x, dt y with
  | some d, some e => SeqAt.shaped d = true ∧ SeqAt.shaped e = true ∧ Q (.d (.bool (!PyData.eqv d e)))
  | _, _ => False := rfl
theorem r_fIn {neg : Bool} {x y : EV} : fIn neg x y Q = match dt x, asSeq y with
  | some d, some xs => fl d = true ∧ xs.all fl = true ∧ Q (.d (.bool (if neg then !(xs.any fun z => PyData.eqv z d) else xs.any fun z => PyData.eqv z d)))
  | _, _ => False := rfl
@[simp ↓] theorem r_fLen {y : EV} : fLen y Q = match asSeq y with
  | some xs => Q (.d (.int xs.length))
  | none => match y with
    | .d (.str z) => z.length ≤ sizeLine ∧ Q (.d (.int z.length))
    | .scr ns => Q (.d (.int ns.length))
    | _ => False := rfl
@[simp ↓] theorem r_fIx {x : EV} {i : Int} : fIx x (.d (.int i)) Q = match asSeq x with
  | some xs => (match L2.atI xs i with
    | some d => Q (.d d)
    | none => False)
  | none => False := by
  unfold fIx
  cases asSeq x <;> rfl
@[simp ↓] theorem r_fAddT {x y : EV} : fAddT x y Q = match asT x, asT y with
  | some xs, some ys => xs.length + ys.length ≤ sizeLine ∧ Q (.d (.tuple (xs ++ ys)))
  | _, _ => False := rfl
@[simp ↓] theorem r_fAddL {x y : EV} : fAddL x y Q = match asL x, asL y with
  | some xs, some ys => xs.length + ys.length ≤ sizeLine ∧ Q (.o (xs ++ ys))
  | _, _ => False := rfl
@[simp ↓] theorem r_fList {y : EV} : fList y Q = match asSeq y with
  | some xs => Q (.o xs)
  | none => False := rfl
@[simp ↓] theorem r_ninSet {i : Int} {ns : List Int} : fNinSet (.d (.int i)) (.rs ns) Q = Q (.d (.bool (!decide (i ∈ ns)))) := rfl
@[simp ↓] theorem r_fInt {i : Int} : fInt (.d (.int i)) Q = Q (.d (.int i)) := rfl
@[simp ↓] theorem r_fIntB {b : Bool} : fInt (.d (.bool b)) Q = Q (.d (.int (if b then 1 else 0))) := rfl
@[simp ↓] theorem r_fAbs {i : Int} : fAbs (.d (.int i)) Q = Q (.d (.int (if i < 0 then -i else i))) := rfl
@[simp ↓] theorem r_fSortS {ns : List Int} : fSortS (.rs ns) Q = (ns.length < 64 ∧ Q (.o ((srt ns).map .int))) := rfl
theorem r_isi {x : EV} {T : String} : fIsi' [x, .ty T] Q = (notK x = true ∧ (match dt x with
    | some d => ∃ b, kitB (tyN d) T = some b ∧ Q (.d (.bool b))
    | none => False)) := rfl
end
/-- a comprehension's turn, on data -/
def Step (g : TGd) (tt : TB) (te : TD) (ρ : DL.Env) (r : EV) (o : Option PyData) : Prop := ∀ (Kt : PyData → Prop) (Kf : Prop), (match o with
  | some d => Kt d
  | none => Kf) → g r ρ fun ρ2 => tt ρ2 fun b => match b with
    | true => te ρ2 fun y => match frz y with
      | some d => Kt d
      | none => False
    | false => Kf
theorem lc_fm {g : TGd} {tt : TB} {te : TD} {ρ : DL.Env} {f : EV → Option PyData} {Q : List PyData → Prop} : ∀ {rs : List EV} {acc : List PyData}, (∀ r ∈ rs, Step g tt te ρ r (f r)) → acc.length + rs.length ≤ 1000 → Q (acc ++ rs.filterMap f) → lcGo g tt te ρ rs acc Q
  | [], acc, _, _, q => by simpa [lcGo] using q
  | r :: rs, acc, h, l, q => by
    unfold lcGo
    rw [List.length_cons] at l
    refine h r List.mem_cons_self (fun d => acc.length < 1000 ∧ lcGo g tt te ρ rs (acc ++ [d]) Q) (lcGo g tt te ρ rs acc Q) ?_
    cases e : f r with
    | none =>
      rw [List.filterMap_cons_none e] at q
      exact lc_fm (fun r hr => h r (List.mem_cons_of_mem _ hr)) (by omega) q
    | some d =>
      rw [List.filterMap_cons_some e] at q
      exact ⟨by omega, lc_fm (fun r hr => h r (List.mem_cons_of_mem _ hr)) (by rw [List.length_append, List.length_singleton]; omega) (by rw [List.append_assoc]; exact q)⟩
/-- every turn gives one -/
theorem lc_map {g : TGd} {tt : TB} {te : TD} {ρ : DL.Env} {f : EV → PyData} {Q : List PyData → Prop} {rs : List EV} (h : ∀ r ∈ rs, Step g tt te ρ r (some (f r))) (l : rs.length ≤ 1000) (q : Q (rs.map f)) : lcGo g tt te ρ rs [] Q :=
  lc_fm (f := fun r => some (f r)) h (by simpa using l) (by simpa using q)
/-- over data -/
theorem lc_d {α : Type} {g : TGd} {tt : TB} {te : TD} {ρ : DL.Env} {c : α → EV} {f : α → Option PyData} {Q : List PyData → Prop} {xs : List α} (h : ∀ x ∈ xs, Step g tt te ρ (c x) (f x)) (l : xs.length ≤ 1000) (q : Q (xs.filterMap f)) : lcGo g tt te ρ (xs.map c) [] Q := by
  have key : ∀ (xs : List α) (acc : List PyData), (∀ x ∈ xs, Step g tt te ρ (c x) (f x)) → acc.length + xs.length ≤ 1000 → Q (acc ++ xs.filterMap f) → lcGo g tt te ρ (xs.map c) acc Q := by
    intro xs
    induction xs with
    | nil => intro acc _ _ q; simpa [lcGo] using q
    | cons x xs ih =>
      intro acc h l q
      rw [List.map_cons]
      unfold lcGo
      rw [List.length_cons] at l
      refine h x List.mem_cons_self (fun d => acc.length < 1000 ∧ lcGo g tt te ρ (xs.map c) (acc ++ [d]) Q) (lcGo g tt te ρ (xs.map c) acc Q) ?_
      cases e : f x with
      | none =>
        rw [List.filterMap_cons_none e] at q
        exact ih acc (fun r hr => h r (List.mem_cons_of_mem _ hr)) (by omega) q
      | some d =>
        rw [List.filterMap_cons_some e] at q
        exact ⟨by omega, ih _ (fun r hr => h r (List.mem_cons_of_mem _ hr)) (by rw [List.length_append, List.length_singleton]; omega) (by rw [List.append_assoc]; exact q)⟩
  exact key xs [] h (by simpa using l) (by simpa using q)
/-! ### small laws of data -/
@[simp] theorem eqv_int (i j : Int) : PyData.eqv (.int i) (.int j) = decide (i = j) := rfl
@[simp] theorem eqv_bool (i j : Bool) : PyData.eqv (.bool i) (.bool j) = decide (i = j) := by cases i <;> cases j <;> rfl
@[simp] theorem sh_int (i : Int) : SeqAt.shaped (.int i) = true := rfl
@[simp] theorem sh_bool (i : Bool) : SeqAt.shaped (.bool i) = true := rfl
@[simp] theorem fl_int (i : Int) : fl (.int i) = true := rfl
theorem any_int (ns : List Int) (k : Int) : ((ns.map PyData.int).any fun z => PyData.eqv z (.int k)) = decide (k ∈ ns) := by
  rw [List.any_map]
  induction ns with
  | nil => simp
  | cons n ns ih =>
    rw [List.any_cons, ih]
    by_cases h : n = k
    · simp [h]
    · have : k ≠ n := fun z => h z.symm
      simp [h, this]
@[simp] theorem all_fl_int (ns : List Int) : (ns.map PyData.int).all fl = true := by
  rw [List.all_map]
  simp [Function.comp_def]
theorem atI_at {α : Type} {xs : List α} {i : Nat} {x : α} (h : xs[i]? = some x) : L2.atI xs (i : Int) = some x := atI_nat h
end K20
set_option Elab.async false
set_option linter.all false
set_option maxRecDepth 100000
set_option maxHeartbeats 1000000
namespace K20
open PySem PySem.Spec PyProof.Rows L2 DL
/-! isinstance -/
def jI : PyData → Bool
  | .int _ => true
  | .bool _ => true
  | _ => false
def jB : PyData → Bool
  | .bool _ => true
  | _ => false
def jT : PyData → Bool
  | .tuple _ => true
  | _ => false
def jS : PyData → Bool
  | .str _ => true
  | _ => false
theorem isi_of {x : EV} {T : String} {Q : EV → Prop} {j : PyData → Bool} (hj : ∀ d, kitB (tyN d) T = some (j d)) : fIsi' [x, .ty T] Q = (notK x = true ∧ (match dt x with
    | some d => Q (.d (.bool (j d)))
    | none => False)) := by
  rw [r_isi]
  congr 1
  cases dt x with
  | none => rfl
  | some d =>
    dsimp only
    rw [hj d]
    simp
@[simp] theorem isi_int {x : EV} {Q : EV → Prop} : fIsi' [x, .ty "int"] Q = (notK x = true ∧ (match dt x with
    | some d => Q (.d (.bool (jI d)))
    | none => False)) := isi_of fun d => by cases d <;> (dsimp only [tyN, jI]; decide +kernel)
@[simp] theorem isi_bool {x : EV} {Q : EV → Prop} : fIsi' [x, .ty "bool"] Q = (notK x = true ∧ (match dt x with
    | some d => Q (.d (.bool (jB d)))
    | none => False)) := isi_of fun d => by cases d <;> (dsimp only [tyN, jB]; decide +kernel)
@[simp] theorem isi_tup {x : EV} {Q : EV → Prop} : fIsi' [x, .ty "tuple"] Q = (notK x = true ∧ (match dt x with
    | some d => Q (.d (.bool (jT d)))
    | none => False)) := isi_of fun d => by cases d <;> (dsimp only [tyN, jT]; decide +kernel)
@[simp] theorem isi_str {x : EV} {Q : EV → Prop} : fIsi' [x, .ty "str"] Q = (notK x = true ∧ (match dt x with
    | some d => Q (.d (.bool (jS d)))
    | none => False)) := isi_of fun d => by cases d <;> (dsimp only [tyN, jS]; decide +kernel)
@[simp] theorem nk_d {x : PyData} : notK (.d x) = true := rfl
@[simp] theorem nk_dn {x : PyData} : notK (.dn x) = true := rfl
theorem fAll_map {α : Type} {xs : List α} {p : α → Bool} {Q : EV → Prop} (q : Q (.d (.bool (xs.all p)))) : fAll (.o (xs.map fun x => .bool (p x))) Q := ⟨xs.map p, by rw [r_asL_o, List.map_map]; rfl, by
  have : (xs.map p).all id = xs.all p := by rw [List.all_map]; rfl
  rw [this]; exact q⟩
theorem fAny_map {α : Type} {xs : List α} {p : α → Bool} {Q : EV → Prop} (q : Q (.d (.bool (xs.any p)))) : fAny (.o (xs.map fun x => .bool (p x))) Q := ⟨xs.map p, by rw [r_asL_o, List.map_map]; rfl, by
  have : (xs.map p).any id = xs.any p := by rw [List.any_map]; rfl
  rw [this]; exact q⟩
theorem fm_some {α β : Type} {f : α → β} (xs : List α) : xs.filterMap (fun x => some (f x)) = xs.map f := by induction xs with
  | nil => rfl
  | cons x xs ih => simp
/-- a comprehension over data without a test -/
theorem lc_mapd {α : Type} {g : TGd} {tt : TB} {te : TD} {ρ : DL.Env} {c : α → EV} {f : α → PyData} {Q : List PyData → Prop} {xs : List α} (h : ∀ x ∈ xs, Step g tt te ρ (c x) (some (f x))) (l : xs.length ≤ 1000) (q : Q (xs.map f)) : lcGo g tt te ρ (xs.map c) [] Q :=
  lc_d (f := fun x => some (f x)) h l (by rw [fm_some]; exact q)
/-- .. with a test -/
theorem lc_filt {α : Type} {g : TGd} {tt : TB} {te : TD} {ρ : DL.Env} {c : α → EV} {p : α → Bool} {f : α → PyData} {Q : List PyData → Prop} {xs : List α} (h : ∀ x ∈ xs, Step g tt te ρ (c x) (if p x = true then some (f x) else none)) (l : xs.length ≤ 1000) (q : Q ((xs.filter p).map f)) : lcGo g tt te ρ (xs.map c) [] Q :=
  lc_d (f := fun x => if p x = true then some (f x) else none) h l (by
    have : xs.filterMap (fun x => if p x = true then some (f x) else none) = (xs.filter p).map f := by
      clear h l q
      induction xs with
      | nil => rfl
      | cons x xs ih =>
        by_cases e : p x = true
        · rw [List.filterMap_cons_some (b := f x) (by rw [if_pos e]), ih, List.filter_cons_of_pos e, List.map_cons]
        · rw [List.filterMap_cons_none (by rw [if_neg e]), ih, List.filter_cons_of_neg e]
    rw [this]; exact q)
theorem b_fill_count : BodyD T_fill_count 3 1 sp_fill_count := by
  rintro rs T - ⟨ns, rfl, h, q⟩
  simp [T_fill_count, ent, lI]
  generalize EV.d (PyData.list (ns.map .int)) = v
  generalize (none : Option EV) = z
  generalize (1 : Int) = m at *
  induction ns generalizing m z with
  | nil => simpa using q
  | cons n ns ih =>
    have hn := h n List.mem_cons_self
    simp
    exact ⟨.inr ⟨by omega, by omega⟩, ih (fun k hk => h k (List.mem_cons_of_mem _ hk)) _ _ q⟩
theorem b_is_integer : BodyD T_is_integer 1 1 sp_is_integer := by
  rintro rs T - ⟨x, rfl, q⟩
  cases x <;> simpa [T_is_integer, ent, jI, jB, isI] using q
theorem b_is_number : BodyD T_is_number 1 1 sp_is_number := by
  rintro rs T - ⟨x, rfl, q⟩
  cases x <;> simpa [T_is_number, ent, sp_is_integer, isI, isN] using q
theorem b_are_numbers : BodyD T_are_numbers 2 1 sp_are_numbers := by
  rintro rs T - ⟨x, rfl, l, q⟩
  cases x
  case tuple xs =>
    simp [T_are_numbers, ent, jT]
    refine lc_mapd (f := fun x => .bool (isN x)) (fun x hx Kt Kf h => ?_) (by have := l xs rfl; omega) (fAll_map q)
    simpa [sp_is_number] using h
  all_goals simpa [T_are_numbers, ent, jT, isT] using q
end K20
set_option Elab.async false
set_option linter.all false
set_option maxRecDepth 100000
set_option maxHeartbeats 1000000
namespace K20
open PySem PySem.Spec PyProof.Rows L2 DL
theorem lc_dA {α : Type} {g : TGd} {tt : TB} {te : TD} {ρ : DL.Env} {c : α → EV} {f : α → Option PyData} {Q : List PyData → Prop} : ∀ {xs : List α} {acc : List PyData}, (∀ x ∈ xs, Step g tt te ρ (c x) (f x)) → acc.length + xs.length ≤ 1000 → Q (acc ++ xs.filterMap f) → lcGo g tt te ρ (xs.map c) acc Q
  | [], acc, _, _, q => by simpa [lcGo] using q
  | x :: xs, acc, h, l, q => by
    rw [List.map_cons]
    unfold lcGo
    rw [List.length_cons] at l
    refine h x List.mem_cons_self (fun d => acc.length < 1000 ∧ lcGo g tt te ρ (xs.map c) (acc ++ [d]) Q) (lcGo g tt te ρ (xs.map c) acc Q) ?_
    cases e : f x with
    | none =>
      rw [List.filterMap_cons_none e] at q
      exact lc_dA (fun r hr => h r (List.mem_cons_of_mem _ hr)) (by omega) q
    | some d =>
      rw [List.filterMap_cons_some e] at q
      exact ⟨by omega, lc_dA (fun r hr => h r (List.mem_cons_of_mem _ hr)) (by rw [List.length_append, List.length_singleton]; omega) (by rw [List.append_assoc]; exact q)⟩
@[simp] theorem seq_tI (ns : List Int) : asSeq (.d (tI ns)) = some (ns.map .int) := rfl
@[simp] theorem asF_tI (ns : List Int) : asF (.d (tI ns)) = some (ns.map .int) := rfl
@[simp] theorem asT_tI (ns : List Int) : asT (.d (tI ns)) = some (ns.map .int) := rfl
@[simp] theorem seq_tS (ns : List (List Int)) : asSeq (.d (tS ns)) = some (ns.map tI) := rfl
@[simp] theorem asF_tS (ns : List (List Int)) : asF (.d (tS ns)) = some (ns.map tI) := rfl
@[simp] theorem asT_tS (ns : List (List Int)) : asT (.d (tS ns)) = some (ns.map tI) := rfl
@[simp] theorem seq_lS (ns : List (List Int)) : asSeq (.d (lS ns)) = some (ns.map tI) := rfl
@[simp] theorem in_int {ns : List Int} {k : Int} : ((ns.map PyData.int).any fun z => PyData.eqv z (.int k)) = decide (k ∈ ns) := any_int ns k
@[simp] theorem in_int' {ns : List Int} {k : Int} : (ns.any ((fun z => PyData.eqv z (.int k)) ∘ PyData.int)) = decide (k ∈ ns) := by
  rw [← any_int ns k, List.any_map]
theorem in_any {neg : Bool} {ns : List Int} {k : Int} {y : EV} {Q : EV → Prop} (h : asSeq y = some (ns.map .int)) : fIn neg (.d (.int k)) y Q = Q (.d (.bool (if neg = true then !decide (k ∈ ns) else decide (k ∈ ns)))) := by
  rw [r_fIn, h]
  simp only [r_dt_d, fl_int, all_fl_int, any_int, true_and]
@[simp] theorem nin_tI {ns : List Int} {k : Int} {Q : EV → Prop} : fIn true (.d (.int k)) (.d (tI ns)) Q = Q (.d (.bool (!decide (k ∈ ns)))) := in_any rfl
@[simp] theorem in_tI {ns : List Int} {k : Int} {Q : EV → Prop} : fIn false (.d (.int k)) (.d (tI ns)) Q = Q (.d (.bool (decide (k ∈ ns)))) := in_any rfl
@[simp] theorem nin_dI {ns : List Int} {k : Int} {Q : EV → Prop} : fIn true (.d (.int k)) (.d (.tuple (ns.map .int))) Q = Q (.d (.bool (!decide (k ∈ ns)))) := in_any rfl
@[simp] theorem in_dI {ns : List Int} {k : Int} {Q : EV → Prop} : fIn false (.d (.int k)) (.d (.tuple (ns.map .int))) Q = Q (.d (.bool (decide (k ∈ ns)))) := in_any rfl
@[simp] theorem nin_lI {ns : List Int} {k : Int} {Q : EV → Prop} : fIn true (.d (.int k)) (.l (ns.map .int)) Q = Q (.d (.bool (!decide (k ∈ ns)))) := in_any rfl
@[simp] theorem in_lI {ns : List Int} {k : Int} {Q : EV → Prop} : fIn false (.d (.int k)) (.l (ns.map .int)) Q = Q (.d (.bool (decide (k ∈ ns)))) := in_any rfl
@[simp] theorem in_int2 {ns : List Int} {k : Int} : (ns.any fun a => decide (a = k)) = decide (k ∈ ns) := by
  rw [Bool.eq_iff_iff, List.any_eq_true]
  simp
@[simp] theorem all_fl' (ns : List Int) : (ns.all (fl ∘ PyData.int)) = true := by rw [List.all_eq_true]; intro x _; rfl
theorem flat_tied {ss : List (List Int)} {s : List Int} {t : Int} : tied (s :: ss) t = (if t ∈ s then s else []) ++ tied ss t := by
  unfold tied
  by_cases h : t ∈ s
  · simp [List.filter_cons, h]
  · simp [List.filter_cons, h]
theorem tied_go {t : Int} {v : Option EV} {Q : List PyData → Prop} : ∀ {ss : List (List Int)} {acc : List PyData}, (∀ s ∈ ss, s.length ≤ 8) → acc.length + 8 * ss.length ≤ 1000 → Q (acc ++ (tied ss t).map .int) →
    lc2Go (gN 2) (eT (e2 (fIn false) (eVar 1) (eVar 2))) (iS true (eVar 2)) (gN 3) bYes (eVar 3) [3] [v, some (.d (.int t)), none, none] (ss.map (EV.d ∘ tI)) acc Q
  | [], acc, _, _, q => by simpa [lc2Go, tied] using q
  | s :: ss, acc, h, l, q => by
    rw [List.length_cons] at l
    have hs := h s List.mem_cons_self
    have ih := @tied_go t v Q ss
    rw [flat_tied] at q
    rw [List.map_cons]
    unfold lc2Go
    by_cases k : t ∈ s
    · simp [k]
      rw [if_pos k] at q
      refine lc_dA (c := EV.d ∘ PyData.int) (f := fun x => some (.int x)) (fun x hx Kt Kf hh => by simpa using hh) (by omega) ?_
      rw [fm_some]
      refine ih (fun s hs => h s (List.mem_cons_of_mem _ hs)) (by rw [List.length_append, List.length_map]; omega) ?_
      rw [List.append_assoc, ← List.map_append]
      exact q
    · simp [k]
      rw [if_neg k] at q
      exact ih (fun s hs => h s (List.mem_cons_of_mem _ hs)) (by omega) q
theorem b_tied_things : BodyD T_tied_things 4 2 sp_tied_things := by
  rintro rs T - ⟨b, ss, t, hr, hc, q⟩
  have h8 : ∀ s ∈ ss, s.length ≤ 8 := fun s hs => sq_len hc.b8 (hc.s s hs)
  have hl := hc.len
  rcases hr with rfl | rfl
  · simp [T_tied_things, ent]
    exact tied_go h8 (by simp; omega) (by simpa using q)
  · simp [T_tied_things, ent]
    exact tied_go h8 (by simp; omega) (by simpa using q)
theorem addN_in {r : List Int} {w : Int} (h : w ∈ r) : addN r w = r := by unfold addN; rw [if_pos h]
theorem addN_out {r : List Int} {w : Int} (h : w ∉ r) : addN r w = r ++ [w] := by unfold addN; rw [if_neg h]
/-- the walk over what is tied to a thing -/
theorem bfs_for {D : DEnds} {v0 v1 v2 v5 v6 : Option EV} : ∀ {ws r : List Int} {z : Option EV}, r.length + ws.length < 1000 → (∀ z, D.nx [v0, v1, v2, some (.s (ws.foldl addN r)), some (.o ((ws.foldl addN r).map .int)), v5, v6, z]) →
    forGo (gN 7) (sThen (sIf (eT (e2 fNinSet (eVar 7) (eVar 3))) (sThen (sAdd 3 (eVar 7)) (sThen (sApp 4 (eVar 7)) sNil)) sNil) sNil) D (ws.map (EV.d ∘ PyData.int)) [v0, v1, v2, some (.s r), some (.o (r.map .int)), v5, v6, z]
  | [], r, z, _, q => by simpa using q z
  | w :: ws, r, z, l, q => by
    rw [List.length_cons] at l
    by_cases h : w ∈ r
    · simp [h]
      rw [List.foldl_cons, addN_in h] at q
      exact bfs_for (by omega) q
    · simp [h]
      rw [List.foldl_cons, addN_out h] at q
      refine ⟨by omega, ?_⟩
      have := bfs_for (D := D) (v0 := v0) (v1 := v1) (v2 := v2) (v5 := v5) (v6 := v6) (ws := ws) (r := r ++ [w]) (z := some (.d (.int w))) (by rw [List.length_append, List.length_singleton]; omega) q
      rw [List.map_append] at this
      rw [addN_out h]
      exact this
/-- what the breadth-first walk has found -/
structure Bfs (ss : List (List Int)) (g : List Int) (t : Int) (r : List Int) (i : Nat) : Prop where
  nd : r.Nodup
  th : t ∈ r
  re : ∀ a ∈ r, Reach ss g t a
  le : i ≤ r.length
  cl : ∀ j u, j < i → r[j]? = some u → (u = t ∨ u ∈ g) → ∀ w, Adj ss u w → w ∈ r
theorem sub_foldAdd : ∀ {ws r : List Int} {j : Nat} {u : Int}, r[j]? = some u → (ws.foldl addN r)[j]? = some u
  | [], r, j, u, h => h
  | w :: ws, r, j, u, h => by
    rw [List.foldl_cons]
    refine sub_foldAdd ?_
    unfold addN
    split
    · exact h
    · rw [List.getElem?_append_left (List.getElem?_eq_some_iff.mp h).1]; exact h
theorem len_foldAdd : ∀ {ws r : List Int}, r.length ≤ (ws.foldl addN r).length
  | [], r => Nat.le_refl _
  | w :: ws, r => by
    rw [List.foldl_cons]
    refine Nat.le_trans ?_ len_foldAdd
    unfold addN
    split
    · exact Nat.le_refl _
    · rw [List.length_append]; omega
theorem Bfs.done {ss : List (List Int)} {g : List Int} {t : Int} {r : List Int} {i : Nat} (h : Bfs ss g t r i) (hi : r.length ≤ i) {v : Int} : v ∈ r ↔ Reach ss g t v := by
  refine ⟨h.re v, fun k => ?_⟩
  induction k with
  | refl => exact h.th
  | step k p d ih =>
    obtain ⟨j, hj⟩ := List.getElem?_of_mem ih
    exact h.cl j _ (Nat.lt_of_lt_of_le (List.getElem?_eq_some_iff.mp hj).1 hi) hj p _ d
theorem Bfs.skip {ss : List (List Int)} {g : List Int} {t : Int} {r : List Int} {i : Nat} {u : Int} (h : Bfs ss g t r i) (hu : r[i]? = some u) (n : ¬ (u = t ∨ u ∈ g)) : Bfs ss g t r (i + 1) :=
  ⟨h.nd, h.th, h.re, (List.getElem?_eq_some_iff.mp hu).1, fun j w hj hw p => by
    by_cases e : j = i
    · subst e; rw [hu] at hw; cases hw; exact absurd p n
    · exact h.cl j w (by omega) hw p⟩
theorem Bfs.walk {ss : List (List Int)} {g : List Int} {t : Int} {r : List Int} {i : Nat} {u : Int} (h : Bfs ss g t r i) (hu : r[i]? = some u) (p : u = t ∨ u ∈ g) : Bfs ss g t ((tied ss u).foldl addN r) (i + 1) := by
  have hl := (List.getElem?_eq_some_iff.mp hu).1
  have ll := len_foldAdd (ws := tied ss u) (r := r)
  have hur : u ∈ r := List.mem_of_getElem? hu
  refine ⟨nd_foldAdd h.nd, mem_foldAdd.mpr (.inl h.th), fun a ha => ?_, by omega, fun j w hj hw pw x d => ?_⟩
  · rcases mem_foldAdd.mp ha with m | m
    · exact h.re a m
    · exact .step (h.re u hur) p (mem_tied.mp m)
  · have hjl : j < r.length := by omega
    have e := sub_foldAdd (ws := tied ss u) (List.getElem?_eq_getElem hjl)
    rw [hw] at e
    have e : w = r[j] := Option.some.inj e
    by_cases ej : j = i
    · subst ej
      have : r[j]? = some w := by rw [List.getElem?_eq_getElem hjl, e]
      rw [hu] at this
      cases this
      exact mem_foldAdd.mpr (.inr (mem_tied.mpr d))
    · exact mem_foldAdd.mpr (.inl (h.cl j w (by omega) (by rw [List.getElem?_eq_getElem hjl, e]) pw x d))
theorem tied_len {b : Int} {ss : List (List Int)} (h : Sc b ss) (t : Int) : (tied ss t).length ≤ 480 := by
  have key : ∀ (ss : List (List Int)), (∀ s ∈ ss, s.length ≤ 8) → (tied ss t).length ≤ 8 * ss.length := by
    intro ss
    induction ss with
    | nil => intro _; exact Nat.le_refl _
    | cons s ss ih =>
      intro h
      rw [flat_tied, List.length_append, List.length_cons]
      have a := ih fun s hs => h s (List.mem_cons_of_mem _ hs)
      have b := h s List.mem_cons_self
      split
      · omega
      · simp; omega
  have a := key ss fun s hs => sq_len h.b8 (h.s s hs)
  have := h.len
  omega
def clW (ss : List (List Int)) (g : List Int) (t : Int) (m : Nat) (ρ : DL.Env) : Prop := ∃ (r : List Int) (i : Nat) (z1 z2 : Option EV), m = 9 - i ∧ Bfs ss g t r i ∧ ρ = [some (.d (tS ss)), some (.d (tI g)), some (.d (.int t)), some (.s r), some (.o (r.map .int)), some (.d (.int (i : Int))), z1, z2]
def clN (ss : List (List Int)) (g : List Int) (t : Int) (i : Nat) (ρ : DL.Env) : Prop := ∃ (r : List Int) (z1 z2 : Option EV), Bfs ss g t r (i + 1) ∧ ρ = [some (.d (tS ss)), some (.d (tI g)), some (.d (.int t)), some (.s r), some (.o (r.map .int)), some (.d (.int ((i : Int) + 1))), z1, z2]
theorem b_cluster_behind : BodyD T_cluster_behind 8 3 sp_cluster_behind := by
  rintro rs T - ⟨b, ss, g, t, rfl, hc, hg, t0, tb, q⟩
  simp [T_cluster_behind, ent]
  refine ⟨clW ss g t, ⟨9, [t], 0, none, none, rfl, ⟨by simp, by simp, fun a ha => by rw [List.mem_singleton.mp ha]; exact .refl, Nat.zero_le _, fun j u hj => absurd hj (Nat.not_lt_zero _)⟩, rfl⟩, ?_⟩
  rintro m ρ ⟨r, i, z1, z2, rfl, B, rfl⟩
  have hr8 : r.length ≤ 8 := sq_len hc.b8 ⟨B.nd, fun x hx => Reach.range hc ⟨t0, tb⟩ (B.re x hx)⟩
  by_cases hlt : i < r.length
  · have hu : r[i]? = some r[i] := List.getElem?_eq_getElem hlt
    have at1 : L2.atI (r.map PyData.int) (i : Int) = some (.int r[i]) := atI_nat (by rw [List.getElem?_map, hu]; rfl)
    simp [hlt]
    refine ⟨clN ss g t i, fun ρ' ⟨r', y1, y2, B', e⟩ => ⟨9 - (i + 1), by omega, r', i + 1, y1, y2, rfl, B', e⟩, ?_⟩
    rw [at1]
    generalize r[i] = u at *
    simp
    have tl := tied_len hc u
    have fin : (u = t ∨ u ∈ g) → ∀ D : DEnds, (∀ ρ, clN ss g t i ρ → D.nx ρ) → forGo (gN 7) (sThen (sIf (eT (e2 fNinSet (eVar 7) (eVar 3))) (sThen (sAdd 3 (eVar 7)) (sThen (sApp 4 (eVar 7)) sNil)) sNil) sNil) D ((tied ss u).map (EV.d ∘ PyData.int)) [some (.d (tS ss)), some (.d (tI g)), some (.d (.int t)), some (.s r), some (.o (r.map .int)), some (.d (.int ((i : Int) + 1))), some (.d (.int u)), z2] := fun p D hD =>
      bfs_for (by omega) fun z => hD _ ⟨_, _, _, B.walk hu p, rfl⟩
    by_cases p : u = t
    · subst p
      simp
      exact ⟨b, ss, u, .inl rfl, hc, by simp; exact fin (.inl rfl) _ fun _ h => h⟩
    · by_cases p2 : u ∈ g
      · simp [p, p2]
        exact ⟨b, ss, u, .inl rfl, hc, by simp; exact fin (.inr p2) _ fun _ h => h⟩
      · simp [p, p2]
        exact ⟨r, _, _, B.skip hu (by simp [p, p2]), rfl⟩
  · simp [hlt]
    refine lc_filt (c := EV.d ∘ PyData.int) (p := fun a => decide (a = t) || decide (a ∉ g)) (f := .int) (fun x hx Kt Kf hh => ?_) (by omega) ?_
    · by_cases e : x = t
      · simpa [e] using hh
      · by_cases e2 : x ∈ g
        · simpa [e, e2] using hh
        · simpa [e, e2] using hh
    · refine ⟨_, rfl, ?_⟩
      rw [cl_eq (sc_nd hc) B.nd fun v => B.done (by omega)]
      simp
      exact q
end K20
set_option Elab.async false
set_option linter.all false
set_option maxRecDepth 100000
set_option maxHeartbeats 1000000
namespace K20
open PySem PySem.Spec PyProof.Rows L2 DL
/-! slices -/
@[simp] theorem cut_to {α : Type} (xs : List α) (i : Nat) : DL.cut xs none (some (i : Int)) = xs.take i := by
  unfold DL.cut
  rw [HT.sIx_none, HT.sIx_nat]
  simp [List.take_eq_take_iff]
@[simp] theorem cut_from {α : Type} (xs : List α) (i : Nat) : DL.cut xs (some ((i : Int) + 1)) none = xs.drop (i + 1) := by
  unfold DL.cut
  rw [HT.sIx_none, show ((i : Int) + 1) = ((i + 1 : Nat) : Int) by omega, HT.sIx_nat]
  by_cases h : i + 1 ≤ xs.length
  · rw [Nat.min_eq_left h]
    exact List.take_of_length_le (by rw [List.length_drop]; exact Nat.le_refl _)
  · rw [Nat.min_eq_right (by omega)]
    rw [List.drop_eq_nil_of_le (by omega : xs.length ≤ i + 1)]
    simp
@[simp] theorem enl_int (ns : List Int) : enl (ns.map PyData.int) = ns.zipIdx.map fun e => EV.d (.tuple [.int (e.2 : Nat), .int e.1]) := by
  unfold enl
  rw [List.mapIdx_eq_zipIdx_map, List.zipIdx_map, List.map_map]
  rfl
@[simp] theorem enl_tI (ns : List (List Int)) : enl (ns.map tI) = ns.zipIdx.map fun e => EV.d (.tuple [.int (e.2 : Nat), tI e.1]) := by
  unfold enl
  rw [List.mapIdx_eq_zipIdx_map, List.zipIdx_map, List.map_map]
  rfl
theorem zip_at {α : Type} {xs : List α} {e : α × Nat} (h : e ∈ xs.zipIdx) : xs[e.2]? = some e.1 := by
  have := List.mem_zipIdx_iff_getElem?.mp h
  exact this
theorem sq_take {b : Int} {q : List Int} (h : Sq b q) (i : Nat) : Sq b (q.take i) := ⟨h.nd.sublist (List.take_sublist _ _), fun x hx => h.r x (List.mem_of_mem_take hx)⟩
theorem cls_zip (ss : List (List Int)) (q : List Int) : q.zipIdx.map (fun e => tI (cl ss (q.take e.2) e.1)) = (cls ss q).map tI := by
  unfold cls
  rw [List.mapIdx_eq_zipIdx_map, List.map_map]
  rfl
theorem b_clusters_by : BodyD T_clusters_by 4 2 sp_clusters_by := by
  rintro rs T - ⟨b, ss, q, rfl, hc, hq, k⟩
  have h8 := sq_len hc.b8 hq
  simp [T_clusters_by, ent]
  refine lc_mapd (f := fun e => tI (cl ss (q.take e.2) e.1)) (fun e he Kt Kf hh => ?_) (by simp; omega) ?_
  · have hm := hq.r e.1 (List.mem_of_getElem? (zip_at he))
    simp [← List.map_take]
    exact ⟨b, ss, q.take e.2, e.1, rfl, hc, sq_take hq _, hm.1, hm.2, by simpa using hh⟩
  · rw [cls_zip]
    exact k
theorem b_scopes_without : BodyD T_scopes_without 4 2 sp_scopes_without := by
  rintro rs T - ⟨b, ss, lot, rfl, hc, hl, k⟩
  simp [T_scopes_without, ent]
  refine lc_mapd (c := EV.d ∘ tI) (f := fun s => tI (s.filter fun a => decide (a ∉ lot))) (fun s hs Kt Kf hh => ?_) (by have := hc.len; omega) ?_
  · have h8 := sq_len hc.b8 (hc.s s hs)
    simp
    refine lc_filt (c := EV.d ∘ PyData.int) (p := fun a => decide (a ∉ lot)) (f := .int) (fun x hx Kt' Kf' h2 => ?_) (by omega) ?_
    · by_cases e : x ∈ lot
      · simpa [e] using h2
      · simpa [e] using h2
    · simpa [tI] using hh
  · simpa [tS, tI, Function.comp_def] using k
theorem b_lot_size : BodyD T_lot_size 3 2 sp_lot_size := by
  rintro rs T - ⟨cs, lot, rfl, h, k⟩
  simp [T_lot_size, ent]
  refine lc_mapd (c := EV.d ∘ PyData.int) (f := fun x => .int (cs.getD x.toNat 0)) (fun x hx Kt Kf hh => ?_) (by have := h.n; omega) ?_
  · obtain ⟨a, b⟩ := h.l x hx
    have e : L2.atI (cs.map PyData.int) x = some (.int (cs.getD x.toNat 0)) := by
      have := atI_nat (xs := cs.map PyData.int) (j := x.toNat) (v := .int (cs.getD x.toNat 0)) (by
        rw [List.getElem?_map, List.getD_eq_getElem?_getD, List.getElem?_eq_getElem (by omega)]; rfl)
      rwa [Int.toNat_of_nonneg a] at this
    simp [e]
    exact hh
  · simp
    refine ⟨lot.map fun x => cs.getD x.toNat 0, by simp [lI], fun n hn => ?_, ?_⟩
    · obtain ⟨x, hx, rfl⟩ := List.mem_map.mp hn
      obtain ⟨a, b⟩ := h.l x hx
      rw [List.getD_eq_getElem?_getD, List.getElem?_eq_getElem (by omega)]
      exact h.c _ (List.getElem_mem _)
    · rw [List.foldl_map]
      simp
      exact ⟨rfl, k⟩
theorem b_joined_cost : BodyD T_joined_cost 3 3 sp_joined_cost := by
  rintro rs T - ⟨a, b, ⟨rfl, k⟩ | ⟨rfl, k⟩⟩
  · simpa [T_joined_cost, ent, fMax2] using k
  · have ne : (("total" : Str) = ("greatest" : Str)) = False := by simp only [eq_iff_iff, iff_false]; decide
    simpa [T_joined_cost, ent, ne] using k
end K20
set_option Elab.async false
set_option linter.all false
set_option maxRecDepth 100000
set_option maxHeartbeats 1000000
namespace K20
open PySem PySem.Spec PyProof.Rows L2 DL
@[simp] theorem lfA_int (ns : List Int) : lfA (ns.map PyData.int) = true := by induction ns with
  | nil => rfl
  | cons n ns ih => simpa [lfA, lf] using ih
@[simp] theorem lf_tI (ns : List Int) : lf (tI ns) = true := lfA_int ns
@[simp] theorem lfA_tI (ss : List (List Int)) : lfA (ss.map tI) = true := by induction ss with
  | nil => rfl
  | cons s ss ih => simpa [lfA, lf] using ih
@[simp] theorem lf_tS (ss : List (List Int)) : lf (tS ss) = true := lfA_tI ss
@[simp] theorem lf_int (i : Int) : lf (.int i) = true := rfl
@[simp] theorem lf_bool (i : Bool) : lf (.bool i) = true := rfl
/-- a set comprehension over ints -/
theorem sc_filt {g : TGd} {tt : TB} {te : TD} {ρ : DL.Env} {p : Int → Bool} {Q : List Int → Prop} : ∀ {xs acc : List Int}, (∀ x ∈ xs, ∀ (Kt : Int → Prop) (Kf : Prop), (if p x = true then Kt x else Kf) → g (.d (.int x)) ρ fun ρ2 => tt ρ2 fun b => match b with
    | true => te ρ2 fun y => match y with
      | .d (.int c) => Kt c
      | _ => False
    | false => Kf) → acc.length + xs.length ≤ 1000 → Q ((xs.filter p).foldl addN acc) → scGo g tt te ρ (xs.map (EV.d ∘ PyData.int)) acc Q
  | [], acc, _, _, q => q
  | x :: xs, acc, h, l, q => by
    rw [List.length_cons] at l
    rw [List.map_cons]
    unfold scGo
    refine h x List.mem_cons_self (fun c => acc.length < 1000 ∧ scGo g tt te ρ (xs.map (EV.d ∘ PyData.int)) (addN acc c) Q) (scGo g tt te ρ (xs.map (EV.d ∘ PyData.int)) acc Q) ?_
    have ih := fun acc' => @sc_filt g tt te ρ p Q xs acc' (fun y hy => h y (List.mem_cons_of_mem _ hy))
    by_cases e : p x = true
    · rw [if_pos e]
      rw [List.filter_cons_of_pos e, List.foldl_cons] at q
      refine ⟨by omega, ih _ ?_ q⟩
      have : (addN acc x).length ≤ acc.length + 1 := by
        unfold addN
        split
        · omega
        · rw [List.length_append, List.length_singleton]; exact Nat.le_refl _
      omega
    · rw [if_neg e]
      rw [List.filter_cons_of_neg e] at q
      exact ih _ (by omega) q
theorem foldAdd_len {ws r : List Int} : (ws.foldl addN r).length ≤ r.length + ws.length := by
  induction ws generalizing r with
  | nil => exact Nat.le_refl _
  | cons w ws ih =>
    rw [List.foldl_cons, List.length_cons]
    have : (addN r w).length ≤ r.length + 1 := by
      unfold addN
      split
      · omega
      · rw [List.length_append, List.length_singleton]; exact Nat.le_refl _
    have := ih (r := addN r w)
    omega
theorem left_for {D : DEnds} {b : Int} {v0 v1 : Option EV} : ∀ {q : List Int} {ss : List (List Int)} {z3 z4 z5 z6 : Option EV}, Sc b ss → ss.length + q.length ≤ 60 → (∀ z3 z4, D.nx [v0, v1, some (.o ((elim ss q).map tI)), z3, z4, z5, z6]) →
    forGo (gN 3) (sThen (sSet 4 (eSc (iS false (eCB (fCall sp_tied_things) (aCons (eVar 2) (aCons (eVar 3) aNil)))) (gN 5) (eT (e2 fNe (eVar 5) (eVar 3))) (eVar 5) [5])) (sThen (sSet 2 (eLc (iS false (eVar 2)) (gN 6) (eT (e2 (fIn true) (eVar 3) (eVar 6))) (eVar 6) [6])) (sThen (sApp 2 (eTuple (e1 fSortS (eVar 4)))) sNil)))
      D (q.map (EV.d ∘ PyData.int)) [v0, v1, some (.o (ss.map tI)), z3, z4, z5, z6]
  | [], ss, z3, z4, z5, z6, _, _, k => by simpa [elim] using k z3 z4
  | x :: q, ss, z3, z4, z5, z6, h, l, k => by
    rw [List.length_cons] at l
    simp
    refine ⟨b, ss, x, .inr rfl, h, ?_⟩
    have tl := tied_len h x
    simp
    refine sc_filt (p := fun a => decide (a ≠ x)) (fun y hy Kt Kf hh => ?_) (by simp; omega) ?_
    · by_cases e : y = x
      · simpa [e] using hh
      · simpa [e] using hh
    · simp
      refine lc_filt (c := EV.d ∘ tI) (p := fun s => decide (x ∉ s)) (f := tI) (fun s hs Kt Kf hh => ?_) (by omega) ?_
      · by_cases e : x ∈ s
        · simpa [e] using hh
        · simpa [e] using hh
      · have jl : (((tied ss x).filter fun a => decide (a ≠ x)).foldl addN []).length ≤ 8 := by
          have := sq_len h.b8 (jn_sq h x)
          unfold jn at this
          rwa [(srt_perm _).length_eq] at this
        have fl := List.length_filter_le (fun s => decide (x ∉ s)) ss
        simp at jl fl ⊢
        refine ⟨by omega, by omega, ?_⟩
        obtain ⟨e1, e2⟩ := elim1_sc h (by omega) x
        have ih := @left_for D b v0 v1 q (elim1 ss x) (some (.d (.int x))) (some (.s (((tied ss x).filter fun a => decide (a ≠ x)).foldl addN []))) z5 z6 e1 (by omega) k
        unfold elim1 jn at ih
        rw [List.map_append] at ih
        simpa [tI] using ih
theorem b_scopes_left : BodyD T_scopes_left 7 2 sp_scopes_left := by
  rintro rs T - ⟨b, ss, q, rfl, hc, hl, hq, k⟩
  have h8 := sq_len hc.b8 hq
  simp [T_scopes_left, ent]
  refine left_for hc (by omega) fun z3 z4 => ?_
  simp
  exact k
end K20
set_option Elab.async false
set_option linter.all false
set_option maxRecDepth 100000
set_option maxHeartbeats 1000000
namespace K20
open PySem PySem.Spec PyProof.Rows L2 DL
theorem cl0_ints : ∀ ns : List Int, PyData.canLayAll0 (ns.map PyData.int) = true
  | [] => by simp [PyData.canLayAll0]
  | n :: ns => by simp [PyData.canLayAll0, PyData.canLay0, cl0_ints ns]
theorem dp_intsA : ∀ ns : List Int, PyData.depthAll (ns.map PyData.int) = 0
  | [] => by simp [PyData.depthAll]
  | n :: ns => by simp [PyData.depthAll, PyData.depth, dp_intsA ns]
theorem cl0_tI (ns : List Int) : (tI ns).canLay0 = true := by simp [tI, PyData.canLay0, cl0_ints]
theorem dp_tI (ns : List Int) : (tI ns).depth = 1 := by simp [tI, PyData.depth, dp_intsA]
theorem cl0_tIs : ∀ ss : List (List Int), PyData.canLayAll0 (ss.map tI) = true
  | [] => by simp [PyData.canLayAll0]
  | s :: ss => by simp [PyData.canLayAll0, cl0_tI, cl0_tIs ss]
theorem dp_tIs : ∀ ss : List (List Int), PyData.depthAll (ss.map tI) ≤ 1
  | [] => by simp [PyData.depthAll]
  | s :: ss => by
    have := dp_tIs ss
    simp only [List.map_cons, PyData.depthAll, dp_tI]
    omega
theorem cl0_oD : ∀ o : Option Int, (oD o).canLay0 = true
  | none => by simp [oD, PyData.canLay0]
  | some i => by simp [oD, PyData.canLay0]
theorem cl0_oDs : ∀ fs : List (Option Int), PyData.canLayAll0 (fs.map oD) = true
  | [] => by simp [PyData.canLayAll0]
  | s :: ss => by simp [PyData.canLayAll0, cl0_oD, cl0_oDs ss]
theorem dp_oD : ∀ o : Option Int, (oD o).depth = 0
  | none => by simp [oD, PyData.depth]
  | some i => by simp [oD, PyData.depth]
theorem dp_oDs : ∀ fs : List (Option Int), PyData.depthAll (fs.map oD) = 0
  | [] => by simp [PyData.depthAll]
  | s :: ss => by simp [PyData.depthAll, dp_oD, dp_oDs ss]
@[simp] theorem sh_tI (ns : List Int) : SeqAt.shaped (tI ns) = true := by simp [SeqAt.shaped, cl0_tI, dp_tI]
@[simp] theorem sh_tI' (ns : List Int) : SeqAt.shaped (.tuple (ns.map .int)) = true := sh_tI ns
@[simp] theorem sh_tS (ss : List (List Int)) : SeqAt.shaped (tS ss) = true := by
  have := dp_tIs ss
  simp only [SeqAt.shaped, tS, PyData.canLay0, PyData.depth, cl0_tIs, Bool.true_and, decide_eq_true_eq]
  omega
@[simp] theorem sh_tO (fs : List (Option Int)) : SeqAt.shaped (tO fs) = true := by simp [SeqAt.shaped, tO, PyData.canLay0, PyData.depth, cl0_oDs, dp_oDs]
@[simp] theorem sh_lI (ns : List Int) : SeqAt.shaped (.list (ns.map .int)) = true := by simp [SeqAt.shaped, PyData.canLay0, PyData.depth, cl0_ints, dp_intsA]
@[simp] theorem sh_lN : SeqAt.shaped (.list []) = true := sh_lI []
@[simp] theorem sh_tN : SeqAt.shaped (.tuple []) = true := sh_tI []
theorem eqvA_ints : ∀ as bs : List Int, PyData.eqvAll (as.map .int) (bs.map .int) = decide (as = bs)
  | [], [] => by simp [PyData.eqvAll]
  | [], b :: bs => by simp [PyData.eqvAll]
  | a :: as, [] => by simp [PyData.eqvAll]
  | a :: as, b :: bs => by
    simp only [List.map_cons, PyData.eqvAll, eqvA_ints as bs]
    by_cases h : a = b
    · simp [h]
    · simp [h]
@[simp] theorem eqv_tI (as bs : List Int) : PyData.eqv (tI as) (tI bs) = decide (as = bs) := by simp [tI, PyData.eqv, eqvA_ints]
@[simp] theorem eqv_lI (as bs : List Int) : PyData.eqv (.list (as.map .int)) (.list (bs.map .int)) = decide (as = bs) := by simp [PyData.eqv, eqvA_ints]
@[simp] theorem eqv_lN (as : List Int) : PyData.eqv (.list (as.map .int)) (.list []) = decide (as = []) := eqv_lI as []
@[simp] theorem eqv_NN : PyData.eqv (.list []) (.list []) = true := by simp [PyData.eqv, PyData.eqvAll]
@[simp] theorem eqv_CN (x : PyData) (xs : List PyData) : PyData.eqv (.list (x :: xs)) (.list []) = false := by simp [PyData.eqv, PyData.eqvAll]
@[simp] theorem sh_lC (n : Int) (ns : List Int) : SeqAt.shaped (.list (.int n :: ns.map .int)) = true := sh_lI (n :: ns)
theorem eqvA_tIs : ∀ as bs : List (List Int), PyData.eqvAll (as.map tI) (bs.map tI) = decide (as = bs)
  | [], [] => by simp [PyData.eqvAll]
  | [], b :: bs => by simp [PyData.eqvAll]
  | a :: as, [] => by simp [PyData.eqvAll]
  | a :: as, b :: bs => by
    simp only [List.map_cons, PyData.eqvAll, eqvA_tIs as bs, eqv_tI]
    by_cases h : a = b
    · simp [h]
    · simp [h]
@[simp] theorem eqv_tS (as bs : List (List Int)) : PyData.eqv (tS as) (tS bs) = decide (as = bs) := by simp [tS, PyData.eqv, eqvA_tIs]
theorem eqv_oD : ∀ a b : Option Int, PyData.eqv (oD a) (oD b) = decide (a = b)
  | none, none => by simp [oD, PyData.eqv]
  | none, some b => by simp [oD, PyData.eqv]
  | some a, none => by simp [oD, PyData.eqv]
  | some a, some b => by simp [oD, PyData.eqv]
theorem eqvA_oDs : ∀ as bs : List (Option Int), PyData.eqvAll (as.map oD) (bs.map oD) = decide (as = bs)
  | [], [] => by simp [PyData.eqvAll]
  | [], b :: bs => by simp [PyData.eqvAll]
  | a :: as, [] => by simp [PyData.eqvAll]
  | a :: as, b :: bs => by
    simp only [List.map_cons, PyData.eqvAll, eqvA_oDs as bs, eqv_oD]
    by_cases h : a = b
    · simp [h]
    · simp [h]
@[simp] theorem eqv_tO (as bs : List (Option Int)) : PyData.eqv (tO as) (tO bs) = decide (as = bs) := by simp [tO, PyData.eqv, eqvA_oDs]
theorem at0 {ns : List Int} {n : Int} {r : List Int} (h : ns = n :: r) : L2.atI (ns.map PyData.int) 0 = some (.int n) := by
  subst h
  exact atI_nat (j := 0) rfl
/-! ### flows -/
theorem flows_for {D : DEnds} {v0 : Option EV} {q : List Int} (hq : q.length ≤ 8) : ∀ {l : List (List Int × Nat)} {acc : List (Option Int)} {z3 z4 z5 z6 : Option EV}, acc.length + l.length < 1000 → (∀ z3 z4 z5, D.nx [v0, some (.d (tI q)), some (.o ((acc ++ l.map fun e => ((q.drop (e.2 + 1)).filter fun a => decide (a ∈ e.1)).head?).map oD)), z3, z4, z5, z6]) →
    forGo (gT (gsCons (gN 3) (gsCons (gN 4) gsNil))) (sThen (sSet 5 (eLc (iS false (eSlT (eVar 1) (oSome (e2 fAdd (eVar 3) (eC (.d (.int 1))))) oNone)) (gN 6) (eT (e2 (fIn false) (eVar 6) (eVar 4))) (eVar 6) [6]))
      (sThen (sApp 2 (eIf (eT (e2 fNe (eVar 5) (eLst aNil))) (e2 fIx (eVar 5) (eC (.d (.int 0)))) (eC (.d .none)))) sNil))
      D (l.map fun e => EV.d (.tuple [.int (e.2 : Nat), tI e.1])) [v0, some (.d (tI q)), some (.o (acc.map oD)), z3, z4, z5, z6]
  | [], acc, z3, z4, z5, z6, _, k => by simpa using k z3 z4 z5
  | e :: l, acc, z3, z4, z5, z6, hl, k => by
    rw [List.length_cons] at hl
    obtain ⟨c, i⟩ := e
    simp
    rw [← List.map_drop]
    refine lc_filt (xs := q.drop (i + 1)) (c := EV.d ∘ PyData.int) (p := fun a => decide (a ∈ c)) (f := .int) (fun x hx Kt Kf hh => ?_) (by simp; omega) ?_
    · by_cases e : x ∈ c
      · simpa [e] using hh
      · simpa [e] using hh
    · have ih := @flows_for D v0 q hq l (acc ++ [((q.drop (i + 1)).filter fun a => decide (a ∈ c)).head?]) (some (.d (.int i))) (some (.d (tI c))) (some (.o (((q.drop (i + 1)).filter fun a => decide (a ∈ c)).map .int))) z6 (by rw [List.length_append, List.length_singleton]; omega) (by
        intro z3 z4 z5
        have := k z3 z4 z5
        rw [List.map_cons] at this
        rw [List.append_assoc]
        exact this)
      cases e : (q.drop (i + 1)).filter fun a => decide (a ∈ c) with
      | nil =>
        rw [e] at ih
        simp [e] at ih ⊢
        exact ⟨by omega, by simpa [oD] using ih⟩
      | cons n r =>
        rw [e] at ih
        have e0 := at0 (ns := n :: r) rfl
        simp only [List.map_cons] at e0
        simp [e, e0] at ih ⊢
        exact ⟨by omega, by simpa [oD] using ih⟩
theorem flws_zip (cs : List (List Int)) (q : List Int) : cs.zipIdx.map (fun e => ((q.drop (e.2 + 1)).filter fun a => decide (a ∈ e.1)).head?) = flws cs q := by
  unfold flws
  rw [List.mapIdx_eq_zipIdx_map]
theorem cls_len (ss : List (List Int)) (q : List Int) : (cls ss q).length = q.length := by simp [cls]
theorem b_flows_by : BodyD T_flows_by 7 2 sp_flows_by := by
  rintro rs T - ⟨b, ss, q, rfl, hc, hq, k⟩
  have h8 := sq_len hc.b8 hq
  simp [T_flows_by, ent]
  refine ⟨b, ss, q, rfl, hc, hq, ?_⟩
  simp
  have h := @flows_for { nx := (sThen (sRet (eTuple (eVar 2))) sNil) { nx := fun _ => T (.d .none), rt := T }, rt := T } (some (.d (tS ss))) q h8 (cls ss q).zipIdx [] none none none none (by simp [cls_len]; omega) (fun z3 z4 z5 => by
    rw [List.nil_append, flws_zip]
    simp
    exact k)
  exact h
theorem b__law_flows : BodyD T__law_flows 7 2 sp__law_flows := by
  rintro rs T - ⟨b, ss, q, rfl, hc, hq, k⟩
  have h8 := sq_len hc.b8 hq
  simp [T__law_flows, ent]
  have h := @flows_for { nx := (sThen (sRet (eTuple (eVar 2))) sNil) { nx := fun _ => T (.d .none), rt := T }, rt := T } (some (.d (tS (cls ss q)))) q h8 (cls ss q).zipIdx [] none none none none (by simp [cls_len]; omega) (fun z3 z4 z5 => by
    rw [List.nil_append, flws_zip]
    simp
    exact k)
  exact h
end K20
set_option Elab.async false
set_option linter.all false
set_option maxRecDepth 100000
set_option maxHeartbeats 1000000
namespace K20
open PySem PySem.Spec PyProof.Rows L2 DL
theorem cls_mem {ss : List (List Int)} {q : List Int} (nd : q.Nodup) {c : List Int} (h : c ∈ cls ss q) : ∃ v ∈ q, c = cl ss (bef q v) v := by
  rw [cls_map nd] at h
  obtain ⟨v, hv, e⟩ := List.mem_map.mp h
  exact ⟨v, hv, e.symm⟩
theorem cls_ok {cs : List Int} {ss : List (List Int)} {q : List Int} (h1 : ∀ c ∈ cs, 0 ≤ c ∧ c ≤ 1000) (hc : Sc cs.length ss) (hq : Sq cs.length q) {c : List Int} (h : c ∈ cls ss q) : CsOk cs c := by
  obtain ⟨v, hv, rfl⟩ := cls_mem hq.nd h
  have s := cl_sq hc (bef q v) (hq.r v hv)
  exact ⟨h1, s.r, by have := sq_len hc.b8 s; omega⟩
theorem b_sizes_by : BodyD T_sizes_by 4 3 sp_sizes_by := by
  rintro rs T - ⟨cs, ss, q, rfl, h1, hc, hq, k⟩
  have h8 := sq_len hc.b8 hq
  simp [T_sizes_by, ent]
  refine ⟨_, ss, q, rfl, hc, hq, ?_⟩
  simp
  refine lc_mapd (c := EV.d ∘ tI) (f := fun c => .int (prd cs c)) (fun c hcc Kt Kf hh => ?_) (by rw [cls_len]; omega) ?_
  · simp
    exact ⟨cs, c, rfl, cls_ok h1 hc hq hcc, by simpa using hh⟩
  · unfold szs tI at k
    rw [List.map_map] at k
    exact k
theorem cost_forG {D : DEnds} {v0 v1 v2 : Option EV} : ∀ {ns : List Int} {m : Int} {z : Option EV}, (∀ z, D.nx [v0, v1, v2, some (.d (.str "greatest")), some (.d (.int (ns.foldl max m))), z]) →
    forGo (gN 5) (sThen (sSet 4 (eCB (fCall sp_joined_cost) (aCons (eVar 3) (aCons (eVar 4) (aCons (eVar 5) aNil))))) sNil) D (ns.map (EV.d ∘ PyData.int)) [v0, v1, v2, some (.d (.str "greatest")), some (.d (.int m)), z]
  | [], m, z, k => by simpa using k z
  | n :: ns, m, z, k => by
    simp
    refine ⟨m, n, .inl ⟨rfl, ?_⟩⟩
    simp
    have e : (if m < n then n else m) = max m n := by
      by_cases h : m < n
      · rw [if_pos h]; omega
      · rw [if_neg h]; omega
    rw [e]
    exact cost_forG k
theorem cost_forT {D : DEnds} {v0 v1 v2 : Option EV} : ∀ {ns : List Int} {m : Int} {z : Option EV}, (∀ z, D.nx [v0, v1, v2, some (.d (.str "total")), some (.d (.int (m + ns.sum))), z]) →
    forGo (gN 5) (sThen (sSet 4 (eCB (fCall sp_joined_cost) (aCons (eVar 3) (aCons (eVar 4) (aCons (eVar 5) aNil))))) sNil) D (ns.map (EV.d ∘ PyData.int)) [v0, v1, v2, some (.d (.str "total")), some (.d (.int m)), z]
  | [], m, z, k => by simpa using k z
  | n :: ns, m, z, k => by
    simp
    refine ⟨m, n, .inr ⟨rfl, ?_⟩⟩
    simp
    refine cost_forT fun z => ?_
    have := k z
    rw [List.sum_cons] at this
    rw [Int.add_assoc]
    exact this
theorem b_cost_by : BodyD T_cost_by 6 4 sp_cost_by := by
  rintro rs T - ⟨cs, ss, q, h1, hc, hq, ⟨rfl, k⟩ | ⟨rfl, k⟩⟩
  · simp [T_cost_by, ent]
    refine ⟨cs, ss, q, rfl, h1, hc, hq, ?_⟩
    simp
    exact cost_forG fun z => by simpa using k
  · simp [T_cost_by, ent]
    refine ⟨cs, ss, q, rfl, h1, hc, hq, ?_⟩
    simp
    exact cost_forT fun z => by simpa using k
/-- what is left of the greedy choice -/
structure GrOk (cs : List Int) (ss : List (List Int)) (left found : List Int) : Prop where
  st : left.Pairwise (· < ·)
  l : Sq cs.length left
  f : Sq cs.length found
  dj : ∀ x ∈ left, x ∉ found
theorem GrOk.next {cs : List Int} {ss : List (List Int)} {left found : List Int} (h : GrOk cs ss left found) {v : Int} (hv : v ∈ left) : GrOk cs ss (left.erase v) (found ++ [v]) := by
  refine ⟨h.st.sublist (List.erase_sublist ..), ⟨h.l.nd.erase _, fun x hx => h.l.r x (List.mem_of_mem_erase hx)⟩, ⟨?_, fun x hx => ?_⟩, fun x hx => ?_⟩
  · rw [List.nodup_append]
    refine ⟨h.f.nd, by simp, fun a ha b hb e => ?_⟩
    rw [List.mem_singleton.mp hb] at e
    exact h.dj v hv (e ▸ ha)
  · rcases List.mem_append.mp hx with m | m
    · exact h.f.r x m
    · rw [List.mem_singleton.mp m]; exact h.l.r v hv
  · intro m
    rcases List.mem_append.mp m with m | m
    · exact h.dj x (List.mem_of_mem_erase hx) m
    · rw [List.mem_singleton.mp m] at hx
      exact (h.l.nd.not_mem_erase) hx
theorem grd_succ {cs : List Int} {ss : List (List Int)} {n : Nat} {left found : List Int} : grd cs ss (n + 1) left found = grd cs ss n (left.erase (gpick (fun v => prd cs (cl ss found v)) left)) (found ++ [gpick (fun v => prd cs (cl ss found v)) left]) := rfl
def grW (cs : List Int) (ss : List (List Int)) (lot : List Int) (res : List Int) (m : Nat) (ρ : DL.Env) : Prop := ∃ (left found : List Int) (z5 z6 : Option EV), m = left.length ∧ GrOk cs ss left found ∧ grd cs ss left.length left found = res ∧
  ρ = [some (.d (tI cs)), some (.d (tS ss)), some (.d (tI lot)), some (.d (tI found)), some (.o (left.map .int)), z5, z6]
def grN (cs : List Int) (ss : List (List Int)) (lot : List Int) (res : List Int) (m : Nat) (ρ : DL.Env) : Prop := ∃ m', m' < m ∧ grW cs ss lot res m' ρ
theorem b_greedy_sequence : BodyD T_greedy_sequence 7 3 sp_greedy_sequence := by
  rintro rs T - ⟨cs, ss, lot, rfl, h1, hc, hl, st, k⟩
  simp [T_greedy_sequence, ent]
  refine ⟨grW cs ss lot (grd cs ss lot.length lot []), ⟨_, lot, [], none, none, rfl, ⟨st, hl, ⟨List.nodup_nil, fun x h => nomatch h⟩, fun x _ => by simp⟩, rfl, rfl⟩, ?_⟩
  rintro m ρ ⟨left, found, z5, z6, rfl, ok, er, rfl⟩
  have h8 := sq_len hc.b8 ok.l
  have f8 := sq_len hc.b8 ok.f
  simp
  cases left with
  | nil =>
    simp at er ⊢
    rw [show grd cs ss 0 [] found = found from rfl] at er
    rw [er]
    exact k
  | cons x xs =>
    simp
    refine ⟨grN cs ss lot (grd cs ss lot.length lot []) (x :: xs).length, fun ρ' h => h, ?_⟩
    have gb := gpick_best (sz := fun v => prd cs (cl ss found v)) (left := x :: xs) (by simp) ok.st
    have md := minD_gpick (sz := fun v => prd cs (cl ss found v)) ok.st
    refine lc_mapd (xs := x :: xs) (c := EV.d ∘ PyData.int) (f := prD fun v => prd cs (cl ss found v)) (fun v hv Kt Kf hh => ?_) (by omega) ?_
    · have rv := ok.l.r v hv
      have sq := cl_sq hc found rv
      simp
      refine ⟨_, ss, found, v, rfl, hc, ok.f, rv.1, rv.2, ?_⟩
      simp
      refine ⟨cs, cl ss found v, rfl, ⟨h1, sq.r, by have := sq_len hc.b8 sq; omega⟩, ?_⟩
      simpa [prD] using hh
    · refine ⟨_, _, rfl, prD_alike (x :: xs), by have := @prD_depth (fun v => prd cs (cl ss found v)) (x :: xs); exact Nat.le_trans this (by decide), ?_⟩
      rw [md]
      generalize hg : gpick (fun v => prd cs (cl ss found v)) (x :: xs) = v at *
      have a1 : L2.atI [PyData.int (prd cs (cl ss found v)), .int v] 1 = some (.int v) := atI_nat (j := 1) rfl
      simp [prD, a1]
      have hm := gb.1
      have e : PyData.tuple (found.map .int ++ [.int v]) = tI (found ++ [v]) := by simp [tI]
      rw [e]
      refine ⟨by simpa using hm, by show found.length + 1 ≤ 2 ^ 24; omega, xs.length, by simp, (x :: xs).erase v, found ++ [v], _, _, ?_, ok.next hm, ?_, rfl⟩
      · rw [List.length_erase_of_mem hm]; rfl
      · rw [← er, List.length_erase_of_mem hm]
        show grd cs ss xs.length _ _ = grd cs ss (xs.length + 1) (x :: xs) found
        rw [grd_succ, hg]
/-! ### the settled sequence -/
theorem zil_fl {fl : Int → Option Int} (q : List Int) : zil (q.map PyData.int) ((q.map fl).map oD) = q.map fun v => EV.d (.tuple [.int v, oD (fl v)]) := by
  unfold zil
  induction q with
  | nil => rfl
  | cons v q ih => simp only [List.map_cons, List.zipWith_cons_cons, ih]
theorem dc_fl {fl : Int → Option Int} {ρ : DL.Env} {Q : List (Int × PyData) → Prop} {x0 x1 x2 x3 x4 x5 x6 : Option EV} : ∀ {q : List Int} {acc : List Int}, (acc ++ q).Nodup → acc.length + q.length < 1000 → Q ((acc ++ q).map fun v => (v, oD (fl v))) →
    dcGo (gT (gsCons (gN 7) (gsCons (gN 8) gsNil))) bYes (eVar 7) (eVar 8) [x0, x1, x2, x3, x4, x5, x6, none, none] (q.map fun v => EV.d (.tuple [.int v, oD (fl v)])) (acc.map fun v => (v, oD (fl v))) Q
  | [], acc, _, _, k => by simpa [dcGo] using k
  | v :: q, acc, nd, l, k => by
    rw [List.length_cons] at l
    have nv : v ∉ acc := fun h => (List.nodup_append.mp nd).2.2 v h v List.mem_cons_self rfl
    have ih := @dc_fl fl ρ Q x0 x1 x2 x3 x4 x5 x6 q (acc ++ [v]) (by rw [List.append_assoc]; exact nd) (by rw [List.length_append, List.length_singleton]; omega) (by rw [List.append_assoc]; exact k)
    rw [List.map_append] at ih
    rw [List.map_cons]
    unfold dcGo
    simp
    refine ⟨by omega, fun a ha e => nv (e ▸ ha), ?_⟩
    simpa using ih
theorem find_fl {fl : Int → Option Int} {q : List Int} {v : Int} (h : v ∈ q) : (q.map fun v => (v, oD (fl v))).find? (fun e => decide (e.1 = v)) = some (v, oD (fl v)) := by
  induction q with
  | nil => cases h
  | cons x q ih =>
    rw [List.map_cons, List.find?_cons]
    by_cases e : x = v
    · subst e; simp
    · rw [show decide ((x, oD (fl x)).1 = v) = false from decide_eq_false e]
      exact ih ((List.mem_cons.mp h).resolve_left (Ne.symm e))
theorem fl_oD (o : Option Int) : fl (oD o) = true := by cases o <;> rfl
theorem all_fl_oD (os : List (Option Int)) : (os.map oD).all fl = true := by
  rw [List.all_map, List.all_eq_true]
  intro o _
  exact fl_oD o
theorem any_oD (os : List (Option Int)) (k : Int) : ((os.map oD).any fun z => PyData.eqv z (.int k)) = decide (some k ∈ os) := by
  induction os with
  | nil => simp
  | cons o os ih =>
    rw [List.map_cons, List.any_cons, ih]
    cases o with
    | none => simp [oD, PyData.eqv]
    | some n =>
      by_cases h : n = k
      · subst h; simp [oD]
      · have : ¬ k = n := fun z => h z.symm
        simp [oD, h, this]
theorem nin_oD {os : List (Option Int)} {k : Int} {Q : EV → Prop} : fIn true (.d (.int k)) (.l (os.map oD)) Q = Q (.d (.bool (!decide (some k ∈ os)))) := by
  rw [r_fIn]
  simp only [r_dt_d, r_seq_l, fl_int, all_fl_oD, any_oD, true_and, if_true]
theorem rdy_filter {fl : Int → Option Int} {left : List Int} : left.filter (fun v => !decide (some v ∈ left.map fl)) = rdy fl left := by
  unfold rdy
  refine List.filter_congr fun v _ => ?_
  congr 1
  rw [Bool.eq_iff_iff, List.any_eq_true]
  simp
def stW (ss : List (List Int)) (q : List Int) (res : List Int) (m : Nat) (ρ : DL.Env) : Prop := ∃ (left found : List Int) (z6 z7 z8 : Option EV), m = left.length ∧ left.Nodup ∧ left.Pairwise (· ≤ ·) ∧ (∀ v ∈ left, v ∈ q) ∧ found ++ stl (fw ss q) left.length left = res ∧
  found.length + left.length ≤ 8 ∧
  ρ = [some (.d (tS ss)), some (.d (tI q)), some (.dic (q.map fun v => (v, oD (fw ss q v)))), some (.d (tO (q.map (fw ss q)))), some (.o (left.map .int)), some (.o (found.map .int)), z6, z7, z8]
def stN (ss : List (List Int)) (q : List Int) (res : List Int) (m : Nat) (ρ : DL.Env) : Prop := ∃ m', m' < m ∧ stW ss q res m' ρ
theorem b_settled_sequence : BodyD T_settled_sequence 9 2 sp_settled_sequence := by
  rintro rs T - ⟨b, ss, q, rfl, hc, hq, k⟩
  have h8 := sq_len hc.b8 hq
  simp [T_settled_sequence, ent]
  refine ⟨b, ss, q, rfl, hc, hq, ?_⟩
  simp
  rw [flws_map hq.nd]
  refine ⟨q, rfl, by omega, ?_⟩
  simp
  have e1 : asT (.d (tO (q.map (fw ss q)))) = some ((q.map (fw ss q)).map oD) := rfl
  rw [e1]
  simp only
  rw [zil_fl]
  refine dc_fl (acc := []) (ρ := []) (by simpa using hq.nd) (by simp; omega) ?_
  simp
  refine ⟨stW ss q (settle ss q), ⟨_, srt q, [], none, none, none, rfl, (srt_perm q).nodup_iff.mpr hq.nd, srt_sorted q, fun v hv => srt_mem.mp hv, ?_, by rw [(srt_perm q).length_eq]; simpa using h8, rfl⟩, ?_⟩
  · rw [settle_eq hq.nd, (srt_perm q).length_eq]
    rfl
  rintro m ρ ⟨left, found, z6, z7, z8, rfl, nd, st, hs, er, hl, rfl⟩
  simp
  cases left with
  | nil =>
    simp at er ⊢
    rw [show stl (fw ss q) 0 [] = [] from rfl, List.append_nil] at er
    rw [er]
    exact k
  | cons x xs =>
    simp
    refine ⟨stN ss q (settle ss q) (x :: xs).length, fun ρ' h => h, ?_⟩
    refine lc_mapd (xs := x :: xs) (c := EV.d ∘ PyData.int) (f := fun v => oD (fw ss q v)) (fun v hv Kt Kf hh => ?_) (by simp at hl ⊢; omega) ?_
    · have := find_fl (fl := fw ss q) (hs v hv)
      simp [fIxD, this]
      exact hh
    · have em : (x :: xs).map (fun v => oD (fw ss q v)) = ((x :: xs).map (fw ss q)).map oD := by rw [List.map_map]; rfl
      rw [em]
      refine lc_filt (xs := x :: xs) (c := EV.d ∘ PyData.int) (p := fun v => !decide (some v ∈ (x :: xs).map (fw ss q))) (f := .int) (fun v hv Kt Kf hh => ?_) (by simp at hl ⊢; omega) ?_
      · have nn := @nin_oD ((x :: xs).map (fw ss q)) v
        generalize (x :: xs).map (fw ss q) = os at *
        by_cases h : some v ∈ os
        · simpa [nn, h] using hh
        · simpa [nn, h] using hh
      · rw [rdy_filter]
        cases hr : rdy (fw ss q) (x :: xs) with
        | nil => exact absurd hr (rdy_ne (good_fw hq.nd) hs (by simp))
        | cons v r =>
          have hv : v ∈ x :: xs := (mem_rdy.mp (show v ∈ rdy (fw ss q) (x :: xs) by rw [hr]; exact List.mem_cons_self)).1
          have sr : (v :: r).Pairwise (· ≤ ·) := by rw [← hr]; exact st.filter _
          refine ⟨v :: r, rfl, by simp, fun m hm hmin => ?_⟩
          have e : m = v := by
            have a := hmin v List.mem_cons_self
            rcases List.mem_cons.mp hm with e | h
            · exact e
            · have := (List.pairwise_cons.mp sr).1 m h
              omega
          subst e
          simp at hl
          simp
          refine ⟨by simpa using hv, by omega, xs.length, by simp, (x :: xs).erase m, found ++ [m], _, _, _, ?_, nd.erase _, st.sublist (List.erase_sublist ..), fun u hu => hs u (List.mem_of_mem_erase hu), ?_, ?_, by rw [List.map_append]; rfl⟩
          · rw [List.length_erase_of_mem hv]; rfl
          · rw [← er, List.length_erase_of_mem hv]
            show _ = found ++ stl (fw ss q) (xs.length + 1) (x :: xs)
            rw [stl_step hr, List.append_assoc]
            rfl
          · rw [List.length_append, List.length_singleton, List.length_erase_of_mem hv]
            simp
            omega
end K20
set_option Elab.async false
set_option linter.all false
set_option maxRecDepth 100000
set_option maxHeartbeats 1000000
namespace K20
open PySem PySem.Spec PyProof.Rows L2 DL
theorem atI_mem {α : Type} {xs : List α} {v : Int} (h0 : 0 ≤ v) (h1 : v < xs.length) : ∃ x, x ∈ xs ∧ L2.atI xs v = some x ∧ xs[v.toNat]? = some x := by
  have hl : v.toNat < xs.length := by omega
  refine ⟨xs[v.toNat], List.getElem_mem _, ?_, List.getElem?_eq_getElem hl⟩
  have := atI_nat (xs := xs) (j := v.toNat) (List.getElem?_eq_getElem hl)
  rwa [Int.toNat_of_nonneg h0] at this
theorem b__law_pick : BodyD T__law_pick 2 2 sp__law_pick := by
  rintro rs T - ⟨xs, hr, hn, hl, k⟩
  have h0 : 0 < xs.length := List.length_pos_iff.mpr hn
  rcases hr with rfl | rfl
  · simp [T__law_pick, ent]
    refine ⟨(xs.length : Int), rfl, by omega, by omega, fun v v0 v1 => ?_⟩
    obtain ⟨x, hx, e, _⟩ := atI_mem v0 v1
    simp [e]
    exact k x hx
  · simp [T__law_pick, ent]
    refine ⟨(xs.length : Int), rfl, by omega, by omega, fun v v0 v1 => ?_⟩
    obtain ⟨x, hx, e, _⟩ := atI_mem v0 v1
    simp [e]
    exact k x hx
theorem erase_idx_perm {xs : List Int} {i : Nat} {x : Int} (h : xs[i]? = some x) : (x :: xs.eraseIdx i).Perm xs := by
  induction xs generalizing i with
  | nil => cases h
  | cons y ys ih =>
    cases i with
    | zero => cases h; exact List.Perm.refl _
    | succ i =>
      have := ih (i := i) (by simpa using h)
      exact (List.Perm.swap y x _).trans (List.Perm.cons y this)
theorem map_erIdx {α β : Type} (f : α → β) : ∀ (xs : List α) (i : Nat), (xs.map f).eraseIdx i = (xs.eraseIdx i).map f
  | [], _ => rfl
  | _ :: _, 0 => rfl
  | x :: xs, i + 1 => by rw [List.map_cons, List.eraseIdx_cons_succ, List.eraseIdx_cons_succ, List.map_cons, map_erIdx f xs i]
theorem shuf_for {D : DEnds} {v1 : Option EV} {Qs : List Int → Prop} (hD : ∀ s z, Qs s → D.nx [some .hp, v1, z, some (.o []), some (.o (s.map .int))]) : ∀ {rs : List EV} {rest found : List Int} {z : Option EV}, (∀ r ∈ rs, dn? r = true) → rs.length = rest.length → found.length + rest.length ≤ 8 → (∀ s : List Int, s.Perm (found ++ rest) → Qs s) →
    forGo (gN 2) (sThen (sAppPop 4 3 (eCB (fCall sp__law_draw) (aCons (eVar 0) (aCons (e1 fLen (eVar 3)) aNil)))) sNil) D rs [some .hp, v1, z, some (.o (rest.map .int)), some (.o (found.map .int))]
  | [], rest, found, z, _, l, _, k => by
    have : rest = [] := List.eq_nil_of_length_eq_zero l.symm
    subst this
    simpa using hD found z (k found (by simp))
  | r :: rs, rest, found, z, hr, l, l8, k => by
    rw [List.length_cons] at l
    have hd := hr r List.mem_cons_self
    simp [hd]
    refine ⟨(rest.length : Int), rfl, by omega, by omega, fun v v0 v1 => ?_⟩
    obtain ⟨x, hx, _, e⟩ := atI_mem (xs := rest) v0 v1
    have hlt := (List.getElem?_eq_some_iff.mp e).1
    simp [e]
    refine ⟨v0, by omega, by omega, ?_⟩
    have le := List.length_eraseIdx_of_lt hlt
    have ih := shuf_for hD (rs := rs) (rest := rest.eraseIdx v.toNat) (found := found ++ [x]) (z := some r) (fun y hy => hr y (List.mem_cons_of_mem _ hy)) (by omega) (by rw [List.length_append, List.length_singleton]; omega) (fun s p => k s (p.trans (by
      rw [List.append_assoc]
      exact List.Perm.append_left found (erase_idx_perm e))))
    have em : (rest.map PyData.int).eraseIdx v.toNat = (rest.eraseIdx v.toNat).map .int := map_erIdx _ _ _
    rw [em]
    rw [List.map_append] at ih
    exact ih
theorem b__law_shuffled : BodyD T__law_shuffled 5 2 sp__law_shuffled := by
  rintro rs T - ⟨q, rfl, hl, k⟩
  simp [T__law_shuffled, ent]
  refine ⟨by omega, ?_⟩
  refine shuf_for (Qs := fun s => T (.dn (tI s))) (fun s z h => by simpa [tI] using h) (rest := q) (found := []) (fun r hr => ?_) (by simp) (by simpa using hl) (fun s p => k s (by simpa using p))
  obtain ⟨i, _, rfl⟩ := List.mem_map.mp hr
  rfl
theorem size_for {D : DEnds} {cs : List Int} {v0 v1 : Option EV} {ev : EV} (h0 : v0 = some ev) (hs : asSeq (rd ev) = some (cs.map .int)) (hc : ∀ c ∈ cs, 0 ≤ c ∧ c ≤ 1000) : ∀ {lot : List Int} {m : Int} {z : Option EV}, (∀ x ∈ lot, 0 ≤ x ∧ x < cs.length) → (∀ z, D.nx [v0, v1, some (.d (.int (lot.foldl (fun m x => m * cs.getD x.toNat 0) m))), z]) →
    forGo (gN 3) (sThen (sSet 2 (e2 fMul (eVar 2) (e2 fIx (eVar 0) (eVar 3)))) sNil) D (lot.map (EV.d ∘ PyData.int)) [v0, v1, some (.d (.int m)), z]
  | [], m, z, _, k => by simpa using k z
  | x :: lot, m, z, hx, k => by
    obtain ⟨a, b⟩ := hx x List.mem_cons_self
    have e : L2.atI (cs.map PyData.int) x = some (.int (cs.getD x.toNat 0)) := by
      have := atI_nat (xs := cs.map PyData.int) (j := x.toNat) (v := .int (cs.getD x.toNat 0)) (by
        rw [List.getElem?_map, List.getD_eq_getElem?_getD, List.getElem?_eq_getElem (by omega)]; rfl)
      rwa [Int.toNat_of_nonneg a] at this
    have hcx : 0 ≤ cs.getD x.toNat 0 ∧ cs.getD x.toNat 0 ≤ 1000 := by
      rw [List.getD_eq_getElem?_getD, List.getElem?_eq_getElem (by omega)]
      exact hc _ (List.getElem_mem _)
    have ih := @size_for D cs v0 v1 ev h0 hs hc lot (m * cs.getD x.toNat 0) (some (.d (.int x))) (fun y hy => hx y (List.mem_cons_of_mem _ hy)) k
    subst h0
    generalize cs.getD x.toNat 0 = c at *
    simp [hs, e]
    exact ⟨.inr ⟨by omega, by omega⟩, ih⟩
theorem b__law_size : BodyD T__law_size 4 2 sp__law_size := by
  rintro rs T - ⟨cs, lot, hr, h, k⟩
  rcases hr with rfl | rfl
  · simp [T__law_size, ent]
    refine size_for (cs := cs) rfl rfl h.c h.l fun z => ?_
    simpa [prd] using k
  · simp [T__law_size, ent, lI]
    refine size_for (cs := cs) rfl rfl h.c h.l fun z => ?_
    simpa [prd] using k
theorem joined_for {D : DEnds} {v0 : Option EV} {x : Int} : ∀ {ss : List (List Int)} {f : List Int} {z3 z4 : Option EV}, (∀ s ∈ ss, s.length ≤ 8) → f.length + 8 * ss.length ≤ 1000 → (∀ z3, D.nx [v0, some (.d (.int x)), some (.o ((ss.foldl (fun f s => if x ∈ s then f ++ s.filter (fun a => decide (a ∉ f)) else f) f).map .int)), z3, z4]) →
    forGo (gN 3) (sThen (sIf (eT (e2 (fIn false) (eVar 1) (eVar 3))) (sThen (sSet 2 (e2 fAddL (eVar 2) (eLc (iS false (eVar 3)) (gN 4) (eT (e2 (fIn true) (eVar 4) (eVar 2))) (eVar 4) [4]))) sNil) sNil) sNil)
      D (ss.map (EV.d ∘ tI)) [v0, some (.d (.int x)), some (.o (f.map .int)), z3, z4]
  | [], f, z3, z4, _, _, k => by simpa using k z3
  | s :: ss, f, z3, z4, h8, l, k => by
    rw [List.length_cons] at l
    have hs := h8 s List.mem_cons_self
    rw [List.foldl_cons] at k
    by_cases e : x ∈ s
    · rw [if_pos e] at k
      simp [e]
      refine lc_filt (c := EV.d ∘ PyData.int) (p := fun a => decide (a ∉ f)) (f := .int) (fun y hy Kt Kf hh => ?_) (by omega) ?_
      · by_cases e2 : y ∈ f
        · simpa [e2] using hh
        · simpa [e2] using hh
      · have fl := List.length_filter_le (fun a => decide (a ∉ f)) s
        have ih := @joined_for D v0 x ss (f ++ s.filter (fun a => decide (a ∉ f))) (some (.d (tI s))) z4 (fun y hy => h8 y (List.mem_cons_of_mem _ hy)) (by rw [List.length_append]; omega) k
        rw [List.map_append] at ih
        simp at fl
        simp
        refine ⟨by show f.length + _ ≤ 2 ^ 24; omega, ?_⟩
        simpa using ih
    · rw [if_neg e] at k
      simp [e]
      exact joined_for (fun y hy => h8 y (List.mem_cons_of_mem _ hy)) (by omega) k
theorem b__law_joined : BodyD T__law_joined 5 2 sp__law_joined := by
  rintro rs T - ⟨b, ss, x, hr, hc, x0, xb, k⟩
  have h8 : ∀ s ∈ ss, s.length ≤ 8 := fun s hs => sq_len hc.b8 (hc.s s hs)
  have hl := hc.len
  rcases hr with rfl | rfl
  · simp [T__law_joined, ent]
    refine joined_for (f := [x]) h8 (by simp; omega) fun z => ?_
    simp
    exact ⟨_, rfl, by simpa [lj, tI] using k⟩
  · simp [T__law_joined, ent, lS]
    refine joined_for (f := [x]) h8 (by simp; omega) fun z => ?_
    simp
    exact ⟨_, rfl, by simpa [lj, tI] using k⟩
theorem lleft_for {D : DEnds} {b : Int} {v0 v1 : Option EV} : ∀ {q : List Int} {ss : List (List Int)} {z3 z4 z5 z6 : Option EV}, Sc b ss → (∀ x ∈ q, 0 ≤ x ∧ x < b) → ss.length + q.length ≤ 60 → (∀ z3 z4, D.nx [v0, v1, some (.o ((elim ss q).map tI)), z3, z4, z5, z6]) →
    forGo (gN 3) (sThen (sSet 4 (eTuple (eLc (iS false (eCB (fCall sp__law_joined) (aCons (eVar 2) (aCons (eVar 3) aNil)))) (gN 5) (eT (e2 fNe (eVar 5) (eVar 3))) (eVar 5) [5])))
      (sThen (sSet 2 (e2 fAddL (eLc (iS false (eVar 2)) (gN 6) (eT (e2 (fIn true) (eVar 3) (eVar 6))) (eVar 6) [6]) (eLst (aCons (eVar 4) aNil)))) sNil))
      D (q.map (EV.d ∘ PyData.int)) [v0, v1, some (.o (ss.map tI)), z3, z4, z5, z6]
  | [], ss, z3, z4, z5, z6, _, _, _, k => by simpa [elim] using k z3 z4
  | x :: q, ss, z3, z4, z5, z6, h, hx, l, k => by
    rw [List.length_cons] at l
    obtain ⟨x0, xb⟩ := hx x List.mem_cons_self
    simp
    refine ⟨b, ss, x, .inr rfl, h, x0, xb, ?_⟩
    have ljl : (lj ss x).length ≤ 9 := by
      have e1 : Sq b (lj ss x) := ⟨nodup_lt (lj_strict (sc_nd h) x), fun v hv => by
        rcases mem_lj.mp hv with e | d
        · rw [e]; exact ⟨x0, xb⟩
        · exact adj_range h d⟩
      have := sq_len h.b8 e1
      omega
    simp
    refine lc_filt (c := EV.d ∘ PyData.int) (p := fun a => decide (a ≠ x)) (f := .int) (fun y hy Kt Kf hh => ?_) (by omega) ?_
    · by_cases e : y = x
      · simpa [e] using hh
      · simpa [e] using hh
    · rw [lj_jn (sc_nd h)]
      refine lc_filt (c := EV.d ∘ tI) (p := fun s => decide (x ∉ s)) (f := tI) (fun s hs Kt Kf hh => ?_) (by omega) ?_
      · by_cases e : x ∈ s
        · simpa [e] using hh
        · simpa [e] using hh
      · have fl := List.length_filter_le (fun s => decide (x ∉ s)) ss
        obtain ⟨e1, e2⟩ := elim1_sc h (by omega) x
        have ih := @lleft_for D b v0 v1 q (elim1 ss x) (some (.d (.int x))) (some (.d (tI (jn ss x)))) z5 z6 e1 (fun y hy => hx y (List.mem_cons_of_mem _ hy)) (by omega) k
        unfold elim1 at ih
        rw [List.map_append] at ih
        simp at fl
        simp
        refine ⟨by show _ + 1 ≤ 2 ^ 24; omega, ?_⟩
        simpa [tI] using ih
theorem b__law_left : BodyD T__law_left 7 2 sp__law_left := by
  rintro rs T - ⟨b, ss, q, rfl, hc, hl, hq, k⟩
  have h8 := sq_len hc.b8 hq
  simp [T__law_left, ent]
  refine lleft_for hc hq.r (by omega) fun z3 z4 => ?_
  simp
  exact k
theorem b__law_clusters : BodyD T__law_clusters 4 2 sp__law_clusters := by
  rintro rs T - ⟨b, ss, q, rfl, hc, hq, k⟩
  have h8 := sq_len hc.b8 hq
  simp [T__law_clusters, ent]
  refine lc_mapd (f := fun e => tI (cl ss (q.take e.2) e.1)) (fun e he Kt Kf hh => ?_) (by simp; omega) ?_
  · have hm := hq.r e.1 (List.mem_of_getElem? (zip_at he))
    simp [← List.map_take]
    exact ⟨b, ss, q.take e.2, e.1, rfl, hc, sq_take hq _, hm.1, hm.2, by simpa using hh⟩
  · rw [cls_zip]
    exact k
end K20
set_option Elab.async false
set_option linter.all false
set_option maxRecDepth 100000
set_option maxHeartbeats 1000000
namespace K20
open PySem PySem.Spec PyProof.Rows L2 DL
/-! ### the law's clusters -/
theorem nd_len8 {b : Int} {ss : List (List Int)} {g : List Int} {t : Int} (hc : Sc b ss) (ht : 0 ≤ t ∧ t < b) {r : List Int} (nd : r.Nodup) (h : ∀ a ∈ r, Reach ss g t a) : r.length ≤ 8 :=
  sq_len hc.b8 ⟨nd, fun x hx => Reach.range hc ht (h x hx)⟩
theorem any_act {g r s : List Int} {t : Int} : (s.any fun a => decide (a ∈ r) && (decide (a = t) || decide (a ∈ g))) = act g t r s := rfl
theorem sweep_for {D : DEnds} {b : Int} {SS : List (List Int)} {g : List Int} {t : Int} (hc : Sc b SS) (ht : 0 ≤ t ∧ t < b) {v0 v4 v5 : Option EV} : ∀ {ss : List (List Int)} {r : List Int} {z6 z7 : Option EV}, (∀ s ∈ ss, s ∈ SS) → r.Nodup → (∀ a ∈ r, Reach SS g t a) → (∀ z6, D.nx [v0, some (.d (tI g)), some (.d (.int t)), some (.o ((swp ss g t r).map .int)), v4, v5, z6, z7]) →
    forGo (gN 6) (sThen (sIf (eT (e1 fAny (eLc (iS false (eVar 6)) (gN 7) bYes (eAnd (e2 (fIn false) (eVar 7) (eVar 3)) (eOr (e2 fEq (eVar 7) (eVar 2)) (e2 (fIn false) (eVar 7) (eVar 1)))) [7]))) (sThen (sSet 3 (e2 fAddL (eVar 3) (eLc (iS false (eVar 6)) (gN 7) (eT (e2 (fIn true) (eVar 7) (eVar 3))) (eVar 7) [7]))) sNil) sNil) sNil)
      D (ss.map (EV.d ∘ tI)) [v0, some (.d (tI g)), some (.d (.int t)), some (.o (r.map .int)), v4, v5, z6, z7]
  | [], r, z6, z7, _, _, _, k => by simpa [swp] using k z6
  | s :: ss, r, z6, z7, hs, nd, hr, k => by
    have hsS := hs s List.mem_cons_self
    have s8 : s.length ≤ 8 := sq_len hc.b8 (hc.s s hsS)
    have r8 := nd_len8 hc ht nd hr
    have ih := @sweep_for D b SS g t hc ht v0 v4 v5 ss (swp1 g t r s) (some (.d (tI s))) z7 (fun y hy => hs y (List.mem_cons_of_mem _ hy)) (nd1 nd (hc.s s hsS).nd) (reach1 hsS hr) k
    simp
    refine lc_mapd (c := EV.d ∘ PyData.int) (f := fun a => .bool (decide (a ∈ r) && (decide (a = t) || decide (a ∈ g)))) (fun a ha Kt Kf hh => ?_) (by omega) (fAny_map ?_)
    · by_cases h1 : a ∈ r
      · by_cases h2 : a = t
        · simp [h1, h2] at hh ⊢
          rw [h2] at h1
          simpa [h1] using hh
        · by_cases h3 : a ∈ g
          · simpa [h1, h2, h3] using hh
          · simpa [h1, h2, h3] using hh
      · simpa [h1] using hh
    · rw [any_act]
      simp
      refine ⟨fun ha => ?_, fun ha => ?_⟩
      · refine lc_filt (c := EV.d ∘ PyData.int) (p := fun a => decide (a ∉ r)) (f := .int) (fun y hy Kt Kf hh => ?_) (by omega) ?_
        · by_cases e2 : y ∈ r
          · simpa [e2] using hh
          · simpa [e2] using hh
        · have fl := List.length_filter_le (fun a => decide (a ∉ r)) s
          unfold swp1 at ih
          rw [if_pos ha, List.map_append] at ih
          simp at fl
          simp
          refine ⟨by show _ + _ ≤ 2 ^ 24; omega, ?_⟩
          simpa using ih
      · unfold swp1 at ih
        rw [if_neg (by rw [ha]; exact Bool.false_ne_true)] at ih
        exact ih
theorem swps_succ {ss : List (List Int)} {g : List Int} {t : Int} {n : Nat} {r : List Int} : swps ss g t (n + 1) r = if (swp ss g t r).length = r.length then swp ss g t r else swps ss g t n (swp ss g t r) := rfl
theorem cluster_for {D : DEnds} {b : Int} {SS : List (List Int)} {g : List Int} {t : Int} (hc : Sc b SS) (ht : 0 ≤ t ∧ t < b) : ∀ {rs : List EV} {r : List Int} {z4 z5 z6 z7 : Option EV}, (∀ x ∈ rs, dn? x = true) → r.Nodup → (∀ a ∈ r, Reach SS g t a) → (∀ z4 z5 z6, D.nx [some (.d (tS SS)), some (.d (tI g)), some (.d (.int t)), some (.o ((swps SS g t rs.length r).map .int)), z4, z5, z6, z7]) →
    forGo (gN 4) (sThen (sSet 5 (e1 fLen (eVar 3)))
      (sThen (sFor (iS true (eVar 0)) (gN 6) (sThen (sIf (eT (e1 fAny (eLc (iS false (eVar 6)) (gN 7) bYes (eAnd (e2 (fIn false) (eVar 7) (eVar 3)) (eOr (e2 fEq (eVar 7) (eVar 2)) (e2 (fIn false) (eVar 7) (eVar 1)))) [7]))) (sThen (sSet 3 (e2 fAddL (eVar 3) (eLc (iS false (eVar 6)) (gN 7) (eT (e2 (fIn true) (eVar 7) (eVar 3))) (eVar 7) [7]))) sNil) sNil) sNil))
      (sThen (sIf (eT (e2 fEq (e1 fLen (eVar 3)) (eVar 5))) (sThen sBreak sNil) sNil) sNil)))
      D rs [some (.d (tS SS)), some (.d (tI g)), some (.d (.int t)), some (.o (r.map .int)), z4, z5, z6, z7]
  | [], r, z4, z5, z6, z7, _, _, _, k => by simpa [swps] using k z4 z5 z6
  | x :: rs, r, z4, z5, z6, z7, hx, nd, hr, k => by
    have hd := hx x List.mem_cons_self
    simp [hd]
    refine sweep_for hc ht (fun s h => h) nd hr fun z6' => ?_
    simp
    have ndS' := ndS (g := g) (t := t) (ss := SS) (r := r) (sc_nd hc) nd
    have reS' := reachS (g := g) (t := t) (ss0 := SS) (ss := SS) (r := r) (fun s h => h) hr
    simp only [List.length_cons, swps_succ] at k
    refine ⟨fun e => ?_, fun e => ?_⟩
    · have e' : (swp SS g t r).length = r.length := by omega
      simp only [if_pos e'] at k
      exact k _ _ _
    · have e' : ¬ (swp SS g t r).length = r.length := by omega
      simp only [if_neg e'] at k
      exact cluster_for hc ht (fun y hy => hx y (List.mem_cons_of_mem _ hy)) ndS' reS' k
theorem b__law_cluster : BodyD T__law_cluster 8 3 sp__law_cluster := by
  rintro rs T - ⟨b, ss, g, t, rfl, hc, hg, t0, tb, k⟩
  have hl := hc.len
  have nd1' : ([t] : List Int).Nodup := by simp
  have re1' : ∀ a ∈ [t], Reach ss g t a := fun a ha => by rw [List.mem_singleton.mp ha]; exact .refl
  simp [T__law_cluster, ent]
  refine ⟨by omega, by omega, ?_⟩
  refine cluster_for (r := [t]) hc ⟨t0, tb⟩ (fun r hr => ?_) nd1' re1' fun z4 z5 z6 => ?_
  · obtain ⟨i, _, rfl⟩ := List.mem_map.mp hr
    rfl
  · have len : ((List.range (ss.length + 1)).map fun (i : Nat) => EV.d (.int (i : Int))).length = ss.length + 1 := by simp
    rw [len]
    have r8 := nd_len8 hc ⟨t0, tb⟩ (ndSs (sc_nd hc) (ss.length + 1) [t] nd1') (reachSs (ss.length + 1) [t] re1')
    simp
    refine lc_filt (c := EV.d ∘ PyData.int) (p := fun a => decide (a = t) || decide (a ∉ g)) (f := .int) (fun x hx Kt Kf hh => ?_) (by omega) ?_
    · by_cases e : x = t
      · simpa [e] using hh
      · by_cases e2 : x ∈ g
        · simpa [e, e2] using hh
        · simpa [e, e2] using hh
    · refine ⟨_, rfl, ?_⟩
      simpa [cl, tI] using k
/-! ### the law's greedy choice -/
theorem lgr_for {D : DEnds} {cs : List Int} {ss : List (List Int)} (h1 : ∀ c ∈ cs, 0 ≤ c ∧ c ≤ 1000) (hc : Sc cs.length ss) {v2 : Option EV} : ∀ {rs : List EV} {left found : List Int} {z3 z6 z7 : Option EV}, (∀ x ∈ rs, dn? x = true) → rs.length = left.length → GrOk cs ss left found →
    (∀ z3 z4 z6 z7, D.nx [some (.d (tI cs)), some (.d (tS ss)), v2, z3, z4, some (.d (tI (grd cs ss left.length left found))), z6, z7]) →
    forGo (gN 3) (sThen (sSet 6 (eLc (iS false (eVar 4)) (gN 7) bYes (eCB (fCall sp__law_size) (aCons (eVar 0) (aCons (eCB (fCall sp__law_cluster) (aCons (eVar 1) (aCons (eVar 5) (aCons (eVar 7) aNil)))) aNil))) [7]))
      (sThen (sSet 7 (e2 fIx (eVar 4) (eLix (eVar 6) (e1 fMinI (eVar 6))))) (sThen (sRem 4 (eVar 7)) (sThen (sSet 5 (e2 fAddT (eVar 5) (eTup (aCons (eVar 7) aNil)))) sNil))))
      D rs [some (.d (tI cs)), some (.d (tS ss)), v2, z3, some (.o (left.map .int)), some (.d (tI found)), z6, z7]
  | [], left, found, z3, z6, z7, _, l, _, k => by
    have : left = [] := List.eq_nil_of_length_eq_zero l.symm
    subst this
    simpa [grd] using k z3 _ z6 z7
  | r :: rs, [], found, z3, z6, z7, _, l, _, k => by cases l
  | r :: rs, x :: xs, found, z3, z6, z7, hr, l, ok, k => by
    have h8 := sq_len hc.b8 ok.l
    have f8 := sq_len hc.b8 ok.f
    have hd := hr r List.mem_cons_self
    have gb := gpick_best (sz := fun v => prd cs (cl ss found v)) (left := x :: xs) (by simp) ok.st
    obtain ⟨i, ei, hi⟩ := gpick_idx (sz := fun v => prd cs (cl ss found v)) (left := x :: xs) (by simp)
    simp [hd]
    refine lc_mapd (xs := x :: xs) (c := EV.d ∘ PyData.int) (f := fun v => .int (prd cs (cl ss found v))) (fun v hv Kt Kf hh => ?_) (by omega) ?_
    · have rv := ok.l.r v hv
      have sq := cl_sq hc found rv
      simp
      refine ⟨_, ss, found, v, rfl, hc, ok.f, rv.1, rv.2, ?_⟩
      simp
      refine ⟨cs, cl ss found v, .inl rfl, ⟨h1, sq.r, by have := sq_len hc.b8 sq; omega⟩, ?_⟩
      simpa using hh
    · have em : (x :: xs).map (fun v => PyData.int (prd cs (cl ss found v))) = ((x :: xs).map fun v => prd cs (cl ss found v)).map .int := by rw [List.map_map]; rfl
      rw [em]
      have mm := min_mem (ns := (x :: xs).map fun v => prd cs (cl ss found v)) (by simp)
      generalize hS : (x :: xs).map (fun v => prd cs (cl ss found v)) = S at *
      have hSl : 0 < S.length := by rw [← hS]; simp
      refine ⟨S, rfl, hSl, fun m hm hmin => ?_⟩
      have e : m = S.foldl min (S.getD 0 0) := min_of hm hmin
      have hmS : m ∈ S := hm
      generalize hg : gpick (fun v => prd cs (cl ss found v)) (x :: xs) = v at *
      have at1 : L2.atI (PyData.int x :: xs.map PyData.int) (S.idxOf m : Nat) = some (.int v) := by
        rw [e, ← ei]
        have : (PyData.int x :: xs.map PyData.int) = (x :: xs).map PyData.int := rfl
        rw [this]
        exact atI_nat (by rw [List.getElem?_map, hi]; rfl)
      have hmv := gb.1
      have ihk := @lgr_for D cs ss h1 hc v2 rs ((x :: xs).erase v) (found ++ [v]) (some r) (some (.o (S.map .int))) (some (.d (.int v))) (fun y hy => hr y (List.mem_cons_of_mem _ hy)) (by rw [List.length_erase_of_mem hmv]; simp at l ⊢; omega) (ok.next hmv) (fun a b c d => by
        have := k a b c d
        rw [show (x :: xs).length = xs.length + 1 from rfl, grd_succ, hg] at this
        rw [List.length_erase_of_mem hmv]
        exact this)
      have e2 : PyData.tuple (found.map .int ++ [.int v]) = tI (found ++ [v]) := by simp [tI]
      simp [at1, hmS, e2]
      exact ⟨x :: xs, intsOf_map (x :: xs), hmv, by show found.length + 1 ≤ 2 ^ 24; omega, ihk⟩
theorem b__law_greedy : BodyD T__law_greedy 8 3 sp__law_greedy := by
  rintro rs T - ⟨cs, ss, lot, rfl, h1, hc, hl, st, k⟩
  have h8 := sq_len hc.b8 hl
  simp [T__law_greedy, ent]
  refine ⟨by omega, ?_⟩
  refine lgr_for (left := lot) (found := []) h1 hc (fun r hr => ?_) (by simp) ⟨st, hl, ⟨List.nodup_nil, fun x h => nomatch h⟩, fun x _ => by simp⟩ fun a b c d => ?_
  · obtain ⟨i, _, rfl⟩ := List.mem_map.mp hr
    rfl
  · simpa using k
end K20
set_option Elab.async false
set_option linter.all false
set_option maxRecDepth 100000
set_option maxHeartbeats 1000000
namespace K20
open PySem PySem.Spec PyProof.Rows L2 DL
/-! ### a sequence that follows the flows -/
theorem rdy_zip {fl : Int → Option Int} {q left : List Int} (hs : ∀ v ∈ left, v ∈ q) : left.filter (fun v => !decide (some v ∈ (q.filter fun u => decide (u ∈ left)).map fl)) = rdy fl left := by
  unfold rdy
  refine List.filter_congr fun v _ => ?_
  congr 1
  rw [Bool.eq_iff_iff, List.any_eq_true]
  simp only [decide_eq_true_eq, List.mem_map, List.mem_filter]
  constructor
  · rintro ⟨u, ⟨_, h⟩, e⟩; exact ⟨u, h, e⟩
  · rintro ⟨u, h, e⟩; exact ⟨u, ⟨hs u h, h⟩, e⟩
theorem flowing_for {D : DEnds} {fl : Int → Option Int} {q : List Int} {bl : Bool} (h8 : q.length ≤ 8) (good : Good fl q) {Iv : List Int → List Int → Prop} (hI : ∀ left found v, Iv left found → v ∈ rdy fl left → (bl = true → ∃ r, rdy fl left = v :: r) → Iv (left.erase v) (found ++ [v]))
    (hD : ∀ s z4 z5 z7 z8 z9, Iv [] s → D.nx [some .hp, some (.d (tO (q.map fl))), some (.d (tI q)), some (.d (.bool bl)), z4, z5, some (.o (s.map .int)), z7, z8, z9, none]) :
    ∀ {rs : List EV} {left found : List Int} {z4 z7 z8 z9 : Option EV}, (∀ x ∈ rs, dn? x = true) → rs.length = left.length → (∀ v ∈ left, v ∈ q) → left.Nodup → found.length + left.length ≤ 8 → Iv left found →
    forGo (gN 4) (sThen (sSet 7 (eLc (iZ (eVar 2) (eVar 1)) (gT (gsCons (gN 9) (gsCons (gN 10) gsNil))) (eT (e2 (fIn false) (eVar 9) (eVar 5))) (eVar 10) [9, 10]))
      (sThen (sSet 8 (eLc (iS false (eVar 5)) (gN 9) (eT (e2 (fIn true) (eVar 9) (eVar 7))) (eVar 9) [9]))
      (sThen (sSet 9 (eIf (eT (eVar 3)) (e2 fIx (eVar 8) (eC (.d (.int 0)))) (eCB (fCall sp__law_pick) (aCons (eVar 0) (aCons (eVar 8) aNil)))))
      (sThen (sRem 5 (eVar 9)) (sThen (sApp 6 (eVar 9)) sNil)))))
      D rs [some .hp, some (.d (tO (q.map fl))), some (.d (tI q)), some (.d (.bool bl)), z4, some (.o (left.map .int)), some (.o (found.map .int)), z7, z8, z9, none]
  | [], left, found, z4, z7, z8, z9, _, l, _, _, _, iv => by
    have : left = [] := List.eq_nil_of_length_eq_zero l.symm
    subst this
    simpa using hD found z4 _ z7 z8 z9 iv
  | r :: rs, left, found, z4, z7, z8, z9, hr, l, hs, nd, hl, iv => by
    have hd := hr r List.mem_cons_self
    rw [List.length_cons] at l
    have hn : left ≠ [] := fun e => by rw [e] at l; cases l
    have e1 : asT (.d (tO (q.map fl))) = some ((q.map fl).map oD) := rfl
    simp [hd, e1]
    have e0 := zil_fl (fl := fl) q
    rw [List.map_map] at e0
    rw [e0]
    refine lc_filt (c := fun v => EV.d (.tuple [.int v, oD (fl v)])) (p := fun v => decide (v ∈ left)) (f := fun v => oD (fl v)) (fun v hv Kt Kf hh => ?_) (by omega) ?_
    · by_cases h : v ∈ left
      · simpa [h] using hh
      · simpa [h] using hh
    · have em : (q.filter fun v => decide (v ∈ left)).map (fun v => oD (fl v)) = ((q.filter fun v => decide (v ∈ left)).map fl).map oD := by rw [List.map_map]; rfl
      rw [em]
      refine lc_filt (c := EV.d ∘ PyData.int) (p := fun v => !decide (some v ∈ (q.filter fun u => decide (u ∈ left)).map fl)) (f := .int) (fun v hv Kt Kf hh => ?_) (by omega) ?_
      · have nn := @nin_oD ((q.filter fun u => decide (u ∈ left)).map fl) v
        generalize (q.filter fun u => decide (u ∈ left)).map fl = os at *
        by_cases h : some v ∈ os
        · simpa [nn, h] using hh
        · simpa [nn, h] using hh
      · rw [rdy_zip hs]
        generalize (q.filter fun u => decide (u ∈ left)).map fl = os at *
        have ne := rdy_ne good hs hn
        have fin : ∀ v, v ∈ rdy fl left → (bl = true → ∃ r, rdy fl left = v :: r) → (v ∈ left) ∧ found.length < 1000 ∧ forGo (gN 4) (sThen (sSet 7 (eLc (iZ (eVar 2) (eVar 1)) (gT (gsCons (gN 9) (gsCons (gN 10) gsNil))) (eT (e2 (fIn false) (eVar 9) (eVar 5))) (eVar 10) [9, 10]))
            (sThen (sSet 8 (eLc (iS false (eVar 5)) (gN 9) (eT (e2 (fIn true) (eVar 9) (eVar 7))) (eVar 9) [9]))
            (sThen (sSet 9 (eIf (eT (eVar 3)) (e2 fIx (eVar 8) (eC (.d (.int 0)))) (eCB (fCall sp__law_pick) (aCons (eVar 0) (aCons (eVar 8) aNil)))))
            (sThen (sRem 5 (eVar 9)) (sThen (sApp 6 (eVar 9)) sNil)))))
            D rs [some .hp, some (.d (tO (q.map fl))), some (.d (tI q)), some (.d (.bool bl)), some r, some (.o ((left.erase v).map .int)), some (.o (found.map .int ++ [.int v])), some (.o (os.map oD)), some (.o ((rdy fl left).map .int)), some (.d (.int v)), none] := fun v hv hb => by
          have hvl := (mem_rdy.mp hv).1
          have le := List.length_erase_of_mem hvl
          have ih := flowing_for h8 good hI hD (rs := rs) (left := left.erase v) (found := found ++ [v]) (z4 := some r) (z7 := some (.o (os.map oD))) (z8 := some (.o ((rdy fl left).map .int))) (z9 := some (.d (.int v))) (fun y hy => hr y (List.mem_cons_of_mem _ hy)) (by omega) (fun u hu => hs u (List.mem_of_mem_erase hu)) (nd.erase _) (by rw [List.length_append, List.length_singleton]; omega) (hI left found v iv hv hb)
          rw [List.map_append] at ih
          exact ⟨hvl, by omega, ih⟩
        cases bl with
        | true =>
          cases hrd : rdy fl left with
          | nil => exact absurd hrd ne
          | cons v rr =>
            have f := fin v (by rw [hrd]; exact List.mem_cons_self) fun _ => ⟨rr, hrd⟩
            rw [hrd] at f
            have a0 := at0 (ns := v :: rr) rfl
            simp only [List.map_cons] at a0 f
            simp [a0]
            exact f
        | false =>
          simp
          refine ⟨(rdy fl left).map .int, .inl rfl, by simpa using ne, ?_, fun x hx => ?_⟩
          · have := List.length_filter_le (fun v => !(left.any fun u => decide (fl u = some v))) left
            unfold rdy
            rw [List.length_map]
            omega
          · obtain ⟨v, hv, rfl⟩ := List.mem_map.mp hx
            have f := fin v hv fun e => by cases e
            simp
            exact f
theorem b__law_flowing : BodyD T__law_flowing 11 4 sp__law_flowing := by
  rintro rs T - ⟨b, ss, q, hc, hq, ⟨rfl, k⟩ | ⟨rfl, k⟩⟩
  · have h8 := sq_len hc.b8 hq
    rw [flws_map hq.nd]
    simp [T__law_flowing, ent]
    refine ⟨q, rfl, by omega, ?_⟩
    simp
    refine ⟨by omega, ?_⟩
    refine flowing_for (q := q) (Iv := fun left found => found ++ stl (fw ss q) left.length left = settle ss q) h8 (good_fw hq.nd) (fun left found v iv hv hb => ?_) (fun s z4 z5 z7 z8 z9 iv => ?_) (left := srt q) (found := []) (fun r hr => ?_) (by simp [(srt_perm q).length_eq]) (fun v hv => srt_mem.mp hv) ((srt_perm q).nodup_iff.mpr hq.nd) (by simp [(srt_perm q).length_eq]; omega) (by
      rw [settle_eq hq.nd, (srt_perm q).length_eq]; rfl)
    · obtain ⟨r, hr⟩ := hb rfl
      have hvl := (mem_rdy.mp hv).1
      obtain ⟨n, hn⟩ : ∃ n, left.length = n + 1 := ⟨left.length - 1, by have := List.length_pos_of_mem hvl; omega⟩
      rw [List.length_erase_of_mem hvl, hn, List.append_assoc]
      rw [hn, stl_step hr] at iv
      exact iv
    · have : s = settle ss q := by rw [← iv]; simp [stl]
      rw [this]
      simpa [tI] using k
    · obtain ⟨i, _, rfl⟩ := List.mem_map.mp hr
      rfl
  · have h8 := sq_len hc.b8 hq
    rw [flws_map hq.nd]
    simp [T__law_flowing, ent]
    refine ⟨q, rfl, by omega, ?_⟩
    simp
    refine ⟨by omega, ?_⟩
    refine flowing_for (q := q) (Iv := fun left found => (found ++ left).Perm q) h8 (good_fw hq.nd) (fun left found v iv hv hb => ?_) (fun s z4 z5 z7 z8 z9 iv => ?_) (left := srt q) (found := []) (fun r hr => ?_) (by simp [(srt_perm q).length_eq]) (fun v hv => srt_mem.mp hv) ((srt_perm q).nodup_iff.mpr hq.nd) (by simp [(srt_perm q).length_eq]; omega) (by simpa using srt_perm q)
    · have hvl := (mem_rdy.mp hv).1
      rw [List.append_assoc]
      exact (List.Perm.append_left found (List.perm_cons_erase hvl).symm).trans iv
    · have := k s (by simpa using iv)
      simpa [tI] using this
    · obtain ⟨i, _, rfl⟩ := List.mem_map.mp hr
      rfl
end K20
set_option Elab.async false
set_option linter.all false
set_option maxRecDepth 100000
set_option maxHeartbeats 1000000
namespace K20
open PySem PySem.Spec PyProof.Rows L2 DL
/-! ### what repr needs -/
def Sml (i : Int) : Prop := i.natAbs < 10 ^ 40
theorem ofS_len (s : String) : (Str.ofString s).length = s.length := PySem.ofString_length s
theorem sh_int_len {i : Int} (h : Sml i) : (PyData.int i).shown.length ≤ 41 := by
  have e : (PyData.int i).shown = Str.ofString (toString i) := by simp only [PyData.shown]
  rw [e, ofS_len]
  exact int_text_length_le10 (by decide) h
theorem showable_int {i : Int} (h : Sml i) : (PyData.int i).showable = true := by
  have e : (PyData.int i).showable = decide (i.natAbs.log2 < 1920) := by simp only [PyData.showable]
  rw [e]
  refine decide_eq_true ?_
  by_cases z : i.natAbs = 0
  · rw [z]; decide
  · exact (Nat.log2_lt z).mpr (Nat.lt_of_lt_of_le h (Nat.le_trans (by decide : 10 ^ 40 ≤ 2 ^ 200) (Nat.pow_le_pow_right (by decide) (by decide))))
theorem piled_le {ts : List Str} {n : Nat} (h : ∀ t ∈ ts, t.length ≤ n) : piled ts ≤ ts.length * (n + 2) := by
  induction ts with
  | nil => simp [piled]
  | cons t ts ih =>
    rw [piled_cons, List.length_cons, Nat.succ_mul]
    have a := h t List.mem_cons_self
    have b := ih fun x hx => h x (List.mem_cons_of_mem _ hx)
    omega
theorem tupT_le {ts : List Str} {n : Nat} (h : ∀ t ∈ ts, t.length ≤ n) : (tupleText ts).length ≤ ts.length * (n + 2) + 4 := by
  unfold tupleText
  rw [strLen_append, strLen_append]
  have e1 : (("(" : Str)).length = 1 := rfl
  have e2 : ((if ts.length == 1 then ",)" else ")" : String) : Str).length ≤ 2 := by split <;> decide
  cases ts with
  | nil =>
    have : (Str.join ", " ([] : List Str)).length = 0 := rfl
    simp at e2 ⊢
    omega
  | cons t ts =>
    have a := join_length_add (t :: ts) (by simp)
    have b := piled_le h
    omega
structure Shw (n : Nat) (d : PyData) : Prop where
  s : d.showable = true
  l : d.shown.length ≤ n
theorem shw_int {i : Int} (h : Sml i) : Shw 41 (.int i) := ⟨showable_int h, sh_int_len h⟩
theorem shw_oD {o : Option Int} (h : ∀ i, o = some i → Sml i) : Shw 41 (oD o) := by
  cases o with
  | none => exact ⟨by simp [oD, PyData.showable], by simp only [oD, PyData.shown]; decide⟩
  | some i => exact shw_int (h i rfl)
theorem shAll {n : Nat} : ∀ {xs : List PyData}, (∀ x ∈ xs, Shw n x) → PyData.showableAll xs = true ∧ (PyData.shownAll xs).length = xs.length ∧ ∀ t ∈ PyData.shownAll xs, t.length ≤ n
  | [], _ => ⟨by simp [PyData.showableAll], by simp [PyData.shownAll], by simp [PyData.shownAll]⟩
  | x :: xs, h => by
    obtain ⟨a, b, c⟩ := shAll (n := n) (xs := xs) fun y hy => h y (List.mem_cons_of_mem _ hy)
    have hx := h x List.mem_cons_self
    refine ⟨by simp [PyData.showableAll, hx.s, a], by simp [PyData.shownAll, b], fun t ht => ?_⟩
    simp only [PyData.shownAll, List.mem_cons] at ht
    rcases ht with rfl | ht
    · exact hx.l
    · exact c t ht
theorem shw_tup {n m : Nat} {xs : List PyData} (h : ∀ x ∈ xs, Shw n x) (l : xs.length * (n + 2) + 4 ≤ m) : Shw m (.tuple xs) := by
  obtain ⟨a, b, c⟩ := shAll h
  refine ⟨by simpa only [PyData.showable] using a, ?_⟩
  have e : (PyData.tuple xs).shown = tupleText (PyData.shownAll xs) := by simp only [PyData.shown]
  rw [e]
  have := tupT_le c
  rw [b] at this
  omega
theorem shw_tI {ns : List Int} (h : ∀ n ∈ ns, Sml n) (l : ns.length ≤ 100) : Shw 5000 (tI ns) := shw_tup (n := 41) (fun x hx => by
  obtain ⟨n, hn, rfl⟩ := List.mem_map.mp hx
  exact shw_int (h n hn)) (by rw [List.length_map]; omega)
theorem shw_tO {os : List (Option Int)} (h : ∀ i, some i ∈ os → Sml i) (l : os.length ≤ 100) : Shw 5000 (tO os) := shw_tup (n := 41) (fun x hx => by
  obtain ⟨o, ho, rfl⟩ := List.mem_map.mp hx
  exact shw_oD fun i e => h i (e ▸ ho)) (by rw [List.length_map]; omega)
theorem shw_tS {ss : List (List Int)} (h : ∀ s ∈ ss, (∀ n ∈ s, Sml n) ∧ s.length ≤ 100) (l : ss.length ≤ 100) : Shw 600000 (tS ss) := shw_tup (n := 5000) (fun x hx => by
  obtain ⟨s, hs, rfl⟩ := List.mem_map.mp hx
  exact shw_tI (h s hs).1 (h s hs).2) (by rw [List.length_map]; omega)
theorem rp {d : PyData} {n : Nat} {y : EV} {Q : EV → Prop} (hy : dt y = some d) (h : Shw n d) (hn : n ≤ 1000000) (hd : d.canLay0 = true) (hdp : d.depth ≤ 32) (q : Q (.d (.str d.shown))) : fRepr y Q := by
  unfold fRepr
  rw [hy]
  exact ⟨h.s, PyData.hasDict_of_canLay d hd, hdp, Nat.le_trans h.l (Nat.le_trans hn (by decide)), q⟩
theorem rp_tI {ns : List Int} {y : EV} {Q : EV → Prop} (hy : dt y = some (tI ns)) (h : ∀ n ∈ ns, Sml n) (l : ns.length ≤ 100) (q : Q (.d (.str (tI ns).shown))) : fRepr y Q := rp hy (shw_tI h l) (by decide) (cl0_tI ns) (by rw [dp_tI]; decide) q
theorem rp_int {i : Int} {y : EV} {Q : EV → Prop} (hy : dt y = some (.int i)) (h : Sml i) (q : Q (.d (.str (PyData.int i).shown))) : fRepr y Q := rp hy (shw_int h) (by decide) (by simp [PyData.canLay0]) (by simp [PyData.depth]) q
theorem rp_bool {i : Bool} {y : EV} {Q : EV → Prop} (hy : dt y = some (.bool i)) (q : Q (.d (.str (PyData.bool i).shown))) : fRepr y Q := rp (n := 10) hy ⟨by simp [PyData.showable], by cases i <;> (simp only [PyData.shown]; decide)⟩ (by decide) (by simp [PyData.canLay0]) (by simp [PyData.depth]) q
theorem rp_tO {os : List (Option Int)} {y : EV} {Q : EV → Prop} (hy : dt y = some (tO os)) (h : ∀ i, some i ∈ os → Sml i) (l : os.length ≤ 100) (q : Q (.d (.str (tO os).shown))) : fRepr y Q := rp hy (shw_tO h l) (by decide) (by simp [tO, PyData.canLay0, cl0_oDs]) (by simp [tO, PyData.depth, dp_oDs]) q
theorem rp_tS {ss : List (List Int)} {y : EV} {Q : EV → Prop} (hy : dt y = some (tS ss)) (h : ∀ s ∈ ss, (∀ n ∈ s, Sml n) ∧ s.length ≤ 100) (l : ss.length ≤ 100) (q : Q (.d (.str (tS ss).shown))) : fRepr y Q := rp hy (shw_tS h l) (by decide) (by simp [tS, PyData.canLay0, cl0_tIs]) (by have := dp_tIs ss; simp only [tS, PyData.depth]; omega) q
theorem sml_r {b i : Int} (hb : b ≤ 8) (h : 0 ≤ i ∧ i < b) : Sml i := by
  unfold Sml
  have : i.natAbs ≤ 8 := by omega
  exact Nat.lt_of_le_of_lt this (by decide)
theorem sc_sml {b : Int} {ss : List (List Int)} (h : Sc b ss) : ∀ s ∈ ss, (∀ n ∈ s, Sml n) ∧ s.length ≤ 100 := fun s hs => ⟨fun n hn => sml_r h.b8 ((h.s s hs).r n hn), by have := sq_len h.b8 (h.s s hs); omega⟩
end K20
set_option Elab.async false
set_option linter.all false
set_option maxRecDepth 100000
set_option maxHeartbeats 1000000
namespace K20
open PySem PySem.Spec PyProof.Rows L2 DL
theorem cls_sml {b : Int} {ss : List (List Int)} {q : List Int} (hc : Sc b ss) (hq : Sq b q) : ∀ s ∈ cls ss q, (∀ n ∈ s, Sml n) ∧ s.length ≤ 100 := fun s hs => by
  obtain ⟨v, hv, rfl⟩ := cls_mem hq.nd hs
  have sq := cl_sq hc (bef q v) (hq.r v hv)
  exact ⟨fun n hn => sml_r hc.b8 (sq.r n hn), by have := sq_len hc.b8 sq; omega⟩
theorem prd_bound {cs : List Int} (hc : ∀ c ∈ cs, 0 ≤ c ∧ c ≤ 1000) : ∀ {lot : List Int} {m : Int} {B : Int}, (∀ x ∈ lot, 0 ≤ x ∧ x < cs.length) → 0 ≤ m → m ≤ B → 0 ≤ lot.foldl (fun m x => m * cs.getD x.toNat 0) m ∧ lot.foldl (fun m x => m * cs.getD x.toNat 0) m ≤ B * 1000 ^ lot.length
  | [], m, B, _, h0, h1 => ⟨h0, by simpa using h1⟩
  | x :: lot, m, B, h, h0, h1 => by
    obtain ⟨a, b⟩ := h x List.mem_cons_self
    have hcx : 0 ≤ cs.getD x.toNat 0 ∧ cs.getD x.toNat 0 ≤ 1000 := by
      rw [List.getD_eq_getElem?_getD, List.getElem?_eq_getElem (by omega)]
      exact hc _ (List.getElem_mem _)
    have hm : m * cs.getD x.toNat 0 ≤ B * 1000 := Int.mul_le_mul h1 hcx.2 hcx.1 (by omega)
    obtain ⟨c, d⟩ := @prd_bound cs hc lot (m * cs.getD x.toNat 0) (B * 1000) (fun y hy => h y (List.mem_cons_of_mem _ hy)) (Int.mul_nonneg h0 hcx.1) hm
    rw [List.foldl_cons, List.length_cons, Int.pow_succ']
    exact ⟨c, by rw [← Int.mul_assoc]; exact d⟩
theorem prd_small {cs lot : List Int} (h : CsOk cs lot) (l : lot.length ≤ 8) : 0 ≤ prd cs lot ∧ prd cs lot ≤ 10 ^ 24 := by
  obtain ⟨a, b⟩ := prd_bound h.c (m := 1) (B := 1) h.l (by decide) (by decide)
  refine ⟨a, Int.le_trans b ?_⟩
  rw [Int.one_mul]
  have e : (10 : Int) ^ 24 = 1000 ^ 8 := by decide
  rw [e]
  exact_mod_cast Nat.pow_le_pow_right (by decide : 0 < 1000) l
theorem sml_of {i : Int} (h0 : 0 ≤ i) (h : i ≤ 10 ^ 30) : Sml i := by
  unfold Sml
  have : (i.natAbs : Int) ≤ 10 ^ 30 := by omega
  have : i.natAbs ≤ 10 ^ 30 := by exact_mod_cast this
  exact Nat.lt_of_le_of_lt this (by decide)
theorem szs_ok {cs : List Int} {ss : List (List Int)} {q : List Int} (h1 : ∀ c ∈ cs, 0 ≤ c ∧ c ≤ 1000) (hc : Sc cs.length ss) (hq : Sq cs.length q) : ∀ n ∈ szs cs ss q, 0 ≤ n ∧ n ≤ 10 ^ 24 := fun n hn => by
  unfold szs at hn
  obtain ⟨c, hcc, rfl⟩ := List.mem_map.mp hn
  obtain ⟨v, hv, rfl⟩ := cls_mem hq.nd hcc
  exact prd_small (cls_ok h1 hc hq hcc) (sq_len hc.b8 (cl_sq hc (bef q v) (hq.r v hv)))
theorem max_bound {B : Int} : ∀ {ns : List Int} {m : Int}, 0 ≤ m → m ≤ B → (∀ n ∈ ns, 0 ≤ n ∧ n ≤ B) → 0 ≤ ns.foldl max m ∧ ns.foldl max m ≤ B
  | [], m, a, b, _ => ⟨a, b⟩
  | n :: ns, m, a, b, h => by
    have hn := h n List.mem_cons_self
    rw [List.foldl_cons]
    exact max_bound (by omega) (by omega) fun x hx => h x (List.mem_cons_of_mem _ hx)
theorem sum_bound {B : Int} : ∀ {ns : List Int}, (∀ n ∈ ns, 0 ≤ n ∧ n ≤ B) → 0 ≤ ns.sum ∧ ns.sum ≤ ns.length * B
  | [], _ => by simp
  | n :: ns, h => by
    have hn := h n List.mem_cons_self
    obtain ⟨a, b⟩ := sum_bound (B := B) (ns := ns) fun x hx => h x (List.mem_cons_of_mem _ hx)
    rw [List.sum_cons, List.length_cons]
    have e : ((ns.length + 1 : Nat) : Int) * B = ns.length * B + B := by rw [Int.natCast_add, Int.add_mul]; simp
    omega
@[simp] theorem eAnd_true {P Q : Prop} : (P ∧ (true = false → Q)) = P := by simp
end K20
set_option Elab.async false
set_option linter.all false
set_option maxRecDepth 100000
set_option maxHeartbeats 1000000
namespace K20
open PySem PySem.Spec PyProof.Rows L2 DL
def crOk (cs : List Int) (ss : List (List Int)) (q : List Int) (e : List Int × Nat) : Prop := ∃ v, q[e.2]? = some v ∧ e.1 = cl ss (q.take e.2) v ∧ (szs cs ss q)[e.2]? = some (prd cs e.1)
theorem cr_for {D : DEnds} {cs : List Int} {ss : List (List Int)} {q : List Int} (h1 : ∀ c ∈ cs, 0 ≤ c ∧ c ≤ 1000) (hc : Sc cs.length ss) (hl50 : ss.length ≤ 50) (hq : Sq cs.length q) {v3 : Option EV} (hD : ∀ z5 z6 z7, D.nx [some (.d (tI cs)), some (.d (tS ss)), some (.d (tI q)), v3, some (.d (tI (szs cs ss q))), z5, z6, z7]) :
    ∀ {l : List (List Int × Nat)} {z5 z6 z7 : Option EV}, (∀ e ∈ l, crOk cs ss q e) →
    forGo (gT (gsCons (gN 5) (gsCons (gN 6) gsNil))) (sThen (sSet 7 (eCB (fCall sp_scopes_left) (aCons (eVar 1) (aCons (eSlT (eVar 2) oNone (oSome (eVar 5))) aNil))))
      (sThen (sIf (bOr (eT (DL.e2 fNeS (e1 fRepr (eVar 7)) (e1 fRepr (eCB (fCall sp__law_left) (aCons (eVar 1) (aCons (eSlT (eVar 2) oNone (oSome (eVar 5))) aNil)))))) (eT (DL.e2 fNe (eCB (fCall sp__law_joined) (aCons (eVar 7) (aCons (DL.e2 fIx (eVar 2) (eVar 5)) aNil))) (eVar 6)))) (sThen (sRet (eC (.d (.bool false)))) sNil) sNil)
      (sThen (sIf (eT (DL.e2 fNeS (e1 fRepr (eCB (fCall sp_lot_size) (aCons (eVar 0) (aCons (eVar 6) aNil)))) (e1 fRepr (DL.e2 fIx (eVar 4) (eVar 5))))) (sThen (sRet (eC (.d (.bool false)))) sNil) sNil) sNil)))
      D (l.map fun e => EV.d (.tuple [.int (e.2 : Nat), tI e.1])) [some (.d (tI cs)), some (.d (tS ss)), some (.d (tI q)), v3, some (.d (tI (szs cs ss q))), z5, z6, z7]
  | [], z5, z6, z7, _ => by simpa using hD z5 z6 z7
  | e :: l, z5, z6, z7, he => by
    obtain ⟨c, i⟩ := e
    obtain ⟨v, hv, ec, hz⟩ := he (c, i) List.mem_cons_self
    have hv : q[i]? = some v := hv
    have ec : c = cl ss (q.take i) v := ec
    have hz : (szs cs ss q)[i]? = some (prd cs c) := hz
    have h8 := sq_len hc.b8 hq
    have tk := sq_take hq i
    have t8 := sq_len hc.b8 tk
    have rv := hq.r v (List.mem_of_getElem? hv)
    obtain ⟨sc2, l2⟩ := elim_sc (q := q.take i) hc (by omega)
    have l2' : (elim ss (q.take i)).length ≤ 100 := by omega
    have nv : v ∉ q.take i := by
      have := (not_bef hq.nd (List.mem_of_getElem? hv) (List.mem_of_getElem? hv)).mpr (.inl rfl)
      unfold bef at this
      rwa [idx_of hq.nd hv] at this
    have lje : lj (elim ss (q.take i)) v = c := by rw [ec]; exact lj_elim hc (by omega) tk.nd nv
    have sq := cl_sq hc (q.take i) rv
    have ok : CsOk cs c := by rw [ec]; exact ⟨h1, sq.r, by have := sq_len hc.b8 sq; omega⟩
    have ps := prd_small ok (by rw [ec]; exact sq_len hc.b8 sq)
    have a1 : L2.atI (q.map PyData.int) (i : Int) = some (.int v) := atI_nat (by rw [List.getElem?_map, hv]; rfl)
    have a2 : L2.atI ((szs cs ss q).map PyData.int) (i : Int) = some (.int (prd cs c)) := atI_nat (by rw [List.getElem?_map, hz]; rfl)
    simp
    rw [← List.map_take]
    refine ⟨_, ss, q.take i, rfl, hc, hl50, tk, ?_⟩
    simp
    refine rp_tS rfl (sc_sml sc2) l2' ?_
    rw [← List.map_take]
    refine ⟨_, ss, q.take i, rfl, hc, hl50, tk, ?_⟩
    simp
    refine rp_tS rfl (sc_sml sc2) l2' ?_
    simp [a1]
    refine ⟨_, elim ss (q.take i), v, .inl rfl, sc2, rv.1, rv.2, ?_⟩
    rw [lje]
    simp
    refine ⟨cs, c, rfl, ok, ?_⟩
    simp
    refine rp_int rfl (sml_of ps.1 (Int.le_trans ps.2 (by decide))) ?_
    simp [a2]
    refine rp_int rfl (sml_of ps.1 (Int.le_trans ps.2 (by decide))) ?_
    simp
    exact cr_for h1 hc hl50 hq hD fun e' h' => he e' (List.mem_cons_of_mem _ h')
theorem b__law_costs_right : BodyD T__law_costs_right 8 4 sp__law_costs_right := by
  rintro rs T - ⟨cs, ss, q, rfl, h1, hc, hl50, hq, k⟩
  have h8 := sq_len hc.b8 hq
  have cl_len : (cls ss q).length ≤ 100 := by rw [cls_len]; omega
  have szl : (szs cs ss q).length ≤ 100 := by unfold szs; rw [List.length_map]; exact cl_len
  have sm : ∀ n ∈ szs cs ss q, Sml n := fun n hn => by
    have := szs_ok h1 hc hq n hn
    exact sml_of this.1 (Int.le_trans this.2 (by decide))
  simp [T__law_costs_right, ent]
  refine ⟨_, ss, q, rfl, hc, hq, ?_⟩
  simp
  refine rp_tS rfl (cls_sml hc hq) cl_len (rp_tS rfl (cls_sml hc hq) cl_len ?_)
  simp
  refine ⟨_, ss, q, rfl, hc, hq, ?_⟩
  simp
  refine lc_mapd (c := EV.d ∘ tI) (f := fun c => .int (prd cs c)) (fun c hcc Kt Kf hh => ?_) (by omega) ?_
  · simp
    exact ⟨cs, c, .inl rfl, cls_ok h1 hc hq hcc, by simpa using hh⟩
  have ez : PyData.tuple ((cls ss q).map fun c => .int (prd cs c)) = tI (szs cs ss q) := by unfold tI szs; rw [List.map_map]; rfl
  rw [ez]
  refine ⟨cs, ss, q, rfl, h1, hc, hq, ?_⟩
  simp
  refine rp_tI rfl sm szl (rp_tI rfl sm szl ?_)
  simp
  refine ⟨cs, ss, q, rfl, h1, hc, hq, ?_⟩
  simp
  refine ⟨cs, ss, q, h1, hc, hq, .inl ⟨rfl, ?_⟩⟩
  simp
  have mb := max_bound (B := 10 ^ 24) (ns := szs cs ss q) (m := 0) (by decide) (by decide) (szs_ok h1 hc hq)
  have sb := sum_bound (szs_ok h1 hc hq)
  have szl8 : (szs cs ss q).length ≤ 8 := by unfold szs; rw [List.length_map, cls_len]; exact h8
  have sms : Sml (szs cs ss q).sum := sml_of sb.1 (by
    have : ((szs cs ss q).length : Int) * 10 ^ 24 ≤ 8 * 10 ^ 24 := Int.mul_le_mul_of_nonneg_right (by omega) (by decide)
    exact Int.le_trans sb.2 (Int.le_trans this (by decide)))
  have smm : Sml ((szs cs ss q).foldl max 0) := sml_of mb.1 (Int.le_trans mb.2 (by decide))
  refine rp_int rfl smm ⟨by rw [cls_len]; show 1 + q.length ≤ 2 ^ 24; omega, 0, szs cs ss q, ?_, ?_⟩
  · unfold szs; simp [Function.comp_def]
  refine rp_int rfl smm ?_
  simp
  refine ⟨cs, ss, q, h1, hc, hq, .inr ⟨rfl, ?_⟩⟩
  simp
  refine rp_int rfl sms ⟨szs cs ss q, rfl, rp_int rfl sms ?_⟩
  simp
  refine cr_for h1 hc hl50 hq (fun z5 z6 z7 => ?_) fun e he => ?_
  · simp
    refine ⟨_, ss, q, rfl, hc, hl50, hq, ?_⟩
    obtain ⟨sc2, l2⟩ := elim_sc (q := q) hc (by omega)
    refine rp_tS rfl (sc_sml sc2) (by omega) ?_
    refine ⟨_, ss, q, rfl, hc, hl50, hq, ?_⟩
    simp
    refine rp_tS rfl (sc_sml sc2) (by omega) ?_
    simp
    refine ⟨cs, [], rfl, ⟨h1, (fun x h => nomatch h), by decide⟩, ?_⟩
    simpa [prd] using k
  · have hi := zip_at he
    have hlen := (List.getElem?_eq_some_iff.mp hi).1
    rw [cls_len] at hlen
    refine ⟨q[e.2], List.getElem?_eq_getElem hlen, ?_, ?_⟩
    · unfold cls at hi
      rw [List.getElem?_mapIdx, List.getElem?_eq_getElem hlen] at hi
      exact (Option.some.inj hi).symm
    · unfold szs
      rw [List.getElem?_map, hi]
      rfl
end K20
set_option Elab.async false
set_option linter.all false
set_option maxRecDepth 100000
set_option maxHeartbeats 1000000
namespace K20
open PySem PySem.Spec PyProof.Rows L2 DL
@[simp] theorem asT_dnI (ns : List Int) : asT (.dn (tI ns)) = some (ns.map .int) := rfl
@[simp] theorem seq_dnI (ns : List Int) : asSeq (.dn (tI ns)) = some (ns.map .int) := rfl
@[simp] theorem ltT_dn {a b : List Int} {Q : EV → Prop} : fLtT (.dn (tI a)) (.dn (tI b)) Q = Q (.d (.bool (HT.lexLt a b))) := by
  unfold fLtT
  rw [asT_dnI, asT_dnI]
  simp only [intsOf_map]
  exact propext ⟨fun ⟨ns, ms, e1, e2, q⟩ => by cases e1; cases e2; exact q, fun q => ⟨a, b, rfl, rfl, q⟩⟩
def tixK (x : EV) (K : List Int → Prop) : Prop := match x with
  | .dn (.tuple xs) => ∃ ns, intsOf xs = some ns ∧ K ns
  | _ => False
theorem tix_K {to ta : TD} {ρ : DL.Env} {Q : EV → Prop} : eTix to ta ρ Q = to ρ fun x => tixK x fun ns => ta ρ fun y => fTix ns Q [y] := rfl
@[simp] theorem tixK_I {ns : List Int} {K : List Int → Prop} : tixK (.dn (tI ns)) K = K ns := by
  unfold tixK tI
  simp only [intsOf_map]
  exact propext ⟨fun ⟨ms, e, k⟩ => by cases e; exact k, fun k => ⟨ns, rfl, k⟩⟩
theorem zil_cl {f : Int → List Int} (q : List Int) : zil (q.map PyData.int) ((q.map f).map tI) = q.map fun v => EV.d (.tuple [.int v, tI (f v)]) := by
  unfold zil
  induction q with
  | nil => rfl
  | cons v q ih => simp only [List.map_cons, List.zipWith_cons_cons, ih]
def kb (fl : Int → Option Int) (s : List Int) (v : Int) : Bool := match fl v with
  | none => true
  | some u => decide (s.idxOf v < s.idxOf u)
def ab (ss : List (List Int)) (q s : List Int) (v : Int) : Bool := decide (cl ss (bef s v) v = cl ss (bef q v) v)
theorem kb_iff {ss : List (List Int)} {q s : List Int} : q.all (kb (fw ss q) s) = true ↔ Kept ss q s := by
  rw [List.all_eq_true]
  constructor
  · intro h v hv u e
    have := h v hv
    unfold kb at this
    rw [e] at this
    exact of_decide_eq_true this
  · intro h v hv
    unfold kb
    split
    · rfl
    · rename_i u e
      exact decide_eq_true (h v hv u e)
theorem ab_iff {b : Int} {ss : List (List Int)} {q s : List Int} (hc : Sc b ss) : q.all (ab ss q s) = true ↔ Alike ss q s := by
  rw [List.all_eq_true]
  constructor
  · intro h v hv w
    have := of_decide_eq_true (h v hv)
    unfold Cl
    rw [← mem_cl, ← mem_cl, this]
  · intro h v hv
    exact decide_eq_true (strict_ext (cl_strict (sc_nd hc) _ _) (cl_strict (sc_nd hc) _ _) fun w => by rw [mem_cl, mem_cl]; exact h v hv w)
theorem alike_kept {b : Int} {ss : List (List Int)} {q s : List Int} (hc : Sc b ss) (nd : q.Nodup) (p : s.Perm q) : q.all (ab ss q s) = q.all (kb (fw ss q) s) := by
  rw [Bool.eq_iff_iff, ab_iff hc, kb_iff]
  exact ⟨kept_of_alike nd p, alike_of_kept nd p⟩
theorem settled_kept {ss : List (List Int)} {q s : List Int} (nd : q.Nodup) (p : s.Perm q) : decide (settle ss s = settle ss q) = q.all (kb (fw ss q) s) := by
  rw [Bool.eq_iff_iff, decide_eq_true_iff, kb_iff]
  exact settle_iff nd p
theorem sq_perm {b : Int} {q s : List Int} (h : Sq b q) (p : s.Perm q) : Sq b s := ⟨p.nodup_iff.mpr h.nd, fun x hx => h.r x (p.mem_iff.mp hx)⟩
theorem fr_body {D : DEnds} {b : Int} {ss : List (List Int)} {q s : List Int} {c3 c4 : PyData} (e3 : asT (.d c3) = some ((q.map fun v => cl ss (bef q v) v).map tI)) (a1 : asT (.d c4) = some ((q.map (fw ss q)).map oD)) (hc : Sc b ss) (hq : Sq b q) (p : s.Perm q) {z7 z8 z9 z10 z11 z12 : Option EV} (hD : ∀ z7 z8 z9, D.nx [some .hp, some (.d (tS ss)), some (.d (tI q)), some (.d c3), some (.d c4), some (.dn (tI (settle ss q))), some (.dn (tI s)), z7, z8, z9, z10, z11, z12]) :
    (sThen (sSet 7 (eCB (fCall sp_clusters_by) (aCons (eVar 1) (aCons (eVar 6) aNil))))
      (sThen (sSet 8 (e1 fAll (eLc (iZ (eVar 2) (eVar 3)) (gT (gsCons (gN 10) (gsCons (gN 11) gsNil))) bYes (DL.e2 fEq (DL.e2 fIx (eVar 7) (eTix (eVar 6) (eVar 10))) (eVar 11)) [10, 11])))
      (sThen (sSet 9 (e1 fAll (eLc (iZ (eVar 2) (eVar 4)) (gT (gsCons (gN 10) (gsCons (gN 12) gsNil))) bYes (eOr (DL.e2 fIsN (eVar 12) (eC (.d .none))) (DL.e2 fLt (eTix (eVar 6) (eVar 10)) (eTix (eVar 6) (eVar 12)))) [10, 12])))
      (sThen (sIf (bOr (eT (DL.e2 fNe (eVar 8) (eVar 9))) (bOr (eT (DL.e2 fNe (DL.e2 fEq (eCB (fCall sp_settled_sequence) (aCons (eVar 1) (aCons (eVar 6) aNil))) (eVar 5)) (eVar 9))) (bAnd (eT (eVar 9)) (eT (DL.e2 fLtT (eVar 6) (eVar 5)))))) (sThen (sRet (eC (.d (.bool false)))) sNil) sNil) sNil))))
      D [some .hp, some (.d (tS ss)), some (.d (tI q)), some (.d c3), some (.d c4), some (.dn (tI (settle ss q))), some (.dn (tI s)), z7, z8, z9, z10, z11, z12] := by
  have h8 := sq_len hc.b8 hq
  have hs := sq_perm hq p
  have hm : ∀ {v}, v ∈ s ↔ v ∈ q := p.mem_iff
  have es := cls_map (ss := ss) hs.nd
  simp
  refine ⟨b, ss, s, rfl, hc, hs, ?_⟩
  simp [e3, -List.map_map]
  rw [zil_cl]
  refine lc_mapd (c := fun v => EV.d (.tuple [.int v, tI (cl ss (bef q v) v)])) (f := fun v => .bool (ab ss q s v)) (fun v hv Kt Kf hh => ?_) (by omega) (fAll_map ?_)
  · have hvs := hm.mpr hv
    have ai : L2.atI ((cls ss s).map tI) (s.idxOf v : Nat) = some (tI (cl ss (bef s v) v)) := atI_nat (by
      rw [es, List.map_map, List.getElem?_map, idx_get hvs]; rfl)
    simp [tix_K, hvs, ai, -r_tix]
    simpa [ab] using hh
  simp [a1, -List.map_map]
  rw [zil_fl]
  refine lc_mapd (c := fun v => EV.d (.tuple [.int v, oD (fw ss q v)])) (f := fun v => .bool (kb (fw ss q) s v)) (fun v hv Kt Kf hh => ?_) (by omega) (fAll_map ?_)
  · have hvs := hm.mpr hv
    cases e : fw ss q v with
    | none =>
      have e2 : kb (fw ss q) s v = true := by unfold kb; rw [e]
      rw [e2] at hh
      simp [oD, fIsN, -r_tix]
      exact hh
    | some u =>
      have hu := hm.mpr (fw_some hq.nd e).1
      have e2 : kb (fw ss q) s v = decide (s.idxOf v < s.idxOf u) := by unfold kb; rw [e]
      rw [e2] at hh
      simp [oD, fIsN, tix_K, hvs, hu, -r_tix]
      exact hh
  have ak := alike_kept hc hq.nd p
  have sk := settled_kept (ss := ss) hq.nd p
  simp
  rw [ak]
  simp
  refine ⟨b, ss, s, rfl, hc, hs, ?_⟩
  simp [sk]
  refine ⟨fun h => ?_, fun _ _ _ => hD _ _ _⟩
  have lst := settle_least (ss := ss) hq.nd p (kb_iff.mp (List.all_eq_true.mpr h))
  exact ⟨fun e => (by rw [lst] at e; cases e), fun _ => hD _ _ _⟩
theorem b__law_flows_right : BodyD T__law_flows_right 13 4 sp__law_flows_right := by
  rintro rs T - ⟨b, ss, q, rfl, hc, hq, k⟩
  have h8 := sq_len hc.b8 hq
  have fsm : ∀ i, some i ∈ flws (cls ss q) q → Sml i := fun i hi => by
    rw [flws_map hq.nd] at hi
    obtain ⟨v, hv, e⟩ := List.mem_map.mp hi
    exact sml_r hc.b8 (hq.r i (fw_some hq.nd e).1)
  have fl100 : (flws (cls ss q) q).length ≤ 100 := by rw [flws_map hq.nd, List.length_map]; omega
  have sp := settle_perm (ss := ss) hq.nd
  have ssm : ∀ n ∈ settle ss q, Sml n := fun n hn => sml_r hc.b8 (hq.r n (sp.mem_iff.mp hn))
  have sl : (settle ss q).length ≤ 100 := by rw [sp.length_eq]; omega
  simp [T__law_flows_right, ent, -r_forC]
  refine ⟨b, ss, q, rfl, hc, hq, ?_⟩
  simp [-r_forC]
  refine ⟨b, ss, q, rfl, hc, hq, ?_⟩
  simp [-r_forC]
  refine rp_tO rfl fsm fl100 (rp_tO rfl fsm fl100 ?_)
  simp [-r_forC]
  refine ⟨b, ss, q, rfl, hc, hq, ?_⟩
  simp [-r_forC]
  refine ⟨b, ss, q, rfl, hc, hq, ?_⟩
  simp [-r_forC]
  refine rp_tI rfl ssm sl ⟨b, ss, q, hc, hq, .inl ⟨rfl, ?_⟩⟩
  simp [-r_forC]
  refine rp_tI rfl ssm sl ?_
  simp [-r_forC]
  refine ⟨b, ss, q, rfl, hc, hq, ?_⟩
  simp [-r_forC]
  refine ⟨b, ss, q, hc, hq, .inr ⟨rfl, fun s1 p1 => ?_⟩⟩
  simp [-r_forC]
  refine ⟨q, rfl, h8, fun s3 p3 => ⟨rfl, ?_⟩⟩
  have e3 : asT (.d (tS (cls ss q))) = some ((q.map fun v => cl ss (bef q v) v).map tI) := by rw [cls_map hq.nd]; rfl
  have a1 : asT (.d (tO (flws (cls ss q) q))) = some ((q.map (fw ss q)).map oD) := by rw [flws_map hq.nd]; rfl
  rw [r_forC]
  refine ⟨rfl, fr_body e3 a1 hc hq p1 fun z7 z8 z9 => ?_⟩
  show forGo _ _ _ _ _
  rw [r_forC]
  refine ⟨rfl, fr_body e3 a1 hc hq sp fun z7 z8 z9 => ?_⟩
  show forGo _ _ _ _ _
  rw [r_forC]
  refine ⟨rfl, fr_body e3 a1 hc hq p3 fun z7 z8 z9 => ?_⟩
  show forGo _ _ _ _ _
  rw [r_forN]
  exact k
end K20
set_option Elab.async false
set_option linter.all false
set_option maxRecDepth 100000
set_option maxHeartbeats 1000000
namespace K20
open PySem PySem.Spec PyProof.Rows L2 DL
theorem cut_map {α β : Type} (f : α → β) (xs : List α) (lo hi : Option Int) : DL.cut (xs.map f) lo hi = (DL.cut xs lo hi).map f := DL.cut_map f xs lo hi
theorem cut_1v {α : Type} (x : α) (xs : List α) (v : Nat) (h : v ≤ xs.length) : DL.cut (x :: xs) (some 1) (some (1 + (v : Int))) = xs.take v := by
  unfold DL.cut
  have e1 : HT.sIx (x :: xs).length 0 (some 1) = 1 := by
    rw [show (1 : Int) = ((1 : Nat) : Int) from rfl, HT.sIx_nat, List.length_cons]; omega
  have e2 : HT.sIx (x :: xs).length (x :: xs).length (some (1 + (v : Int))) = v + 1 := by
    rw [show (1 + (v : Int)) = ((v + 1 : Nat) : Int) by omega, HT.sIx_nat, List.length_cons]; omega
  rw [e1, e2]
  simp
/-- a comprehension whose test is drawn -/
theorem lc_sub {g : TGd} {tt : TB} {te : TD} {ρ : DL.Env} {p : Int → Prop} {Q : List PyData → Prop} : ∀ {xs acc : List Int}, (∀ x ∈ xs, ∀ (Kt : PyData → Prop) (Kf : Prop), (p x → Kt (.int x)) → Kf → g (.d (.int x)) ρ fun ρ2 => tt ρ2 fun b => match b with
    | true => te ρ2 fun y => match frz y with
      | some d => Kt d
      | none => False
    | false => Kf) → acc.length + xs.length ≤ 1000 → (∀ ys : List Int, ys.Sublist xs → (∀ y ∈ ys, p y) → Q ((acc ++ ys).map .int)) → lcGo g tt te ρ (xs.map (EV.d ∘ PyData.int)) (acc.map .int) Q
  | [], acc, _, _, q => by
    have := q [] (.slnil) (fun y hy => absurd hy List.not_mem_nil)
    rw [List.append_nil] at this
    exact this
  | x :: xs, acc, h, l, q => by
    rw [List.length_cons] at l
    rw [List.map_cons]
    unfold lcGo
    refine h x List.mem_cons_self (fun d => (acc.map PyData.int).length < 1000 ∧ lcGo g tt te ρ (xs.map (EV.d ∘ PyData.int)) (acc.map .int ++ [d]) Q) (lcGo g tt te ρ (xs.map (EV.d ∘ PyData.int)) (acc.map .int) Q) (fun hp => ⟨by rw [List.length_map]; omega, ?_⟩) ?_
    · have : acc.map PyData.int ++ [.int x] = (acc ++ [x]).map .int := by simp
      rw [this]
      refine lc_sub (p := p) (fun y hy => h y (List.mem_cons_of_mem _ hy)) (by simp; omega) fun ys hs hy => ?_
      rw [List.append_assoc]
      exact q (x :: ys) (hs.cons_cons x) fun y m => by
        rcases List.mem_cons.mp m with rfl | m
        · exact hp
        · exact hy y m
    · exact lc_sub (p := p) (fun y hy => h y (List.mem_cons_of_mem _ hy)) (by omega) fun ys hs hy => q ys (hs.cons x) hy
theorem sw_sc {b : Int} {ss : List (List Int)} (lot : List Int) (h : Sc b ss) : Sc b (ss.map fun s => s.filter fun a => decide (a ∉ lot)) := by
  refine { h with s := ?_, len := ?_ }
  · rw [List.length_map]; exact h.len
  · intro s hs
    obtain ⟨s', hs', rfl⟩ := List.mem_map.mp hs
    exact ⟨(h.s s' hs').nd.sublist List.filter_sublist, fun x hx => (h.s s' hs').r x (List.mem_filter.mp hx).1⟩
theorem b__law_behind_right : BodyD T__law_behind_right 12 3 sp__law_behind_right := by
  rintro rs T - ⟨b, ss, th, rfl, hc, hq, hne, k⟩
  have h8 := sq_len hc.b8 hq
  have hpos : 0 < th.length := List.length_pos_iff.mpr hne
  simp [T__law_behind_right, ent]
  refine ⟨th, rfl, h8, fun s p => ⟨rfl, ?_⟩⟩
  have hs := sq_perm hq p
  have hl := p.length_eq
  cases s with
  | nil => simp at hl; omega
  | cons t rest =>
  rw [List.length_cons] at hl
  simp
  refine ⟨_, rfl, by omega, by omega, fun v v0 v1 => ?_⟩
  obtain ⟨n, rfl⟩ : ∃ n : Nat, v = n := ⟨v.toNat, by omega⟩
  have ec : DL.cut (PyData.int t :: rest.map PyData.int) (some 1) (some (1 + (n : Int))) = (rest.take n).map .int := by
    rw [cut_1v _ _ _ (by rw [List.length_map]; omega), List.map_take]
  have e0 : L2.atI (PyData.int t :: rest.map PyData.int) 0 = some (.int t) := by
    show L2.atI _ ((0 : Nat) : Int) = _
    exact atI_nat rfl
  have hg : Sq b (rest.take n) := ⟨(List.nodup_cons.mp hs.nd).2.sublist (List.take_sublist _ _), fun x hx => hs.r x (List.mem_cons_of_mem _ (List.mem_of_mem_take hx))⟩
  have ht := hs.r t List.mem_cons_self
  have hcl := cl_sq hc (rest.take n) ht
  have hcl8 := sq_len hc.b8 hcl
  have hcm : ∀ m ∈ cl ss (rest.take n) t, Sml m := fun m hm => sml_r hc.b8 (hcl.r m hm)
  generalize hG : rest.take n = g at *
  rw [show (fAdd (.d (.int 1)) (.d (.int (n : Int)))) = (fun Q => Q (EV.d (.int (1 + (n : Int))))) from rfl]
  simp only [ec, e0]
  refine ⟨b, ss, g, t, rfl, hc, hg, ht.1, ht.2, ?_⟩
  simp
  refine ⟨b, ss, g, t, rfl, hc, hg, ht.1, ht.2, ?_⟩
  simp
  refine rp_tI rfl hcm (by omega) (rp_tI rfl hcm (by omega) ?_)
  simp
  refine ⟨g, rfl, sq_len hc.b8 hg, fun g2 p2 => ?_⟩
  simp
  refine ⟨b, ss, g2, t, rfl, hc, sq_perm hg p2, ht.1, ht.2, ?_⟩
  rw [cl_congr (sc_nd hc) t fun x => p2.mem_iff]
  simp
  refine lc_sub (p := fun x => x ≠ t) (acc := []) (fun x hx Kt Kf hT hF => ?_) (by simp; omega) fun ys hy hyt => ?_
  · by_cases e : x = t
    · simp [e]; exact hF
    · simp [e]
      refine ⟨_, rfl, by omega, by omega, fun v w0 w1 => ?_⟩
      by_cases e2 : v = 0
      · simp [e2]; exact hT e
      · simp [e2]; exact hF
  simp
  refine ⟨ys, rfl, ?_⟩
  have hl : Sq b (srt ys) := ⟨(srt_perm ys).nodup_iff.mpr (hq.nd.sublist hy), fun x hx => hq.r x (hy.subset (srt_mem.mp hx))⟩
  have htl : t ∉ srt ys := fun h => hyt t (srt_mem.mp h) rfl
  generalize srt ys = lot at *
  have hf := sw_sc lot hc
  have hfl := hf.len
  have hfm := sc_sml hf
  simp
  refine ⟨b, ss, lot, rfl, hc, hl, ⟨rfl, ?_⟩⟩
  refine rp_tS rfl hfm (by omega) ?_
  refine lc_mapd (c := EV.d ∘ tI) (f := fun s => tI (s.filter fun a => decide (a ∉ lot))) (fun s hs Kt Kf hh => ?_) (by have := hc.len; omega) ?_
  · have h8 := sq_len hc.b8 (hc.s s hs)
    simp
    refine lc_filt (c := EV.d ∘ PyData.int) (p := fun a => decide (a ∉ lot)) (f := .int) (fun x hx Kt' Kf' h2 => ?_) (by omega) ?_
    · by_cases e : x ∈ lot
      · simpa [e] using h2
      · simpa [e] using h2
    · exact hh
  refine rp_tS (ss := ss.map fun s => s.filter fun a => decide (a ∉ lot)) (by simp [dt, tS, Function.comp_def]) hfm (by omega) ?_
  simp
  refine ⟨b, ss, lot, rfl, hc, hl, ?_⟩
  simp
  have hfg : Sq b (g.filter fun a => decide (a ∉ lot)) := ⟨hg.nd.sublist List.filter_sublist, fun x hx => hg.r x (List.mem_filter.mp hx).1⟩
  have hg8 := sq_len hc.b8 hg
  refine lc_filt (xs := g) (c := EV.d ∘ PyData.int) (p := fun a => decide (a ∉ lot)) (f := .int) (fun x hx Kt' Kf' h2 => ?_) (by omega) ?_
  · by_cases e : x ∈ lot
    · simpa [e] using h2
    · simpa [e] using h2
  refine ⟨b, ss.map (fun s => s.filter fun a => decide (a ∉ lot)), g.filter (fun a => decide (a ∉ lot)), t, by simp [tI, tS], hf, hfg, ht.1, ht.2, ?_⟩
  have hcf := cl_sq hf (g.filter fun a => decide (a ∉ lot)) ht
  have hcf8 := sq_len hc.b8 hcf
  simp only [decide_not] at hcf8
  simp
  refine lc_mapd (c := EV.d ∘ PyData.int) (f := fun _ => .bool true) (fun x hx Kt Kf hh => ?_) (by omega) (fAll_map (p := fun _ => true) ?_)
  · obtain ⟨a1, a2⟩ := told_in (ss := ss) (g := g) htl (mem_cl.mp (by simpa only [decide_not] using hx))
    have a3 : x ∈ cl ss g t := mem_cl.mpr a1
    simp [a2, a3]
    exact hh
  · rw [List.all_eq_true.mpr fun _ _ => rfl]; exact k
end K20
set_option Elab.async false
set_option linter.all false
set_option maxRecDepth 100000
set_option maxHeartbeats 1000000
namespace K20
open PySem PySem.Spec PyProof.Rows L2 DL
/-! ### what is a sequence -/
theorem all_isN {xs : List PyData} (h : xs.all isN = true) : ∃ ns : List Int, xs = ns.map .int ∧ ∀ n ∈ ns, 0 ≤ n := by
  induction xs with
  | nil => exact ⟨[], rfl, fun n hn => absurd hn List.not_mem_nil⟩
  | cons x xs ih =>
    rw [List.all_cons, Bool.and_eq_true] at h
    obtain ⟨ns, rfl, hn⟩ := ih h.2
    cases x with
    | int i =>
      have hi : 0 ≤ i := by simpa [isN] using h.1
      refine ⟨i :: ns, rfl, fun n m => ?_⟩
      rcases List.mem_cons.mp m with rfl | m
      · exact hi
      · exact hn n m
    | _ => simp [isN] at h
theorem not_isN {xs : List PyData} {lot : List Int} (hl : ∀ v ∈ lot, 0 ≤ v) (h : xs.all isN = false) : isq lot (.tuple xs) = false := by
  unfold isq isT
  simp only
  cases e : intsOf xs with
  | none => rfl
  | some ns =>
    have := intsOf_eq e
    subst this
    simp only
    refine decide_eq_false fun z => ?_
    subst z
    have : (ns.map PyData.int).all isN = true := by
      rw [List.all_map, List.all_eq_true]
      intro n hn
      simp [isN]
      exact hl n (srt_mem.mpr hn)
    rw [this] at h
    cases h
theorem isq_int (lot ns : List Int) : isq lot (.tuple (ns.map .int)) = decide (srt ns = lot) := by
  unfold isq isT
  simp only [intsOf_map]
theorem b_is_sequence : BodyD T_is_sequence 2 2 sp_is_sequence := by
  rintro rs T - ⟨lot, x, rfl, hl, h20, k⟩
  simp [T_is_sequence, ent]
  refine ⟨x, rfl, fun xs e => by have := h20 xs e; omega, ?_⟩
  cases x with
  | tuple xs =>
    cases e : xs.all isN with
    | false =>
      rw [not_isN hl e] at k
      simp [isT, e]
      exact k
    | true =>
      obtain ⟨ns, rfl, hn⟩ := all_isN e
      have h20 := h20 _ rfl
      rw [List.length_map] at h20
      rw [isq_int] at k
      simp only [isT, e]
      simp
      exact ⟨ns, rfl, by omega, by simpa using k⟩
  | _ => simp [isT]; exact k
theorem all_int {xs : List PyData} (h : xs.all jI = true) (hb : xs.any jB = false) : ∃ ns : List Int, xs = ns.map .int := by
  induction xs with
  | nil => exact ⟨[], rfl⟩
  | cons x xs ih =>
    rw [List.all_cons, Bool.and_eq_true] at h
    rw [List.any_cons, Bool.or_eq_false_iff] at hb
    obtain ⟨ns, rfl⟩ := ih h.2 hb.2
    cases x with
    | int i => exact ⟨i :: ns, rfl⟩
    | bool b => simp [jB] at hb
    | _ => simp [jI] at h
theorem not_int {xs : List PyData} {lot : List Int} (h : xs.all jI = false ∨ xs.any jB = true) : isq lot (.tuple xs) = false := by
  unfold isq isT
  simp only
  cases e : intsOf xs with
  | none => rfl
  | some ns =>
    have := intsOf_eq e
    subst this
    rcases h with h | h
    · rw [show (ns.map PyData.int).all jI = true by rw [List.all_map, List.all_eq_true]; intro _ _; rfl] at h; cases h
    · rw [show (ns.map PyData.int).any jB = false by rw [List.any_map, List.any_eq_false]; intro _ _; simp [jB]] at h; cases h
theorem b__law_is_sequence : BodyD T__law_is_sequence 3 2 sp__law_is_sequence := by
  rintro rs T - ⟨lot, x, rfl, h20, k⟩
  simp [T__law_is_sequence, ent]
  cases x with
  | tuple xs =>
    have h20 := h20 _ rfl
    refine ⟨fun h => by simp [jT] at h, fun _ => ?_⟩
    refine lc_mapd (f := fun x => .bool (jI x)) (fun x hx Kt Kf h => ?_) (by omega) (fAll_map ?_)
    · simpa using h
    refine ⟨fun e => ?_, fun e => ?_⟩
    · rw [not_int (.inl e)] at k; exact k
    refine lc_mapd (f := fun x => .bool (jB x)) (fun x hx Kt Kf h => ?_) (by omega) (fAny_map ?_)
    · simpa using h
    refine ⟨fun e2 => ?_, fun e2 => ?_⟩
    · obtain ⟨ns, rfl⟩ := all_int e e2
      rw [List.length_map] at h20
      rw [isq_int] at k
      exact ⟨ns, rfl, by omega, by simpa using k⟩
    · rw [not_int (.inr e2)] at k; exact k
  | _ => exact ⟨fun _ => k, fun h => by simp [jT] at h⟩
end K20
set_option Elab.async false
set_option linter.all false
set_option maxRecDepth 100000
set_option maxHeartbeats 1000000
namespace K20
open PySem PySem.Spec PyProof.Rows L2 DL
/-- fit for a wrong sequence -/
def oddOk (x : PyData) : Prop := (∀ xs, x = .tuple xs → xs.length ≤ 20) ∧ ∀ kvs, x ≠ .dict kvs
theorem odd_tup {xs : List PyData} (h : xs.length ≤ 20) : oddOk (.tuple xs) := ⟨fun ys e => by cases e; exact h, fun _ e => by cases e⟩
theorem cut_len {α : Type} (xs : List α) (lo hi : Option Int) : (DL.cut xs lo hi).length ≤ xs.length := by
  unfold DL.cut
  rw [List.length_take, List.length_drop]
  omega
theorem odd_end {T : EV → Prop} (k : ∀ x : PyData, (∀ xs, x = .tuple xs → xs.length ≤ 20) → (∀ kvs, x ≠ .dict kvs) → T (.d x)) {xs : List PyData} (h0 : xs ≠ []) (hl : xs.length < 100) (h : ∀ x ∈ xs, oddOk x) :
    sp__law_pick [.hp, .d (.list xs)] T := ⟨xs, .inl rfl, h0, hl, fun x hx => k x (h x hx).1 (h x hx).2⟩
theorem b__law_odd : BodyD T__law_odd 4 2 sp__law_odd := by
  rintro rs T - ⟨q, rfl, h8, hq, k⟩
  simp [T__law_odd, ent]
  have sz : 100 ≤ sizeLine := by decide
  have c1 := cut_len (q.map PyData.int) none (some 1)
  have c2 := cut_len (q.map PyData.int) (some 1) none
  have c3 := cut_len (q.map PyData.int) (some 2) none
  have c4 := cut_len (q.map PyData.int) none (some (-1))
  rw [List.length_map] at c1 c2 c3 c4
  have c5 : (DL.cut (q.map PyData.int) none (some 1)).length ≤ 1 := by
    show (DL.cut (q.map PyData.int) none (some ((1 : Nat) : Int))).length ≤ 1
    rw [cut_to, List.length_take]
    omega
  generalize DL.cut (q.map PyData.int) none (some 1) = d1 at *
  generalize DL.cut (q.map PyData.int) (some 1) none = d2 at *
  generalize DL.cut (q.map PyData.int) (some 2) none = d3 at *
  generalize DL.cut (q.map PyData.int) none (some (-1)) = d4 at *
  have hm : (q.map PyData.int).length ≤ 8 := by rw [List.length_map]; exact h8
  refine ⟨by omega, by omega, ?_⟩
  refine lc_mapd (c := EV.d ∘ PyData.int) (f := fun x => .int (-x)) (fun x hx Kt Kf h => ?_) (by omega) ?_
  · simp
    exact h
  refine lc_mapd (c := EV.d ∘ PyData.int) (f := fun x => .str (toString x)) (fun x hx Kt Kf h => ?_) (by omega) ?_
  · simp
    have := hq x hx
    refine ⟨?_, h⟩
    have : x.natAbs.log2 ≤ x.natAbs := by
      exact Nat.log2_le_self _
    omega
  refine ⟨by omega, by omega, ?_⟩
  refine lc_mapd (c := EV.d ∘ PyData.int) (f := fun x => if x < 2 then .bool (x != 0) else .int x) (fun x hx Kt Kf h => ?_) (by omega) ?_
  · by_cases e : x < 2
    · simp [e]
      rw [if_pos e] at h
      exact h
    · simp [e]
      rw [if_neg e] at h
      exact h
  have hl : oddOk (.list (q.map .int)) := ⟨fun _ e => (by cases e), fun _ e => (by cases e)⟩
  have hn : oddOk .none := ⟨fun _ e => (by cases e), fun _ e => (by cases e)⟩
  have hi : ∀ i, oddOk (.int i) := fun i => ⟨fun _ e => (by cases e), fun _ e => (by cases e)⟩
  have hs : ∀ i, oddOk (.str i) := fun i => ⟨fun _ e => (by cases e), fun _ e => (by cases e)⟩
  refine ⟨by omega, fun _ => ⟨by omega, by omega, by omega, by omega, ?_⟩, fun _ => ?_⟩
  · refine odd_end k (by simp) (by simp) fun x hx => ?_
    simp at hx
    rcases hx with rfl | rfl | rfl | rfl | rfl | rfl | rfl | rfl | rfl | rfl | rfl | rfl | rfl | rfl | rfl | rfl | rfl <;> first | exact hl | exact hn | exact hi _ | exact hs _ | exact odd_tup (by omega) | exact odd_tup (by simp; omega) | exact odd_tup (by simp)
  · refine odd_end k (by simp) (by simp) fun x hx => ?_
    simp at hx
    rcases hx with rfl | rfl | rfl | rfl | rfl | rfl | rfl | rfl | rfl | rfl | rfl | rfl | rfl | rfl <;> first | exact hl | exact hn | exact hi _ | exact hs _ | exact odd_tup (by omega) | exact odd_tup (by simp; omega) | exact odd_tup (by simp)
end K20
set_option Elab.async false
set_option linter.all false
set_option maxRecDepth 100000
set_option maxHeartbeats 1000000
namespace K20
open PySem PySem.Spec PyProof.Rows L2 DL
/-! ### the law: its first statement by hand, the rest on data -/
theorem bits_lt {n : Int} (h : Builtin.Int.intBits n ≤ 1048576) : n.natAbs < 2 ^ 1048590 := by
  have h1 : n.natAbs < 2 ^ Builtin.Int.intBits n := by
    unfold Builtin.Int.intBits
    split
    · rename_i e
      simp_all
    · exact Nat.lt_log2_self
  exact Nat.lt_of_lt_of_le h1 (Nat.pow_le_pow_right (by decide) (Nat.le_trans h (by decide)))
theorem fn_law {P : Program} {w : World} {K : PySem.W.Frag} {mg : Str → Option Value} {base : Heap} {f : Addr} {fd : FuncData} (FL : FunD K "law" "law" (defArgs s_law) (defBody s_law) (defScope s_law) [] [] f fd)
    (D : DefW P w K mg base "_law_heap" 1 ["_law_script"] sp__law_heap) (hw : DSs (S_law P w K mg base) ((defBody s_law).drop 1) T_law)
    (b_law : ∀ (ns : List Int) (T : EV → Prop), T (.d (.bool true)) → T_law { nx := fun _ => T (.d .none), rt := T } (some (.scr ns) :: some .hp :: List.replicate 16 none)) : FnGd P w K mg base 9 f fd ["_law_script"] (spLaw K) := by
  refine fnGd_of FL sc_law (fun vs H Q E ⟨a, ns, e, _⟩ => by rw [e]; rfl) fun cdv A outer s H vs Q hcd hr hgd ⟨a, ns, ev, hS, hbits, hQ⟩ => ?_
  subst ev
  obtain ⟨fH, fdH, FH, hm, hkp, hb, _⟩ := D.ex
  obtain ⟨ts, pt, qt⟩ := hw
  refine ⟨_, pss_cons (ps_set (i := 1) sc_law.nd rfl (by first | exact .inl rfl | exact .inr rfl) (pe_callG (X := (cxOf CX0 P w K mg base N_law "law" (defScope s_law) f cdv A outer s H E0').nox) FH (hr.mono (by decide)) hgd rfl hm hkp hb (pa_cons (pe_var (i := 0) rfl (by first | exact .inl rfl | exact .inr (.inl rfl) | exact .inr (.inr rfl))) pa_nil) (by decide) rfl rfl))
    (pt _ ⟨rfl, rfl, rfl, rfl, rfl, rfl, rfl, rfl, rfl, rfl, sc_law.nd, hr, hgd, kdsCode_of hcd⟩), ?_⟩
  refine ⟨_, rfl, ?_⟩
  have hS0 : (¬ inG none a ∧ ∃ o, H a = some (.frz o (.lst (ns.map V.int)))) ∨ ∀ H' : Hp, SqL K H' a (ns.map V.int) := hS.imp (fun h => ⟨fun z => z, h⟩) id
  refine ⟨none, fun _ => none, [.scr ns], fun r => ∃ ms st, Cells ms st ∧ r = .o [.list (ms.map .int), .int st], rfl, ⟨(fun _ _ h => nomatch h), trivial⟩, .cons ⟨a, rfl, hS0⟩ .nil (fun z => nomatch z), rfl, ⟨ns, rfl, fun n hn => bits_lt (hbits n hn), fun ms st c => ⟨ms, st, c, rfl⟩⟩, fun r v F' H' x ry hT => ?_⟩
  obtain ⟨ms, st, c, rfl⟩ := hT
  obtain ⟨p, us, rfl, _, hp, hd, hp0, hpF⟩ := ry
  cases hd with
  | cons h1 t1 =>
    cases t1 with
    | cons h2 t2 =>
      cases t2
      cases h2
      cases h1 with
      | lst hb0 hds =>
        rename_i b xs
        have exs := hds.ints
        subst exs
        have hb1 : H' b = some (.lst (ms.map V.int)) := x.w.sub b _ hb0
        have nb : p ≠ b := fun e => by
          subst e
          rw [hpF] at hb0
          cases hb0
        have W2 : Wd (some (p, b)) (fun _ => none) H' := ⟨(fun _ _ h => nomatch h), ⟨nb, rfl, rfl, ms, st, hp, hb1, c⟩⟩
        refine qt (some (p, b)) (fun _ => none) H' (fun _ => none) H' _ (some (.scr ns) :: some .hp :: List.replicate 16 none) _ _ (Ext.rfl' W2) ?_ (b_law ns (fun r => r = .d (.bool true)) rfl) ⟨(fun σ ρ F2 H2 _ x2 s2 h2 => by cases h2), fun r v F2 H2 _ x2 rv h2 => ?_, fun _ _ _ _ _ _ _ h => h.elim, fun _ _ _ _ _ _ _ h => h.elim⟩
        · have hS2 : (¬ inG (some (p, b)) a ∧ ∃ o, H' a = some (.frz o (.lst (ns.map V.int)))) ∨ ∀ H' : Hp, SqL K H' a (ns.map V.int) := by
            rcases hS0 with ⟨g, o, ho⟩ | z
            · refine .inl ⟨fun z => ?_, o, x.h _ _ ho g⟩
              rcases z with rfl | rfl
              · rw [hp0] at ho
                cases ho
              · have := x.nf a (some_ne ho)
                rw [hb0] at this
                cases this
            · exact .inr z
          have key : ∀ (i : Nat) (ev : EV), (some (EV.scr ns) :: some EV.hp :: List.replicate 16 none : DL.Env)[i]? = some (some ev) → (i = 0 ∧ ev = .scr ns) ∨ (i = 1 ∧ ev = .hp) := fun i ev e => by
            cases i with
            | zero => cases e; exact .inl ⟨rfl, rfl⟩
            | succ i =>
              cases i with
              | zero => cases e; exact .inr ⟨rfl, rfl⟩
              | succ i =>
                rw [List.getElem?_cons_succ, List.getElem?_cons_succ, List.getElem?_replicate] at e
                split at e <;> cases e
          refine ⟨rfl, fun i ev e => ?_, fun i ev e => ?_, fun i j q y z ne e1 o1 e2 o2 f1 f2 => ?_⟩
          · rcases key i ev e with ⟨rfl, rfl⟩ | ⟨rfl, rfl⟩
            · exact ⟨_, rfl, a, rfl, hS2⟩
            · exact ⟨_, rfl, p, b, rfl, rfl⟩
          · rcases key i ev e with ⟨rfl, rfl⟩ | ⟨rfl, rfl⟩ <;> rfl
          · rcases key i y e1 with ⟨rfl, rfl⟩ | ⟨rfl, rfl⟩ <;> cases o1
        · subst h2
          cases rv
          exact hQ H2
end K20
set_option Elab.async false
set_option linter.all false
set_option maxRecDepth 100000
set_option maxHeartbeats 1000000
namespace K20
open PySem PySem.Spec PyProof.Rows L2 DL
/-! ### small parts of a net -/
theorem b_common_bottom : BodyD T_common_bottom 4 1 sp_common_bottom := by
  rintro rs T - ⟨c, rfl, rfl | rfl, k⟩ <;> simp [T_common_bottom, ent, row, List.replicate]
  · refine ⟨1, 2, rfl, ?_⟩
    simp [CDiv, CMul]
    refine ⟨2, 2, rfl, ?_⟩
    simp [CDiv, CMul]
    exact k
  · refine ⟨1, 3, rfl, ?_⟩
    simp [CDiv, CMul]
    refine ⟨3, 3, rfl, ?_⟩
    simp [CDiv, CMul]
    refine ⟨3, 3, rfl, ?_⟩
    simp [CDiv, CMul]
    exact k
theorem b_fraction_of : BodyD T_fraction_of 3 2 sp_fraction_of := by
  rintro rs T - ⟨c, rfl, rfl | rfl, k⟩ <;> simp [T_fraction_of, ent]
  · refine ⟨2, 2, rfl, ?_⟩
    simp [CDiv]
    exact k
  · refine ⟨3, 3, rfl, ?_⟩
    simp [CDiv]
    exact k
theorem b_is_fraction : BodyD T_is_fraction 2 1 sp_is_fraction := by
  rintro rs T - ⟨c, rfl, hc, k⟩
  have key : ∀ c : Int, 0 < c → ((Int.gcd 1 c : Nat) : Int) = 1 := fun c _ => by rw [Int.one_gcd]; rfl
  have hp : 0 < c := by omega
  simp [T_is_fraction, ent, jT]
  refine lc_mapd (c := EV.d) (f := fun x => .bool (isI x)) (xs := [.int 1, .int c]) (fun x hx Kt Kf h => ?_) (by simp) (fAll_map ?_)
  · simpa [sp_is_integer] using h
  refine ⟨fun h => by simp [isI] at h, fun _ => ?_⟩
  have e0 : L2.atI [PyData.int 1, PyData.int c] 0 = some (.int 1) := by
    show L2.atI _ ((0 : Nat) : Int) = _
    exact atI_nat rfl
  have e1 : L2.atI [PyData.int 1, PyData.int c] 1 = some (.int c) := by
    show L2.atI _ ((1 : Nat) : Int) = _
    exact atI_nat rfl
  rw [e0, e1]
  simp [hp]
  refine ⟨1, c, rfl, ?_⟩
  rw [key c hp]
  simp
  exact k
theorem b_total_of_all : BodyD T_total_of_all 4 1 sp_total_of_all := by
  rintro rs T - ⟨c, rfl, hc, k⟩
  simp [T_total_of_all, ent] 
  refine ⟨c, rfl, hc, ?_⟩
  rcases hc with rfl | rfl <;> simp [row, List.replicate, lcGo, CDiv, CMul]
  · refine ⟨[1, 1], rfl, ?_⟩
    simp
    exact ⟨2, rfl, .inl rfl, k⟩
  · refine ⟨[1, 1, 1], rfl, ?_⟩
    simp
    exact ⟨3, rfl, .inr rfl, k⟩
theorem b_are_weights : BodyD T_are_weights 3 2 sp_are_weights := by
  rintro rs T - ⟨c, rfl, hc, k⟩
  have e0 : L2.atI [PyData.int 1, PyData.int c] 0 = some (.int 1) := by
    show L2.atI _ ((0 : Nat) : Int) = _
    exact atI_nat rfl
  have hp : max c 0 = c := by omega
  simp [T_are_weights, ent, row, jT, hp]
  rw [← List.map_replicate (f := EV.d)]
  refine lc_mapd (c := EV.d) (f := fun x => .bool true) (fun x hx Kt Kf h => ?_) (by rw [List.length_replicate]; omega) (fAll_map (p := fun _ => true) (by rw [List.all_eq_true.mpr fun _ _ => rfl]; exact k))
  rw [List.eq_of_mem_replicate hx]
  simp
  refine ⟨c, rfl, hc, ?_⟩
  simp [e0]
  exact h
theorem b_is_row : BodyD T_is_row 2 2 sp_is_row := by
  rintro rs T - ⟨c, rfl, hc, k⟩
  simp [T_is_row, ent] 
  refine ⟨c, rfl, hc, ?_⟩
  simp
  refine ⟨c, rfl, hc, ?_⟩
  simp [one]
  exact ⟨rfl, k⟩
theorem b_is_ascending : BodyD T_is_ascending 2 1 sp_is_ascending := by
  rintro rs T - ⟨ns, rfl, hp, hl, k⟩
  simp [T_is_ascending, ent]
  refine ⟨by omega, by omega, ?_⟩
  refine lc_mapd (c := fun (i : Nat) => EV.d (.int (i : Int))) (f := fun x => .bool true) (fun i hi Kt Kf h => ?_) (by rw [List.length_range]; omega) (fAll_map (p := fun _ => true) (by rw [List.all_eq_true.mpr fun _ _ => rfl]; exact k))
  have hi := List.mem_range.mp hi
  have a0 : L2.atI (ns.map PyData.int) (i : Int) = some (.int ns[i]) := atI_nat (by rw [List.getElem?_map, List.getElem?_eq_getElem (by omega)]; rfl)
  have a1 : L2.atI (ns.map PyData.int) ((i : Int) + 1) = some (.int ns[i + 1]) := by
    rw [show (i : Int) + 1 = ((i + 1 : Nat) : Int) by omega]
    exact atI_nat (by rw [List.getElem?_map, List.getElem?_eq_getElem (by omega)]; rfl)
  have hlt : ns[i] < ns[i + 1] := List.pairwise_iff_getElem.mp hp i (i + 1) (by omega) (by omega) (by omega)
  simp [a0, a1, hlt]
  exact h
theorem b_is_listing : BodyD T_is_listing 3 2 sp_is_listing := by
  rintro rs T - ⟨ns, b, rfl, hp, hl, hb, k⟩
  simp [T_is_listing, ent]
  refine ⟨tI ns, rfl, fun xs e => by cases e; rw [List.length_map]; exact hl, ?_⟩
  have ha : (ns.map PyData.int).all isN = true := by
    rw [List.all_map, List.all_eq_true]
    intro x hx
    have := (hb x hx).1
    simpa [isN] using this
  have e : isT (tI ns) = some (ns.map .int) := rfl
  simp only [e, ha]
  simp
  refine lc_mapd (c := EV.d ∘ PyData.int) (f := fun x => .bool true) (fun x hx Kt Kf h => ?_) (by omega) (fAll_map (p := fun _ => true) ?_)
  · simp [(hb x hx).2]
    exact h
  · rw [List.all_eq_true.mpr fun _ _ => rfl]
    simp
    exact ⟨ns, rfl, hp, hl, k⟩
theorem b_is_name : BodyD T_is_name 2 1 sp_is_name := by
  rintro rs T - ⟨x, rfl, hx, k⟩
  simp [T_is_name, ent, jS]
  have h3 := hx.2.1
  refine ⟨Nat.le_trans h3 (by decide), fun _ => ⟨fun _ => by omega, fun _ => ?_⟩, fun _ => by have := hx.1; omega⟩
  have hl : x.cps.toList.length = x.length := rfl
  refine lc_mapd (c := fun c => EV.d (.str ⟨#[c]⟩)) (xs := x.cps.toList) (f := fun x => .bool true) (fun c hc Kt Kf h => ?_) (by omega) (fAll_map (p := fun _ => true) (by rw [List.all_eq_true.mpr fun _ _ => rfl]; exact k))
  have := hx.2.2 c hc
  simp
  exact ⟨c, rfl, by rw [decide_eq_true this]; exact h⟩
/-- the divisor: a while -/
def gdW (g : Nat) (m : Nat) (ρ : DL.Env) : Prop := ∃ x y : Nat, ρ = [some (.d (.int (x : Int))), some (.d (.int (y : Int)))] ∧ Nat.gcd x y = g ∧ m = y
def gdN (g : Nat) (m : Nat) (ρ : DL.Env) : Prop := ∃ m', m' < m ∧ gdW g m' ρ
theorem abs_nat (a : Int) : (if a < 0 then -a else a) = ((a.natAbs : Nat) : Int) := by
  split <;> omega
theorem b_shared_divisor : BodyD T_shared_divisor 2 2 sp_shared_divisor := by
  rintro rs T - ⟨a, b, rfl, k⟩
  simp [T_shared_divisor, ent]
  refine ⟨gdW (Int.gcd a b), ⟨_, a.natAbs, b.natAbs, by rw [abs_nat, abs_nat], rfl, rfl⟩, ?_⟩
  rintro m ρ ⟨x, y, rfl, hg, rfl⟩
  simp
  by_cases hm : 0 < m
  · rw [decide_eq_true hm]
    refine ⟨gdN (Int.gcd a b) m, fun ρ' h => h, hm, x % m, Nat.mod_lt _ hm, m, x % m, by rw [Int.natCast_emod], ?_, rfl⟩
    rw [← hg, Nat.gcd_comm m, ← Nat.gcd_rec, Nat.gcd_comm]
  · rw [decide_eq_false hm]
    have : m = 0 := by omega
    subst this
    rw [Nat.gcd_zero_right] at hg
    show T _
    rw [hg]
    exact k
end K20
set_option Elab.async false
set_option linter.all false
set_option maxRecDepth 100000
set_option maxHeartbeats 1000000
namespace K20
open PySem PySem.Spec PyProof.Rows L2 DL
theorem sq_add {m : Int} {s : List Int} {v : Int} (h : Sq m s) (hv : 0 ≤ v ∧ v < m) (hn : v ∉ s) : Sq m (s ++ [v]) := ⟨by
  rw [List.nodup_append]
  exact ⟨h.nd, by simp, fun a ha b hb => by rw [List.mem_singleton.mp hb]; exact fun e => hn (e ▸ ha)⟩, fun x hx => by
  rcases List.mem_append.mp hx with hx | hx
  · exact h.r x hx
  · rw [List.mem_singleton.mp hx]; exact hv⟩
theorem sq_srt {m : Int} {s : List Int} (h : Sq m s) : Sq m (srt s) := ⟨(srt_perm s).nodup_iff.mpr h.nd, fun x hx => h.r x (srt_mem.mp hx)⟩
theorem ls_in {D : DEnds} {m : Int} (h1 : 1 ≤ m) (h8 : m ≤ 8) {z2 z3 : Option EV} : ∀ {rs : List EV} {s : List Int} {z5 z6 : Option EV}, (∀ r ∈ rs, ∃ i : Int, r = .d (.int i)) → Sq m s → (∀ s z5 z6, Sq m s → D.nx [some .hp, some (.d (.int m)), z2, z3, some (.o (s.map .int)), z5, z6]) →
    forGo (gN 5) (sThen (sSet 6 (eCB (fCall sp__law_draw) (aCons (eVar 0) (aCons (eVar 1) aNil)))) (sThen (sIf (eT (e2 (fIn true) (eVar 6) (eVar 4))) (sThen (sApp 4 (eVar 6)) sNil) sNil) sNil))
      D rs [some .hp, some (.d (.int m)), z2, z3, some (.o (s.map .int)), z5, z6]
  | [], s, z5, z6, _, hs, k => by simpa using k s z5 z6 hs
  | r :: rs, s, z5, z6, hr, hs, k => by
    obtain ⟨i, rfl⟩ := hr r List.mem_cons_self
    have ih := fun s z5 z6 hs => @ls_in D m h1 h8 z2 z3 rs s z5 z6 (fun r h => hr r (List.mem_cons_of_mem _ h)) hs k
    have l8 := sq_len h8 hs
    rw [r_forC]
    simp [-r_forC]
    refine ⟨m, rfl, by omega, by omega, fun v v0 v1 => ?_⟩
    simp [-r_forC]
    refine ⟨fun hn => ⟨by omega, ?_⟩, fun _ => ih s _ _ hs⟩
    have := ih (s ++ [v]) (some (.d (.int i))) (some (.d (.int v))) (sq_add hs ⟨v0, v1⟩ hn)
    simpa using this
theorem ls_out {D : DEnds} {m : Int} (h1 : 1 ≤ m) (h8 : m ≤ 8) : ∀ {rs : List EV} {ss : List (List Int)} {z3 z4 z5 z6 : Option EV}, (∀ r ∈ rs, ∃ i : Int, r = .d (.int i)) → (∀ s ∈ ss, Sq m s) → ss.length + 2 * rs.length ≤ 50 → (∀ (ss : List (List Int)) z3 z4 z5 z6, (∀ s ∈ ss, Sq m s) → ss.length ≤ 50 → D.nx [some .hp, some (.d (.int m)), some (.o (ss.map tI)), z3, z4, z5, z6]) →
    forGo (gN 3) (sThen (sSet 4 (eLst aNil))
    (sThen (sFor (iR (eCB (fCall sp__law_pick) (aCons (eVar 0) (aCons (eLst (aCons (eC (.d (.int 2))) (aCons (eC (.d (.int 2))) (aCons (eC (.d (.int 3))) (aCons (eC (.d (.int 3))) (aCons (eC (.d (.int 4))) (aCons (eC (.d (.int 1))) (aCons (eC (.d (.int 0))) aNil)))))))) aNil)))) (gN 5) (sThen (sSet 6 (eCB (fCall sp__law_draw) (aCons (eVar 0) (aCons (eVar 1) aNil)))) (sThen (sIf (eT (e2 (fIn true) (eVar 6) (eVar 4))) (sThen (sApp 4 (eVar 6)) sNil) sNil) sNil)))
    (sThen (sApp 2 (eTuple (e1 fSortL (eVar 4))))
    (sThen (sIf (eT (e2 fEq (eCB (fCall sp__law_draw) (aCons (eVar 0) (aCons (eC (.d (.int 9))) aNil))) (eC (.d (.int 0))))) (sThen (sApp 2 (e2 fIx (eVar 2) (eCB (fCall sp__law_draw) (aCons (eVar 0) (aCons (e1 fLen (eVar 2)) aNil))))) sNil) sNil)
    sNil)))) D rs [some .hp, some (.d (.int m)), some (.o (ss.map tI)), z3, z4, z5, z6]
  | [], ss, z3, z4, z5, z6, _, hs, hl, k => by simpa using k ss z3 z4 z5 z6 hs (by simpa using hl)
  | r :: rs, ss, z3, z4, z5, z6, hr, hs, hl, k => by
    obtain ⟨i, rfl⟩ := hr r List.mem_cons_self
    rw [List.length_cons] at hl
    have ih := fun ss z3 z4 z5 z6 hs hl => @ls_out D m h1 h8 rs ss z3 z4 z5 z6 (fun r h => hr r (List.mem_cons_of_mem _ h)) hs hl k
    rw [r_forC]
    simp [-r_forC]
    refine ⟨_, .inl rfl, by simp, by simp, fun x hx => ?_⟩
    obtain ⟨n, rfl, n0, n9⟩ : ∃ n : Int, x = .int n ∧ 0 ≤ n ∧ n ≤ 9 := by
      simp at hx
      rcases hx with rfl | rfl | rfl | rfl | rfl | rfl | rfl <;> exact ⟨_, rfl, by decide, by decide⟩
    refine ⟨rfl, by omega, by omega, ?_⟩
    refine ls_in h1 h8 (s := []) (fun r h => ?_) ⟨List.nodup_nil, fun x hx => absurd hx List.not_mem_nil⟩ fun s z5 z6 sq => ?_
    · obtain ⟨j, _, rfl⟩ := List.mem_map.mp h
      exact ⟨_, rfl⟩
    simp [-r_forC]
    refine ⟨s, rfl, ?_⟩
    simp [-r_forC]
    refine ⟨by omega, 9, rfl, by decide, by decide, fun v _ _ => ?_⟩
    have hs2 : ∀ t ∈ ss ++ [srt s], Sq m t := fun t ht => by
      rcases List.mem_append.mp ht with ht | ht
      · exact hs t ht
      · rw [List.mem_singleton.mp ht]; exact sq_srt sq
    simp [-r_forC]
    refine ⟨fun _ => ⟨_, rfl, by omega, by omega, fun u u0 u1 => ?_⟩, fun _ => ?_⟩
    · have lt : u.toNat < (ss ++ [srt s]).length := by rw [List.length_append, List.length_singleton]; omega
      have e1 : L2.atI (ss.map tI ++ [tI (srt s)]) u = some (tI ((ss ++ [srt s])[u.toNat])) := by
        have := atI_nat (xs := (ss ++ [srt s]).map tI) (j := u.toNat) (v := tI ((ss ++ [srt s])[u.toNat])) (by
          rw [List.getElem?_map, List.getElem?_eq_getElem lt]; rfl)
        rw [Int.toNat_of_nonneg u0, List.map_append] at this
        exact this
      simp [-r_forC]
      rw [show [PyData.tuple (List.map PyData.int (srt s))] = [tI (srt s)] from rfl, e1]
      have := ih (ss ++ [srt s] ++ [(ss ++ [srt s])[u.toNat]]) (some (.d (.int i))) (some (.o (s.map .int))) z5 z6 (fun t ht => by
        rcases List.mem_append.mp ht with ht | ht
        · exact hs2 t ht
        · rw [List.mem_singleton.mp ht]; exact hs2 _ (List.getElem_mem lt)) (by simp only [List.length_append, List.length_singleton]; omega)
      rw [List.map_append, List.map_append, List.append_assoc] at this
      exact ⟨by omega, this⟩
    · have := ih (ss ++ [srt s]) (some (.d (.int i))) (some (.o (s.map .int))) z5 z6 hs2 (by rw [List.length_append, List.length_singleton]; omega)
      simpa [tI] using this
theorem ls_rest {T : EV → Prop} {m : Int} (h1 : 1 ≤ m) (h8 : m ≤ 8) (k : ∀ ss, Sc m ss → ss.length ≤ 50 → T (.d (tS ss))) (ss : List (List Int)) (hs : ∀ s ∈ ss, Sq m s) (hl : ss.length ≤ 50) : T (.d (.tuple (ss.map tI))) := k ss ⟨h8, by omega, hs⟩ hl
theorem mod2 {m : Int} (h : 2 < m) {i : Nat} (hi : (i : Int) < m) : Sq m (srt [(i : Int), ((i : Int) + 1) % m]) := by
  refine sq_srt ⟨?_, fun x hx => ?_⟩
  · simp
    by_cases e : (i : Int) + 1 < m
    · rw [Int.emod_eq_of_lt (by omega) e]; omega
    · have : (i : Int) + 1 = m := by omega
      rw [this, Int.emod_self]; omega
  · simp at hx
    rcases hx with rfl | rfl
    · omega
    · exact ⟨Int.emod_nonneg _ (by omega), Int.emod_lt_of_pos _ (by omega)⟩
theorem b__law_scopes : BodyD T__law_scopes 7 2 sp__law_scopes := by
  rintro rs T - ⟨m, rfl, h1, h8, k⟩
  simp [T__law_scopes, ent, -r_forC]
  have rest : sp__law_draw [EV.hp, .d (.int (m + 3))] fun x => iR1 [x] fun rs => forGo (gN 3) (sThen (sSet 4 (eLst aNil))
    (sThen (sFor (iR (eCB (fCall sp__law_pick) (aCons (eVar 0) (aCons (eLst (aCons (eC (.d (.int 2))) (aCons (eC (.d (.int 2))) (aCons (eC (.d (.int 3))) (aCons (eC (.d (.int 3))) (aCons (eC (.d (.int 4))) (aCons (eC (.d (.int 1))) (aCons (eC (.d (.int 0))) aNil)))))))) aNil)))) (gN 5) (sThen (sSet 6 (eCB (fCall sp__law_draw) (aCons (eVar 0) (aCons (eVar 1) aNil)))) (sThen (sIf (eT (e2 (fIn true) (eVar 6) (eVar 4))) (sThen (sApp 4 (eVar 6)) sNil) sNil) sNil)))
    (sThen (sApp 2 (eTuple (e1 fSortL (eVar 4))))
    (sThen (sIf (eT (e2 fEq (eCB (fCall sp__law_draw) (aCons (eVar 0) (aCons (eC (.d (.int 9))) aNil))) (eC (.d (.int 0))))) (sThen (sApp 2 (e2 fIx (eVar 2) (eCB (fCall sp__law_draw) (aCons (eVar 0) (aCons (e1 fLen (eVar 2)) aNil))))) sNil) sNil)
    sNil)))) { nx := sThen (sRet (eTuple (eVar 2))) sNil { nx := fun x => T (EV.d PyData.none), rt := T }, rt := T } rs [some EV.hp, some (EV.d (PyData.int m)), some (EV.o []), none, none, none, none] := by
    refine ⟨_, rfl, by omega, by omega, fun v v0 v1 => ⟨by omega, by omega, ?_⟩⟩
    refine ls_out h1 h8 (ss := []) (fun r h => ?_) (fun s hs => absurd hs List.not_mem_nil) (by simp; omega) fun ss z3 z4 z5 z6 hs hl => ?_
    · obtain ⟨j, _, rfl⟩ := List.mem_map.mp h
      exact ⟨_, rfl⟩
    exact ls_rest h1 h8 k ss hs hl
  refine ⟨fun h2 => ⟨6, rfl, by decide, by decide, fun v _ _ => ?_⟩, fun _ => rest⟩
  simp [-r_forC]
  refine ⟨fun _ => ⟨by omega, by omega, ?_⟩, fun _ => rest⟩
  refine lc_mapd (c := fun (i : Nat) => EV.d (.int (i : Int))) (f := fun (i : Nat) => tI (srt [(i : Int), ((i : Int) + 1) % m])) (fun i hi Kt Kf h => ?_) (by rw [List.length_range]; omega) ?_
  · have hi := List.mem_range.mp hi
    simp
    exact ⟨by omega, [(i : Int), ((i : Int) + 1) % m], rfl, h⟩
  · have := ls_rest h1 h8 k ((List.range m.toNat).map fun (i : Nat) => srt [(i : Int), ((i : Int) + 1) % m]) (fun s hs => by
      obtain ⟨i, hi, rfl⟩ := List.mem_map.mp hs
      have := List.mem_range.mp hi
      exact mod2 h2 (by omega)) (by rw [List.length_map, List.length_range]; omega)
    rw [List.map_map] at this
    exact this
end K20
set_option Elab.async false
set_option linter.all false
set_option maxRecDepth 100000
set_option maxHeartbeats 1000000
namespace K20
open PySem PySem.Spec PyProof.Rows L2 DL
theorem tsD_at {ts : List Thg} {i : Nat} {t : Thg} (h : ts[i]? = some t) : L2.atI (ts.map (thgD (ts.map (·.c)))) (i : Int) = some (thgD (ts.map (·.c)) t) := atI_nat (by rw [List.getElem?_map, h]; rfl)
theorem thg0 (cs : List Int) (t : Thg) : L2.atI [PyData.str t.name, PyData.int t.c, tI t.ps, .tuple (List.replicate (prd cs t.ps).toNat (row t.c))] 0 = some (.str t.name) := by
  show L2.atI _ ((0 : Nat) : Int) = _
  exact atI_nat rfl
theorem thg1 (cs : List Int) (t : Thg) : L2.atI [PyData.str t.name, PyData.int t.c, tI t.ps, .tuple (List.replicate (prd cs t.ps).toNat (row t.c))] 1 = some (.int t.c) := by
  show L2.atI _ ((1 : Nat) : Int) = _
  exact atI_nat rfl
theorem thg2 (cs : List Int) (t : Thg) : L2.atI [PyData.str t.name, PyData.int t.c, tI t.ps, .tuple (List.replicate (prd cs t.ps).toNat (row t.c))] 2 = some (tI t.ps) := by
  show L2.atI _ ((2 : Nat) : Int) = _
  exact atI_nat rfl
theorem b_parents_of : BodyD T_parents_of 2 2 sp_parents_of := by
  rintro rs T - ⟨ts, i, t, rfl, hT, hi, k⟩
  simp [T_parents_of, ent, tsD]
  rw [tsD_at hi]
  simp [thgD]
  rw [thg2]
  exact k
theorem b_family_of : BodyD T_family_of 2 2 sp_family_of := by
  rintro rs T - ⟨ts, i, t, rfl, hT, hi, k⟩
  simp [T_family_of, ent]
  refine ⟨ts, i, t, rfl, hT, hi, ?_⟩
  have := (hT.ps i t hi).2.1
  simp
  exact ⟨Nat.le_trans (Nat.add_le_add_right this 1) (by decide), by simpa [tI] using k⟩
theorem fam_map (ts : List Thg) (f : Nat → List Int) (h : ∀ (i : Nat) t, ts[i]? = some t → f i = t.ps ++ [(i : Int)]) : (List.range ts.length).map f = fam ts := by
  refine List.ext_getElem (by simp [fam]) fun i h1 h2 => ?_
  have hi : i < ts.length := by simpa using h1
  simp [fam]
  exact h i ts[i] (List.getElem?_eq_getElem hi)
def famAt (ts : List Thg) (i : Nat) : List Int := match ts[i]? with
  | some t => t.ps ++ [(i : Int)]
  | none => []
theorem b_scopes_in : BodyD T_scopes_in 2 1 sp_scopes_in := by
  rintro rs T - ⟨ts, rfl, hT, k⟩
  have hl := hT.len
  simp [T_scopes_in, ent]
  rw [show asSeq (.d (tsD ts)) = some (ts.map (thgD (ts.map (·.c)))) from rfl]
  simp
  refine ⟨by omega, ?_⟩
  refine lc_mapd (c := fun (i : Nat) => EV.d (.int (i : Int))) (f := fun i => tI (famAt ts i)) (fun i hi Kt Kf h => ?_) (by rw [List.length_range]; omega) ?_
  · have hi := List.mem_range.mp hi
    have e : ts[i]? = some ts[i] := List.getElem?_eq_getElem hi
    simp
    refine ⟨ts, i, ts[i], rfl, hT, e, ?_⟩
    have e2 : famAt ts i = ts[i].ps ++ [(i : Int)] := by unfold famAt; rw [e]
    rw [e2] at h
    simpa using h
  · have := fam_map ts (famAt ts) fun i t h => by unfold famAt; rw [h]
    rw [show (List.range ts.length).map (fun i => tI (famAt ts i)) = ((List.range ts.length).map (famAt ts)).map tI by rw [List.map_map]; rfl, this]
    exact k
theorem dpA_le {n : Nat} : ∀ {xs : List PyData}, (∀ x ∈ xs, x.depth ≤ n) → PyData.depthAll xs ≤ n
  | [], _ => by simp [PyData.depthAll]
  | x :: xs, h => by
    have := dpA_le (n := n) fun y hy => h y (List.mem_cons_of_mem x hy)
    have := h x List.mem_cons_self
    simp only [PyData.depthAll]
    omega
theorem clA_of : ∀ {xs : List PyData}, (∀ x ∈ xs, x.canLay0 = true) → PyData.canLayAll0 xs = true
  | [], _ => by simp [PyData.canLayAll0]
  | x :: xs, h => by
    have := clA_of fun y hy => h y (List.mem_cons_of_mem x hy)
    have := h x List.mem_cons_self
    simp only [PyData.canLayAll0, Bool.and_eq_true]
    exact ⟨by assumption, by assumption⟩
theorem row_ok (c : Int) : (row c).canLay0 = true ∧ (row c).depth ≤ 2 := by
  unfold row
  constructor
  · simp only [PyData.canLay0]
    refine clA_of fun x hx => ?_
    rw [List.eq_of_mem_replicate hx]
    simp [PyData.canLay0, PyData.canLayAll0]
  · simp only [PyData.depth]
    refine Nat.succ_le_succ (dpA_le fun x hx => ?_)
    rw [List.eq_of_mem_replicate hx]
    simp [PyData.depth, PyData.depthAll]
theorem let_small : ∀ c ∈ letters.cps.toList, c < 0x110000 := by decide +kernel
theorem nm_ok {x : Str} (h : nmOk x) : PyData.strOk x = true := by
  unfold PyData.strOk
  rw [← Array.all_toList, List.all_eq_true]
  exact fun c hc => decide_eq_true (let_small c (h.2.2 c hc))
theorem thg_ok {cs : List Int} {t : Thg} (h : nmOk t.name) : (thgD cs t).canLay0 = true ∧ (thgD cs t).depth ≤ 4 := by
  unfold thgD
  constructor
  · simp only [PyData.canLay0]
    refine clA_of fun x hx => ?_
    simp at hx
    rcases hx with rfl | rfl | rfl | rfl
    · simp [PyData.canLay0, nm_ok h]
    · simp [PyData.canLay0]
    · exact cl0_tI _
    · simp only [PyData.canLay0]
      refine clA_of fun x hx => ?_
      rw [List.eq_of_mem_replicate hx]
      exact (row_ok _).1
  · simp only [PyData.depth]
    refine Nat.succ_le_succ (dpA_le fun x hx => ?_)
    simp at hx
    rcases hx with rfl | rfl | rfl | rfl
    · simp [PyData.depth]
    · simp [PyData.depth]
    · rw [dp_tI]; decide
    · simp only [PyData.depth]
      refine Nat.succ_le_succ (dpA_le fun x hx => ?_)
      rw [List.eq_of_mem_replicate hx]
      exact (row_ok _).2
theorem sh_ts {ts : List Thg} (h : TsOk ts) : SeqAt.shaped (tsD ts) = true := by
  unfold SeqAt.shaped tsD
  simp only [PyData.canLay0, PyData.depth, Bool.and_eq_true, decide_eq_true_eq]
  constructor
  · refine clA_of fun x hx => ?_
    obtain ⟨t, ht, rfl⟩ := List.mem_map.mp hx
    exact (thg_ok (h.nm t ht)).1
  · have := dpA_le (n := 4) (xs := ts.map (thgD (ts.map (·.c)))) fun x hx => by
      obtain ⟨t, ht, rfl⟩ := List.mem_map.mp hx
      exact (thg_ok (h.nm t ht)).2
    exact decide_eq_true (Nat.le_trans (Nat.succ_le_succ this) (show 5 ≤ 64 by decide))
theorem ct_for {T : EV → Prop} {ts : List Thg} (hT : TsOk ts) (k : T (.d .none)) : ∀ (n i : Nat) (z1 z2 : Option EV), i + n = ts.length →
    forGo (gT (gsCons (gN 1) (gsCons (gN 2) gsNil)))
      (sThen (sIf (bNot (eT (eCB (fCall sp_is_thing) (aCons (eVar 2) (aCons (eSlT (eVar 0) oNone (oSome (eVar 1))) aNil))))) (sThen sNever sNil) sNil) sNil)
      { nx := sNil { nx := fun x => T (EV.d PyData.none), rt := T }, rt := T } (((ts.drop i).zipIdx i).map fun e => EV.d (.tuple [.int (e.2 : Int), thgD (ts.map (·.c)) e.1])) [some (.d (tsD ts)), z1, z2]
  | 0, i, z1, z2, e => by
    rw [List.drop_eq_nil_of_le (by omega)]
    exact k
  | n + 1, i, z1, z2, e => by
    have hi : i < ts.length := by omega
    rw [List.drop_eq_getElem_cons hi, List.zipIdx_cons, List.map_cons]
    have e1 : ts[i]? = some ts[i] := List.getElem?_eq_getElem hi
    have ih := ct_for hT k n (i + 1)
    rw [r_forC]
    simp
    rw [show asT (.d (tsD ts)) = some (ts.map (thgD (ts.map (·.c)))) from rfl]
    simp
    refine ⟨ts, i, ts[i], by rw [List.map_take], hT, e1, ?_⟩
    simp
    exact ih _ _ (by omega)
theorem b_check_things : BodyD T_check_things 3 1 sp_check_things := by
  rintro rs T - ⟨d, rfl, ⟨ts, hT, rfl⟩, k⟩
  simp [T_check_things, ent]
  have hne : (tsD ts).eqv (.tuple []) = false := by
    have := hT.len.1
    cases ts with
    | nil => simp at this
    | cons t ts => simp [tsD, PyData.eqv, PyData.eqvAll]
  refine ⟨rfl, fun _ => ⟨sh_ts hT, hne, fun _ => ?_⟩⟩
  rw [show asF (.d (tsD ts)) = some (ts.map (thgD (ts.map (·.c)))) from rfl]
  have := ct_for hT k ts.length 0 none none (by omega)
  have e : enl (ts.map (thgD (ts.map (·.c)))) = (((ts.drop 0).zipIdx 0).map fun e => EV.d (.tuple [.int (e.2 : Int), thgD (ts.map (·.c)) e.1])) := by
    unfold enl
    rw [List.mapIdx_eq_zipIdx_map, List.zipIdx_map, List.map_map, List.drop_zero]
    rfl
  rw [← e] at this
  exact this
theorem prd3 {cs : List Int} : ∀ {lot : List Int} {m : Int}, (∀ x ∈ lot, cs.getD x.toNat 0 = 2 ∨ cs.getD x.toNat 0 = 3) → 0 ≤ m → 0 ≤ lot.foldl (fun m x => m * cs.getD x.toNat 0) m ∧ lot.foldl (fun m x => m * cs.getD x.toNat 0) m ≤ m * 3 ^ lot.length
  | [], m, _, h => ⟨h, by simp⟩
  | x :: lot, m, hx, h => by
    have h1 := hx x List.mem_cons_self
    have h2 : 0 ≤ m * cs.getD x.toNat 0 ∧ m * cs.getD x.toNat 0 ≤ m * 3 := by
      rcases h1 with e | e <;> rw [e] <;> omega
    obtain ⟨a, b⟩ := prd3 (cs := cs) (lot := lot) (fun y hy => hx y (List.mem_cons_of_mem _ hy)) h2.1
    refine ⟨a, Int.le_trans b ?_⟩
    rw [List.length_cons, Int.pow_succ]
    have h3 : (0 : Int) ≤ 3 ^ lot.length := Int.pow_nonneg (by decide)
    calc m * cs.getD x.toNat 0 * 3 ^ lot.length ≤ m * 3 * 3 ^ lot.length := Int.mul_le_mul_of_nonneg_right h2.2 h3
      _ = m * (3 ^ lot.length * 3) := by rw [Int.mul_assoc, Int.mul_comm 3]
theorem b_is_thing : BodyD T_is_thing 9 2 sp_is_thing := by
  rintro rs T - ⟨ts, i, t, rfl, hT, hi, k⟩
  have hil : i < ts.length := (List.getElem?_eq_some_iff.mp hi).1
  have hti : ts[i] = t := (List.getElem?_eq_some_iff.mp hi).2
  have htm : t ∈ ts := List.mem_of_getElem? hi
  have h8 := hT.len.2
  obtain ⟨hp, hp3, hpr⟩ := hT.ps i t hi
  have hc2 := hT.c t htm
  simp [T_is_thing, ent, thgD, jT]
  refine ⟨t.name, rfl, hT.nm t htm, ?_⟩
  simp
  simp only [← List.map_take]
  refine lc_mapd (c := EV.d ∘ thgD (ts.map (·.c))) (xs := ts.take i) (f := fun _ => .bool false) (fun x hx Kt Kf h => ?_) (by rw [List.length_take]; omega) ?_
  · have hne : t.name ≠ x.name := by
      intro e
      obtain ⟨j, hj, ej⟩ := List.getElem_of_mem hx
      rw [List.length_take] at hj
      rw [List.getElem_take] at ej
      have := List.pairwise_iff_getElem.mp hT.df j i (by rw [List.length_map]; omega) (by rw [List.length_map]; exact hil) (by omega)
      rw [List.getElem_map, List.getElem_map, ej, hti] at this
      exact this e.symm
    simp [thgD]
    rw [thg0]
    simp [fEqS, hne]
    exact h
  refine fAny_map (p := fun _ => false) ?_
  rw [List.any_eq_false.mpr fun _ _ => by simp]
  simp
  refine ⟨.int t.c, rfl, ?_⟩
  simp [isI]
  refine ⟨fun h => by omega, fun _ => ?_⟩
  refine ⟨t.ps, _, rfl, hp, by omega, fun x hx => by have := hpr x hx; omega, ?_⟩
  simp
  have hcs : ∀ x ∈ t.ps, (ts.map (·.c)).getD x.toNat 0 = 2 ∨ (ts.map (·.c)).getD x.toNat 0 = 3 := fun x hx => by
    have hr := hpr x hx
    have hl : x.toNat < ts.length := by omega
    have := hT.c ts[x.toNat] (List.getElem_mem hl)
    rwa [List.getD_eq_getElem?_getD, List.getElem?_map, List.getElem?_eq_getElem hl]
  obtain ⟨p0, p27⟩ := prd3 (m := 1) hcs (by decide)
  have p27 : prd (ts.map (·.c)) t.ps ≤ 27 := Int.le_trans p27 (by
    rw [Int.one_mul]
    have : (3 : Int) ^ t.ps.length ≤ 3 ^ 3 := by
      rcases (by omega : t.ps.length = 0 ∨ t.ps.length = 1 ∨ t.ps.length = 2 ∨ t.ps.length = 3) with e | e | e | e <;> rw [e] <;> decide
    exact this)
  change 0 ≤ prd (ts.map (·.c)) t.ps at p0
  refine lc_mapd (c := EV.d ∘ PyData.int) (f := fun x => .int ((ts.map (·.c)).getD x.toNat 0)) (fun x hx Kt Kf h => ?_) (by omega) ?_
  · have hr := hpr x hx
    have hl : x.toNat < ts.length := by omega
    have e1 : L2.atI ((ts.map (thgD (ts.map (·.c)))).take i) x = some (thgD (ts.map (·.c)) ts[x.toNat]) := by
      have := atI_nat (xs := (ts.map (thgD (ts.map (·.c)))).take i) (j := x.toNat) (v := thgD (ts.map (·.c)) ts[x.toNat]) (by
        rw [List.getElem?_take, if_pos (by omega), List.getElem?_map, List.getElem?_eq_getElem hl]; rfl)
      rwa [Int.toNat_of_nonneg hr.1] at this
    simp [e1]
    simp [thgD]
    rw [thg1]
    rw [List.getD_eq_getElem?_getD, List.getElem?_map, List.getElem?_eq_getElem hl] at h
    exact h
  refine ⟨t.ps.map fun x => (ts.map (·.c)).getD x.toNat 0, by simp [lI, Function.comp_def], fun n hn => ?_, ?_⟩
  · obtain ⟨x, hx, rfl⟩ := List.mem_map.mp hn
    have := hcs x hx
    omega
  rw [show (t.ps.map fun x => (ts.map (·.c)).getD x.toNat 0).foldl (· * ·) 1 = prd (ts.map (·.c)) t.ps by rw [List.foldl_map]; rfl]
  change lfr _ = true ∧ _
  simp
  refine ⟨fun h => absurd (Int.max_eq_left p0) h, fun _ => ?_⟩
  rw [← List.map_replicate (f := EV.d)]
  refine lc_mapd (c := EV.d) (f := fun x => .bool true) (fun x hx Kt Kf h => ?_) (by rw [List.length_replicate]; omega) (fAll_map (p := fun _ => true) (by rw [List.all_eq_true.mpr fun _ _ => rfl]; exact k))
  rw [List.eq_of_mem_replicate hx]
  simp
  exact ⟨t.c, rfl, hc2, h⟩
end K20
set_option Elab.async false
set_option linter.all false
set_option maxRecDepth 100000
set_option maxHeartbeats 1000000
namespace K20
open PySem PySem.Spec PyProof.Rows L2 DL
structure Pre (ts : List Thg) : Prop where
  nm : ∀ (i : Nat) t, ts[i]? = some t → nmOk t.name ∧ t.name.cps.toList.head? = some (97 + i)
  c : ∀ t ∈ ts, t.c = 2 ∨ t.c = 3
  ps : ∀ (i : Nat) t, ts[i]? = some t → t.ps.Pairwise (· < ·) ∧ t.ps.length ≤ 3 ∧ ∀ x ∈ t.ps, 0 ≤ x ∧ x < i
theorem Pre.ok {ts : List Thg} (h : Pre ts) (l1 : 1 ≤ ts.length) (l8 : ts.length ≤ 8) : TsOk ts where
  len := ⟨l1, l8⟩
  nm := fun t ht => by
    obtain ⟨i, hi, rfl⟩ := List.getElem_of_mem ht
    exact (h.nm i _ (List.getElem?_eq_getElem hi)).1
  df := by
    rw [List.Nodup, List.pairwise_iff_getElem]
    intro i j hi hj hij e
    rw [List.length_map] at hi hj
    rw [List.getElem_map, List.getElem_map] at e
    have a := (h.nm i _ (List.getElem?_eq_getElem hi)).2
    have b := (h.nm j _ (List.getElem?_eq_getElem hj)).2
    rw [e, b] at a
    have := Option.some.inj a
    omega
  c := h.c
  ps := h.ps
theorem prd_ext {cs : List Int} {c : Int} : ∀ {lot : List Int} {m : Int}, (∀ x ∈ lot, 0 ≤ x ∧ x < cs.length) → lot.foldl (fun m x => m * (cs ++ [c]).getD x.toNat 0) m = lot.foldl (fun m x => m * cs.getD x.toNat 0) m
  | [], m, _ => rfl
  | x :: lot, m, h => by
    have := h x List.mem_cons_self
    rw [List.foldl_cons, List.foldl_cons, prd_ext fun y hy => h y (List.mem_cons_of_mem _ hy)]
    rw [List.getD_eq_getElem?_getD, List.getElem?_append_left (by omega), ← List.getD_eq_getElem?_getD]
theorem thgD_ext {ts : List Thg} (h : Pre ts) (u : Thg) : ∀ t ∈ ts, thgD ((ts ++ [u]).map (·.c)) t = thgD (ts.map (·.c)) t := fun t ht => by
  obtain ⟨i, hi, e⟩ := List.getElem_of_mem ht
  have := (h.ps i t (by rw [List.getElem?_eq_getElem hi, e])).2.2
  unfold thgD prd
  rw [List.map_append, List.map_singleton, prd_ext fun x hx => by have := this x hx; rw [List.length_map]; omega]
theorem Pre.snoc {ts : List Thg} (h : Pre ts) {u : Thg} (h1 : nmOk u.name) (h2 : u.name.cps.toList.head? = some (97 + ts.length)) (h3 : u.c = 2 ∨ u.c = 3) (h4 : u.ps.Pairwise (· < ·) ∧ u.ps.length ≤ 3 ∧ ∀ x ∈ u.ps, 0 ≤ x ∧ x < (ts.length : Int)) : Pre (ts ++ [u]) := by
  have key : ∀ (i : Nat) t, (ts ++ [u])[i]? = some t → ts[i]? = some t ∨ (i = ts.length ∧ t = u) := fun i t e => by
    rw [List.getElem?_append] at e
    split at e
    · exact .inl e
    · rw [List.getElem?_singleton] at e
      split at e
      · cases e; exact .inr ⟨by omega, rfl⟩
      · cases e
  refine ⟨fun i t e => ?_, fun t ht => ?_, fun i t e => ?_⟩
  · rcases key i t e with e | ⟨rfl, rfl⟩
    · exact h.nm i t e
    · exact ⟨h1, h2⟩
  · rcases List.mem_append.mp ht with ht | ht
    · exact h.c t ht
    · rw [List.mem_singleton.mp ht]; exact h3
  · rcases key i t e with e | ⟨rfl, rfl⟩
    · exact h.ps i t e
    · exact h4
theorem ln_in {D : DEnds} {i : Int} (h0 : 0 ≤ i) (h8 : i ≤ 8) {z0 z1 z3 z4 z7 z8 : Option EV} (hz : z0 = some .hp) : ∀ {rs : List EV} {ps : List Int} {z6 z9 : Option EV}, (∀ r ∈ rs, ∃ i : Int, r = .d (.int i)) → Sq i ps → ps.length + rs.length ≤ 3 → (∀ (ps : List Int) z6 z9, Sq i ps → ps.length ≤ 3 → D.nx [z0, z1, some (.d (.int i)), z3, z4, some (.o (ps.map .int)), z6, z7, z8, z9]) →
    forGo (gN 6) (sThen (sSet 9 (eCB (fCall sp__law_draw) (aCons (eVar 0) (aCons (e2 fAdd (eVar 2) (eC (.d (.int 1)))) aNil))))
      (sThen (sIf (bAnd (eT (e2 fLt (eVar 9) (eVar 2))) (eT (e2 (fIn true) (eVar 9) (eVar 5)))) (sThen (sApp 5 (eVar 9)) sNil) sNil) sNil)) D rs [z0, z1, some (.d (.int i)), z3, z4, some (.o (ps.map .int)), z6, z7, z8, z9]
  | [], ps, z6, z9, _, hs, hl, k => by simpa using k ps z6 z9 hs (by simpa using hl)
  | r :: rs, ps, z6, z9, hr, hs, hl, k => by
    obtain ⟨j, rfl⟩ := hr r List.mem_cons_self
    rw [List.length_cons] at hl
    have ih := fun ps z6 z9 hs hl => @ln_in D i h0 h8 z0 z1 z3 z4 z7 z8 hz rs ps z6 z9 (fun r h => hr r (List.mem_cons_of_mem _ h)) hs hl k
    subst hz
    rw [r_forC]
    simp [-r_forC]
    refine ⟨_, rfl, by omega, by omega, fun v v0 v1 => ?_⟩
    simp [-r_forC]
    have i2 := ih ps (some (.d (.int j))) (some (.d (.int v))) hs (by omega)
    refine ⟨fun hlt => ⟨fun hn => ⟨by omega, ?_⟩, fun _ => i2⟩, fun _ => i2⟩
    have := ih (ps ++ [v]) (some (.d (.int j))) (some (.d (.int v))) (sq_add hs ⟨v0, hlt⟩ hn) (by rw [List.length_append, List.length_singleton]; omega)
    simpa using this
theorem nm8 : ("abcdefgh" : Str).cps.toList = [97, 98, 99, 100, 101, 102, 103, 104] := by decide +kernel
theorem nm_head {i : Nat} (hi : i < 8) : L2.atI ("abcdefgh" : Str).cps.toList (i : Int) = some (97 + i) := by
  rw [nm8]
  refine atI_nat ?_
  rcases (by omega : i = 0 ∨ i = 1 ∨ i = 2 ∨ i = 3 ∨ i = 4 ∨ i = 5 ∨ i = 6 ∨ i = 7) with rfl | rfl | rfl | rfl | rfl | rfl | rfl | rfl <;> rfl
theorem let26 : letters.cps.toList = (List.range 26).map (97 + ·) := by decide +kernel
theorem nm_new {i : Nat} (hi : i < 8) {x : Str} (hx : x = ("" : Str) ∨ x = ("a" : Str) ∨ x = ("zz" : Str)) : nmOk (⟨#[97 + i]⟩ ++ x) ∧ ((⟨#[97 + i]⟩ ++ x : Str)).cps.toList.head? = some (97 + i) := by
  have e1 : ("" : Str).cps.toList = [] := by decide +kernel
  have e2 : ("a" : Str).cps.toList = [97] := by decide +kernel
  have e3 : ("zz" : Str).cps.toList = [122, 122] := by decide +kernel
  have e : ((⟨#[97 + i]⟩ ++ x : Str)).cps.toList = (97 + i) :: x.cps.toList := by
    show (#[97 + i] ++ x.cps).toList = _
    simp
  have hl : ((⟨#[97 + i]⟩ ++ x : Str)).length = ((97 + i) :: x.cps.toList).length := by
    rw [← e]; rfl
  have hm : ∀ n, n < 26 → 97 + n ∈ letters.cps.toList := fun n hn => by
    rw [let26]
    exact List.mem_map.mpr ⟨n, List.mem_range.mpr hn, rfl⟩
  refine ⟨⟨?_, ?_, ?_⟩, ?_⟩
  · rw [hl]; simp
  · rw [hl]; rcases hx with rfl | rfl | rfl <;> simp [e1, e2, e3]
  · rw [e]
    intro c hc
    rcases List.mem_cons.mp hc with rfl | hc
    · exact hm i (by omega)
    · rcases hx with rfl | rfl | rfl
      · rw [e1] at hc; cases hc
      · rw [e2] at hc; rw [List.mem_singleton.mp hc]; exact hm 0 (by decide)
      · rw [e3] at hc
        have : c = 97 + 25 := by simpa using hc
        rw [this]; exact hm 25 (by decide)
  · rw [e]; rfl
theorem ln_7 {D : DEnds} {t2 : TSd} {m : Int} {z3 z4 z6 z7 z8 z9 : Option EV} {ts : List Thg} {ps : List Int} (k : ∀ c : Int, c = 2 ∨ c = 3 → t2 D [some .hp, some (.d (.int m)), some (.d (.int (ts.length : Int))), z3, z4, some (.o (ps.map .int)), z6, some (.d (.int c)), z8, z9]) :
    (sThen (sSet 7 (e2 fAdd (eC (.d (.int 2))) (e1 fInt (e2 fEq (eCB (fCall sp__law_draw) (aCons (eVar 0) (aCons (eC (.d (.int 5))) aNil))) (eC (.d (.int 0))))))) t2) D [some .hp, some (.d (.int m)), some (.d (.int (ts.length : Int))), z3, z4, some (.o (ps.map .int)), z6, z7, z8, z9] := by
  simp
  refine ⟨5, rfl, by decide, by decide, fun w w0 w1 => ?_⟩
  simp
  exact k _ (by split <;> omega)
theorem ln_8 {D : DEnds} {t2 : TSd} {m : Int} {z3 z4 z6 z7 z8 z9 : Option EV} {ts : List Thg} {ps : List Int} (h8 : ts.length < 8) (k : ∀ nm : Str, nmOk nm → nm.cps.toList.head? = some (97 + ts.length) → t2 D [some .hp, some (.d (.int m)), some (.d (.int (ts.length : Int))), z3, z4, some (.o (ps.map .int)), z6, z7, some (.d (.str nm)), z9]) :
    (sThen (sSet 8 (e2 fAddS (e2 fIxS (eC (.d (.str ("abcdefgh" : Str)))) (eVar 2)) (eCB (fCall sp__law_pick) (aCons (eVar 0) (aCons (eLst (aCons (eC (.d (.str ("" : Str)))) (aCons (eC (.d (.str ("a" : Str)))) (aCons (eC (.d (.str ("zz" : Str)))) aNil)))) aNil))))) t2) D [some .hp, some (.d (.int m)), some (.d (.int (ts.length : Int))), z3, z4, some (.o (ps.map .int)), z6, z7, z8, z9] := by
  simp
  refine ⟨by decide, _, nm_head h8, _, .inl rfl, by simp, by simp, fun x hx => ?_⟩
  obtain ⟨y, rfl, hy⟩ : ∃ y : Str, x = .str y ∧ (y = ("" : Str) ∨ y = ("a" : Str) ∨ y = ("zz" : Str)) := by
    simp at hx
    rcases hx with rfl | rfl | rfl
    · exact ⟨_, rfl, .inl rfl⟩
    · exact ⟨_, rfl, .inr (.inl rfl)⟩
    · exact ⟨_, rfl, .inr (.inr rfl)⟩
  obtain ⟨n1, n2⟩ := nm_new h8 hy
  refine ⟨rfl, Nat.le_trans (m := 4) ?_ (by decide), rfl, k _ n1 n2⟩
  have : y.length ≤ 2 := by rcases hy with rfl | rfl | rfl <;> decide +kernel
  show 1 + y.length ≤ 4
  omega
theorem prd1 {cs : List Int} : ∀ {lot : List Int} {m : Int}, (∀ x ∈ lot, cs.getD x.toNat 0 = 2 ∨ cs.getD x.toNat 0 = 3) → 1 ≤ m → 1 ≤ lot.foldl (fun m x => m * cs.getD x.toNat 0) m
  | [], m, _, h => h
  | x :: lot, m, hx, h => by
    have h1 := hx x List.mem_cons_self
    refine prd1 (cs := cs) (lot := lot) (fun y hy => hx y (List.mem_cons_of_mem _ hy)) ?_
    show 1 ≤ m * cs.getD x.toNat 0
    rcases h1 with e | e <;> rw [e] <;> omega
theorem prd27 {cs lot : List Int} (h : ∀ x ∈ lot, cs.getD x.toNat 0 = 2 ∨ cs.getD x.toNat 0 = 3) (l : lot.length ≤ 3) : 1 ≤ prd cs lot ∧ prd cs lot ≤ 27 := by
  refine ⟨prd1 h (by decide), Int.le_trans (prd3 (m := 1) h (by decide)).2 ?_⟩
  rw [Int.one_mul]
  have : (3 : Int) ^ lot.length ≤ 3 ^ 3 := by
    rcases (by omega : lot.length = 0 ∨ lot.length = 1 ∨ lot.length = 2 ∨ lot.length = 3) with e | e | e | e <;> rw [e] <;> decide
  exact this
theorem flat1 {α : Type} (n : Nat) (x : α) : (List.replicate n [x]).flatten = List.replicate n x := by
  induction n with
  | zero => rfl
  | succ n ih => rw [List.replicate_succ, List.flatten_cons, ih]; rfl
theorem ln_9 {D : DEnds} {m c : Int} {nm : Str} {z6 z9 : Option EV} {ts : List Thg} {ps : List Int} (h8 : ts.length < 8) (hp : Pre ts) (sq : Sq (ts.length : Int) ps) (lp : ps.length ≤ 3) (h23 : c = 2 ∨ c = 3) (k : D.nx [some .hp, some (.d (.int m)), some (.d (.int (ts.length : Int))), some (.o (ts.map (thgD (ts.map (·.c))) ++ [thgD (ts.map (·.c)) ⟨nm, c, srt ps⟩])), some (.o ((ts.map (·.c)).map .int ++ [.int c])), some (.o (ps.map .int)), z6, some (.d (.int c)), some (.d (.str nm)), z9]) :
    (sThen (sApp 3 (eTup (aCons (eVar 8) (aCons (eVar 7) (aCons (eTuple (e1 fSortL (eVar 5))) (aCons (e2 fRep1 (eTup (aCons (e2 fRep1 (eTup (aCons (eTup (aCons (eC (.d (.int 1))) (aCons (eVar 7) aNil))) aNil)) (eVar 7)) aNil)) (eCB (fCall sp__law_size) (aCons (eVar 4) (aCons (eVar 5) aNil)))) aNil))))))
  (sThen (sApp 4 (eVar 7))
  sNil)) D [some .hp, some (.d (.int m)), some (.d (.int (ts.length : Int))), some (.o (ts.map (thgD (ts.map (·.c))))), some (.o ((ts.map (·.c)).map .int)), some (.o (ps.map .int)), z6, some (.d (.int c)), some (.d (.str nm)), z9] := by
  have hpr : ∀ x ∈ ps, (ts.map (·.c)).getD x.toNat 0 = 2 ∨ (ts.map (·.c)).getD x.toNat 0 = 3 := fun x hx => by
    have hr := sq.r x hx
    have hl : x.toNat < ts.length := by omega
    have := hp.c ts[x.toNat] (List.getElem_mem hl)
    rwa [List.getD_eq_getElem?_getD, List.getElem?_map, List.getElem?_eq_getElem hl]
  obtain ⟨p1, p27⟩ := prd27 hpr lp
  have pe : prd (ts.map (·.c)) (srt ps) = prd (ts.map (·.c)) ps := by
    unfold prd
    exact (srt_perm ps).foldl_eq' (fun x _ y _ z => by rw [Int.mul_assoc, Int.mul_assoc, Int.mul_comm ((ts.map (·.c)).getD x.toNat 0)]) 1
  refine ⟨ps, rfl, ?_⟩
  show _ ≠ [] ∧ 1 ≤ c ∧ c ≤ 1000 ∧ _ ≤ 1000 ∧ _
  refine ⟨by simp, by omega, by omega, by simp, ?_⟩
  refine ⟨ts.map (·.c), ps, .inr rfl, ⟨fun x hx => ?_, fun x hx => by rw [List.length_map]; exact sq.r x hx, by omega⟩, ?_⟩
  · obtain ⟨t, ht, rfl⟩ := List.mem_map.mp hx
    have := hp.c t ht
    omega
  refine ⟨.inr rfl, ?_⟩
  show _ ≠ [] ∧ 1 ≤ prd (ts.map (·.c)) ps ∧ prd (ts.map (·.c)) ps ≤ 1000 ∧ _ ≤ 1000 ∧ _
  refine ⟨by simp, p1, by omega, by simp, by rw [List.length_map]; omega, ?_⟩
  unfold thgD row at k
  rw [pe] at k
  rw [flat1, flat1]
  exact ⟨by rw [List.length_map, List.length_map]; omega, k⟩
theorem srt_lt {ps : List Int} (h : ps.Nodup) : (srt ps).Pairwise (· < ·) := by
  have a := srt_sorted ps
  have b := (srt_perm ps).nodup_iff.mpr h
  exact (a.and b).imp fun ⟨h1, h2⟩ => by omega
theorem ln_tail {D : DEnds} {m : Int} {z6 z7 z8 z9 : Option EV} {ts : List Thg} {ps : List Int} (h8 : ts.length < 8) (hp : Pre ts) (sq : Sq (ts.length : Int) ps) (lp : ps.length ≤ 3) (k : ∀ (u : Thg) z7 z8, Pre (ts ++ [u]) → D.nx [some .hp, some (.d (.int m)), some (.d (.int (ts.length : Int))), some (.o ((ts ++ [u]).map (thgD ((ts ++ [u]).map (·.c))))), some (.o (((ts ++ [u]).map (·.c)).map .int)), some (.o (ps.map .int)), z6, z7, z8, z9]) :
    (sThen (sSet 7 (e2 fAdd (eC (.d (.int 2))) (e1 fInt (e2 fEq (eCB (fCall sp__law_draw) (aCons (eVar 0) (aCons (eC (.d (.int 5))) aNil))) (eC (.d (.int 0))))))) (sThen (sSet 8 (e2 fAddS (e2 fIxS (eC (.d (.str ("abcdefgh" : Str)))) (eVar 2)) (eCB (fCall sp__law_pick) (aCons (eVar 0) (aCons (eLst (aCons (eC (.d (.str ("" : Str)))) (aCons (eC (.d (.str ("a" : Str)))) (aCons (eC (.d (.str ("zz" : Str)))) aNil)))) aNil))))) (sThen (sApp 3 (eTup (aCons (eVar 8) (aCons (eVar 7) (aCons (eTuple (e1 fSortL (eVar 5))) (aCons (e2 fRep1 (eTup (aCons (e2 fRep1 (eTup (aCons (eTup (aCons (eC (.d (.int 1))) (aCons (eVar 7) aNil))) aNil)) (eVar 7)) aNil)) (eCB (fCall sp__law_size) (aCons (eVar 4) (aCons (eVar 5) aNil)))) aNil))))))
  (sThen (sApp 4 (eVar 7))
  sNil)))) D [some .hp, some (.d (.int m)), some (.d (.int (ts.length : Int))), some (.o (ts.map (thgD (ts.map (·.c))))), some (.o ((ts.map (·.c)).map .int)), some (.o (ps.map .int)), z6, z7, z8, z9] :=
  ln_7 fun c h23 => ln_8 h8 fun nm n1 n2 => ln_9 h8 hp sq lp h23 (by
    have hp2 : Pre (ts ++ [⟨nm, c, srt ps⟩]) := hp.snoc n1 n2 h23 ⟨srt_lt sq.nd, by rw [(srt_perm ps).length_eq]; exact lp, fun x hx => sq.r x (srt_mem.mp hx)⟩
    have := k ⟨nm, c, srt ps⟩ (some (.d (.int c))) (some (.d (.str nm))) hp2
    rw [List.map_append, List.map_singleton] at this
    rw [show ts.map (thgD ((ts ++ [(⟨nm, c, srt ps⟩ : Thg)]).map (·.c))) = ts.map (thgD (ts.map (·.c))) from List.map_congr_left (thgD_ext hp _)] at this
    rw [show thgD ((ts ++ [(⟨nm, c, srt ps⟩ : Thg)]).map (·.c)) ⟨nm, c, srt ps⟩ = thgD (ts.map (·.c)) ⟨nm, c, srt ps⟩ by
      unfold thgD prd
      rw [List.map_append, List.map_singleton, prd_ext fun x hx => by rw [List.length_map]; exact sq.r x (srt_mem.mp hx)]] at this
    rw [List.map_append (f := fun t : Thg => t.c), List.map_append] at this
    exact this)
end K20
set_option Elab.async false
set_option linter.all false
set_option maxRecDepth 100000
set_option maxHeartbeats 1000000
namespace K20
open PySem PySem.Spec PyProof.Rows L2 DL
theorem ln_out {T : EV → Prop} {m : Int} (h1 : 1 ≤ m) (h8 : m ≤ 8) (k : ∀ ts : List Thg, TsOk ts → (ts.length : Int) = m → T (.d (tsD ts))) : ∀ {n : Nat} {ts : List Thg} {z2 z5 z6 z7 z8 z9 : Option EV}, Pre ts → ((ts.length : Int) + n = m) →
    forGo (gN 2) (sThen (sSet 5 (eLst aNil))
  (sThen (sFor (iR (eCB (fCall sp__law_draw) (aCons (eVar 0) (aCons (eC (.d (.int 4))) aNil)))) (gN 6) (sThen (sSet 9 (eCB (fCall sp__law_draw) (aCons (eVar 0) (aCons (e2 fAdd (eVar 2) (eC (.d (.int 1)))) aNil))))
  (sThen (sIf (bAnd (eT (e2 fLt (eVar 9) (eVar 2))) (eT (e2 (fIn true) (eVar 9) (eVar 5)))) (sThen (sApp 5 (eVar 9))
  sNil) sNil)
  sNil)))
  (sThen (sSet 7 (e2 fAdd (eC (.d (.int 2))) (e1 fInt (e2 fEq (eCB (fCall sp__law_draw) (aCons (eVar 0) (aCons (eC (.d (.int 5))) aNil))) (eC (.d (.int 0)))))))
  (sThen (sSet 8 (e2 fAddS (e2 fIxS (eC (.d (.str ("abcdefgh" : Str)))) (eVar 2)) (eCB (fCall sp__law_pick) (aCons (eVar 0) (aCons (eLst (aCons (eC (.d (.str ("" : Str)))) (aCons (eC (.d (.str ("a" : Str)))) (aCons (eC (.d (.str ("zz" : Str)))) aNil)))) aNil)))))
  (sThen (sApp 3 (eTup (aCons (eVar 8) (aCons (eVar 7) (aCons (eTuple (e1 fSortL (eVar 5))) (aCons (e2 fRep1 (eTup (aCons (e2 fRep1 (eTup (aCons (eTup (aCons (eC (.d (.int 1))) (aCons (eVar 7) aNil))) aNil)) (eVar 7)) aNil)) (eCB (fCall sp__law_size) (aCons (eVar 4) (aCons (eVar 5) aNil)))) aNil))))))
  (sThen (sApp 4 (eVar 7))
  sNil))))))
      { nx := sThen (sRet (eTuple (eVar 3))) sNil { nx := fun x => T (EV.d PyData.none), rt := T }, rt := T }
      ((List.range' ts.length n).map fun (i : Nat) => EV.d (.int (i : Int))) [some .hp, some (.d (.int m)), z2, some (.o (ts.map (thgD (ts.map (·.c))))), some (.o ((ts.map (·.c)).map .int)), z5, z6, z7, z8, z9]
  | 0, ts, z2, z5, z6, z7, z8, z9, hp, hl => by
    exact k ts (hp.ok (by omega) (by omega)) (by omega)
  | n + 1, ts, z2, z5, z6, z7, z8, z9, hp, hl => by
    have ih := fun ts z2 z5 z6 z7 z8 z9 hp hl => @ln_out T m h1 h8 k n ts z2 z5 z6 z7 z8 z9 hp hl
    rw [List.range'_succ, List.map_cons, r_forC]
    refine ⟨rfl, rfl, 4, rfl, by decide, by decide, fun v v0 v1 => ⟨.inl rfl, show v ≤ 100000 by omega, show -100000 ≤ v by omega, ?_⟩⟩
    refine ln_in (i := (ts.length : Int)) (by omega) (by omega) rfl (ps := []) (fun r h => ?_) ⟨List.nodup_nil, fun x hx => absurd hx List.not_mem_nil⟩ (by simp; omega) fun ps z6 z9 sq lp => ?_
    · obtain ⟨j, _, rfl⟩ := List.mem_map.mp h
      exact ⟨_, rfl⟩
    refine ln_tail (by omega) hp sq lp fun u z7 z8 hp2 => ?_
    have := ih (ts ++ [u]) (some (.d (.int (ts.length : Int)))) (some (.o (ps.map .int))) z6 z7 z8 z9 hp2 (by rw [List.length_append, List.length_singleton]; omega)
    rw [List.length_append, List.length_singleton] at this
    exact this
theorem b__law_net : BodyD T__law_net 10 2 sp__law_net := by
  rintro rs T - ⟨m, rfl, h1, h8, k⟩
  simp [T__law_net, ent, -r_forC]
  refine ⟨by omega, by omega, ?_⟩
  rw [List.range_eq_range']
  exact ln_out h1 h8 k (n := m.toNat) (ts := []) ⟨fun i t e => by simp at e, fun t ht => absurd ht List.not_mem_nil, fun i t e => by simp at e⟩ (by simp; omega)
end K20
set_option Elab.async false
set_option linter.all false
set_option maxRecDepth 100000
set_option maxHeartbeats 1000000
namespace K20
open PySem PySem.Spec PyProof.Rows L2 DL
def hcell (x : Int) : Int := 2 * (if x < 0 then -x else x) + (if x < 0 then 1 else 0)
theorem heap_for {D : DEnds} {v0 v2 : Option EV} : ∀ {ms : List Int} {st : Int} {z1 : Option EV}, (0 ≤ st ∧ st < 2147483647) → (∀ st z1, 0 ≤ st ∧ st < 2147483647 → D.nx [v0, z1, v2, some (.d (.int st))]) →
    forGo (gN 1) (sThen (sSet 3 (e2 fMod (e1 fInt (e2 fAdd (e2 fAdd (e2 fMul (eVar 3) (eC (.d (.int 69621)))) (e2 fMod (e1 fInt (eVar 1)) (eC (.d (.int 2147483563))))) (eC (.d (.int 29))))) (eC (.d (.int 2147483647))))) sNil) D (ms.map fun x => EV.d (.int x)) [v0, z1, v2, some (.d (.int st))]
  | [], st, z1, h, k => k st z1 h
  | x :: ms, st, z1, h, k => by
    rw [List.map_cons, r_forC]
    have ih := fun st z1 h => @heap_for D v0 v2 ms st z1 h k
    simp [-r_forC]
    refine ⟨.inl ⟨by omega, by omega⟩, ih _ _ ⟨Int.emod_nonneg _ (by decide), Int.emod_lt_of_pos _ (by decide)⟩⟩
theorem b__law_heap : BodyD T__law_heap 4 1 sp__law_heap := by
  rintro rs T - ⟨ns, rfl, hb, k⟩
  simp [T__law_heap, ent, -r_forC]
  have hm : ∀ x ∈ DL.cut ns none (some 60), x ∈ ns := fun x hx => by
    unfold DL.cut at hx
    exact List.mem_of_mem_drop (List.mem_of_mem_take hx)
  have hl : (DL.cut ns none (some 60)).length ≤ 60 := by
    show (DL.cut ns none (some ((60 : Nat) : Int))).length ≤ 60
    rw [cut_to, List.length_take]; omega
  generalize DL.cut ns none (some 60) = cs at hm hl
  refine lc_mapd (c := EV.d ∘ PyData.int) (f := fun x => .int (hcell x)) (fun x hx Kt Kf h => ?_) (by omega) ?_
  · unfold hcell at h
    by_cases e : x < 0
    · simp [e] at h ⊢
      exact ⟨.inl ⟨by decide, by decide⟩, h⟩
    · simp [e] at h ⊢
      exact ⟨.inl ⟨by decide, by decide⟩, h⟩
  rw [show (cs.map fun x => PyData.int (hcell x)).map EV.d = (cs.map hcell).map fun x => EV.d (.int x) by rw [List.map_map, List.map_map]; rfl]
  refine heap_for (ms := cs.map hcell) (st := 30211) ⟨by decide, by decide⟩ fun st z1 hst => ?_
  have em : (cs.map fun x => PyData.int (hcell x)) = (cs.map hcell).map .int := by rw [List.map_map]; rfl
  rw [em]
  have hp : ∀ n ∈ cs.map hcell, 0 ≤ n ∧ n.natAbs < 2 ^ 1048600 := fun n hn => by
    obtain ⟨x, hx, rfl⟩ := List.mem_map.mp hn
    have hx := hb x (hm x hx)
    have e : (2 : Nat) ^ 1048600 = 2 ^ 1048590 * 1024 := by
      rw [show (1024 : Nat) = 2 ^ 10 by decide, ← Nat.pow_add]
    unfold hcell
    rw [e]
    generalize (2 : Nat) ^ 1048590 = B at *
    split <;> omega
  have hl2 : (cs.map hcell).length ≤ 60 := by rw [List.length_map]; exact hl
  generalize cs.map hcell = ms at hp hl2
  simp [-r_forC]
  refine lc_filt (c := EV.d ∘ PyData.int) (p := fun x => decide ((10 : Int) ^ 18 ≤ x)) (f := .int) (fun x hx Kt Kf h => ?_) (by omega) ?_
  · simp
    refine ⟨⟨by decide, by decide, by decide⟩, ?_⟩
    by_cases e : (1000000000000000000 : Int) ≤ x
    · simpa [e] using h
    · simpa [e] using h
  · have := k ((ms.filter fun x => decide ((10 : Int) ^ 18 ≤ x)).reverse) st ⟨fun n hn => hp n (List.mem_filter.mp (List.mem_reverse.mp hn)).1, by
      rw [List.length_reverse]
      have := List.length_filter_le (fun x => decide ((10 : Int) ^ 18 ≤ x)) ms
      omega, hst.1, hst.2⟩
    rw [List.map_reverse] at this
    exact this
end K20
set_option Elab.async false
set_option linter.all false
set_option maxRecDepth 100000
set_option maxHeartbeats 1000000
namespace K20
open PySem PySem.Spec PyProof.Rows L2 DL
/-! ### the ring: sorting that the kernel can run -/
def ins (x : Int) : List Int → List Int
  | [] => [x]
  | y :: ys => if x ≤ y then x :: y :: ys else y :: ins x ys
def isrt : List Int → List Int
  | [] => []
  | x :: xs => ins x (isrt xs)
theorem ins_perm (x : Int) : ∀ ys, (ins x ys).Perm (x :: ys)
  | [] => List.Perm.refl _
  | y :: ys => by
    unfold ins
    split
    · exact List.Perm.refl _
    · exact ((ins_perm x ys).cons y).trans (List.Perm.swap x y ys)
theorem ins_sorted {x : Int} : ∀ {ys : List Int}, ys.Pairwise (· ≤ ·) → (ins x ys).Pairwise (· ≤ ·)
  | [], _ => by simp [ins]
  | y :: ys, h => by
    have h' := List.pairwise_cons.mp h
    unfold ins
    split
    · rename_i e
      refine List.pairwise_cons.mpr ⟨fun z hz => ?_, h⟩
      rcases List.mem_cons.mp hz with rfl | hz
      · exact e
      · exact Int.le_trans e (h'.1 z hz)
    · refine List.pairwise_cons.mpr ⟨fun z hz => ?_, ins_sorted h'.2⟩
      rcases List.mem_cons.mp ((ins_perm x ys).mem_iff.mp hz) with rfl | hz
      · omega
      · exact h'.1 z hz
theorem isrt_perm : ∀ xs, (isrt xs).Perm xs
  | [] => List.Perm.refl _
  | x :: xs => (ins_perm x _).trans ((isrt_perm xs).cons x)
theorem isrt_sorted : ∀ xs, (isrt xs).Pairwise (· ≤ ·)
  | [] => List.Pairwise.nil
  | x :: xs => ins_sorted (isrt_sorted xs)
theorem srt_is : srt = isrt := funext fun xs => (srt_eq (isrt_perm xs) (isrt_sorted xs)).symm
def ring : List (List Int) := [[0, 1], [1, 2], [2, 3], [0, 3]]
theorem ring_cls : cls ring [0, 2, 3, 1] = [[0, 1, 3], [1, 2, 3], [1, 3], [1]] := by
  unfold cls cl; rw [srt_is]; decide +kernel
theorem ring_settle : settle ring [2, 0, 3, 1] = [0, 2, 3, 1] := by
  unfold settle cls cl; rw [srt_is]; decide +kernel
theorem ring_elim : elim ring [0, 2] = [[1, 3], [1, 3]] := by
  show elim1 (elim1 ring 0) 2 = _
  unfold elim1 jn; rw [srt_is]; decide +kernel
theorem ring_flws : flws (cls ring [2, 0, 3, 1]) [2, 0, 3, 1] = [some 3, some 3, some 1, none] := by
  unfold cls cl; rw [srt_is]; decide +kernel
theorem grd_0 (cs ss l f) : grd cs ss 0 l f = f := rfl
theorem grd_s (cs : List Int) (ss n l f) : grd cs ss (n + 1) l f = grd cs ss n (l.erase (gpick (fun v => prd cs (isrt ((swps ss f v (ss.length + 1) [v]).filter fun a => decide (a = v) || decide (a ∉ f)))) l)) (f ++ [gpick (fun v => prd cs (isrt ((swps ss f v (ss.length + 1) [v]).filter fun a => decide (a = v) || decide (a ∉ f)))) l]) := by
  rw [← srt_is]; rfl
theorem ring_grd : grd [3, 2, 2, 2] ring 4 [0, 1, 2, 3] [] = [2, 0, 1, 3] := by
  rw [grd_s, grd_s, grd_s, grd_s, grd_0]
  decide +kernel
end K20
set_option Elab.async false
set_option linter.all false
set_option maxRecDepth 100000
set_option maxHeartbeats 1000000
namespace K20
open PySem PySem.Spec PyProof.Rows L2 DL
theorem ring_sc : Sc 4 ring := ⟨by decide, by decide, fun s hs => by
  simp [ring] at hs
  rcases hs with rfl | rfl | rfl | rfl <;> exact ⟨by decide, by decide⟩⟩
theorem nil_sc (b : Int) (h : b ≤ 8) : Sc b [] := ⟨h, by decide, fun s hs => absurd hs List.not_mem_nil⟩
theorem nil_sq (b : Int) : Sq b [] := ⟨List.nodup_nil, fun x hx => absurd hx List.not_mem_nil⟩
theorem lr_0 {z0 z1 z2 z4 z5 z6 z7 z8 z9 z10 z11 z12 z13 z14 z15 z16 z17 : Option EV} {R : Bool → Prop} (k : R false) : (bOr (eT (e2 fNe (eCB (fCall sp_clusters_by) (aCons (eVar 3) (aCons (eTup (aCons (eC (.d (.int 0))) (aCons (eC (.d (.int 2))) (aCons (eC (.d (.int 3))) (aCons (eC (.d (.int 1))) aNil))))) aNil))) (eTup (aCons (eTup (aCons (eC (.d (.int 0))) (aCons (eC (.d (.int 1))) (aCons (eC (.d (.int 3))) aNil)))) (aCons (eTup (aCons (eC (.d (.int 1))) (aCons (eC (.d (.int 2))) (aCons (eC (.d (.int 3))) aNil)))) (aCons (eTup (aCons (eC (.d (.int 1))) (aCons (eC (.d (.int 3))) aNil))) (aCons (eTup (aCons (eC (.d (.int 1))) aNil)) aNil))))))) (eT (e2 fNe (eCB (fCall sp_settled_sequence) (aCons (eVar 3) (aCons (eTup (aCons (eC (.d (.int 2))) (aCons (eC (.d (.int 0))) (aCons (eC (.d (.int 3))) (aCons (eC (.d (.int 1))) aNil))))) aNil))) (eTup (aCons (eC (.d (.int 0))) (aCons (eC (.d (.int 2))) (aCons (eC (.d (.int 3))) (aCons (eC (.d (.int 1))) aNil)))))))) [z0, z1, z2, some (.d (tS ring)), z4, z5, z6, z7, z8, z9, z10, z11, z12, z13, z14, z15, z16, z17] R := by
  simp
  refine ⟨4, ring, [0, 2, 3, 1], rfl, ring_sc, ⟨by decide, by decide⟩, ?_⟩
  rw [ring_cls]
  simp [tS, tI, SeqAt.shaped, PyData.canLay0, PyData.canLayAll0, PyData.depth, PyData.depthAll, PyData.eqv, PyData.eqvAll]
  refine ⟨4, ring, [2, 0, 3, 1], rfl, ring_sc, ⟨by decide, by decide⟩, ?_⟩
  rw [ring_settle]
  simp [tS, tI, dt, SeqAt.shaped, PyData.canLay0, PyData.canLayAll0, PyData.depth, PyData.depthAll, PyData.eqv, PyData.eqvAll]
  exact k
theorem lr_1 {z0 z1 z2 z4 z5 z6 z7 z8 z9 z10 z11 z12 z13 z14 z15 z16 z17 : Option EV} {R : Bool → Prop} (k : R false) : (bOr (eT (e2 fNe (eCB (fCall sp_scopes_left) (aCons (eVar 3) (aCons (eTup (aCons (eC (.d (.int 0))) (aCons (eC (.d (.int 2))) aNil))) aNil))) (eTup (aCons (eTup (aCons (eC (.d (.int 1))) (aCons (eC (.d (.int 3))) aNil))) (aCons (eTup (aCons (eC (.d (.int 1))) (aCons (eC (.d (.int 3))) aNil))) aNil))))) (eT (e2 fNe (eCB (fCall sp_flows_by) (aCons (eVar 3) (aCons (eTup (aCons (eC (.d (.int 2))) (aCons (eC (.d (.int 0))) (aCons (eC (.d (.int 3))) (aCons (eC (.d (.int 1))) aNil))))) aNil))) (eTup (aCons (eC (.d (.int 3))) (aCons (eC (.d (.int 3))) (aCons (eC (.d (.int 1))) (aCons (eC (.d .none)) aNil)))))))) [z0, z1, z2, some (.d (tS ring)), z4, z5, z6, z7, z8, z9, z10, z11, z12, z13, z14, z15, z16, z17] R := by
  simp
  refine ⟨4, ring, [0, 2], rfl, ring_sc, by decide, ⟨by decide, by decide⟩, ?_⟩
  rw [ring_elim]
  simp [tS, tI, SeqAt.shaped, PyData.canLay0, PyData.canLayAll0, PyData.depth, PyData.depthAll, PyData.eqv, PyData.eqvAll]
  refine ⟨4, ring, [2, 0, 3, 1], rfl, ring_sc, ⟨by decide, by decide⟩, ?_⟩
  rw [ring_flws]
  simp [tO, oD, SeqAt.shaped, PyData.canLay0, PyData.canLayAll0, PyData.depth, PyData.depthAll, PyData.eqv, PyData.eqvAll]
  exact k
theorem lr_2 {z0 z1 z2 z4 z5 z6 z7 z8 z9 z10 z11 z12 z13 z14 z15 z16 z17 : Option EV} {R : Bool → Prop} (k : R false) : (eT (e2 fNe (eCB (fCall sp_greedy_sequence) (aCons (eTup (aCons (eC (.d (.int 3))) (aCons (eC (.d (.int 2))) (aCons (eC (.d (.int 2))) (aCons (eC (.d (.int 2))) aNil))))) (aCons (eVar 3) (aCons (eTup (aCons (eC (.d (.int 0))) (aCons (eC (.d (.int 1))) (aCons (eC (.d (.int 2))) (aCons (eC (.d (.int 3))) aNil))))) aNil)))) (eTup (aCons (eC (.d (.int 2))) (aCons (eC (.d (.int 0))) (aCons (eC (.d (.int 1))) (aCons (eC (.d (.int 3))) aNil))))))) [z0, z1, z2, some (.d (tS ring)), z4, z5, z6, z7, z8, z9, z10, z11, z12, z13, z14, z15, z16, z17] R := by
  simp
  refine ⟨[3, 2, 2, 2], ring, [0, 1, 2, 3], rfl, by decide, ring_sc, ⟨by decide, by decide⟩, by decide, ?_⟩
  show _
  rw [show ([0, 1, 2, 3] : List Int).length = 4 from rfl, ring_grd]
  simp [tS, tI, SeqAt.shaped, PyData.canLay0, PyData.canLayAll0, PyData.depth, PyData.depthAll, PyData.eqv, PyData.eqvAll]
  exact k
theorem lr_3 {z0 z1 z2 z4 z5 z6 z7 z8 z9 z10 z11 z12 z13 z14 z15 z16 z17 : Option EV} {R : Bool → Prop} (k : R false) : (eT (e2 fNe (eTup (aCons (eCB (fCall sp_cost_by) (aCons (eTup (aCons (eC (.d (.int 2))) aNil)) (aCons (eTup aNil) (aCons (eTup aNil) (aCons (eC (.d (.str ("greatest" : Str)))) aNil))))) (aCons (eCB (fCall sp_cost_by) (aCons (eTup aNil) (aCons (eTup aNil) (aCons (eTup aNil) (aCons (eC (.d (.str ("total" : Str)))) aNil))))) (aCons (eCB (fCall sp_cost_by) (aCons (eTup (aCons (eC (.d (.int 5))) aNil)) (aCons (eTup aNil) (aCons (eTup (aCons (eC (.d (.int 0))) aNil)) (aCons (eC (.d (.str ("total" : Str)))) aNil))))) aNil)))) (eTup (aCons (eC (.d (.int 0))) (aCons (eC (.d (.int 0))) (aCons (eC (.d (.int 5))) aNil)))))) [z0, z1, z2, some (.d (tS ring)), z4, z5, z6, z7, z8, z9, z10, z11, z12, z13, z14, z15, z16, z17] R := by
  simp
  refine ⟨[2], [], [], by decide, nil_sc _ (by decide), nil_sq _, .inl ⟨rfl, ?_⟩⟩
  refine ⟨[], [], [], by decide, nil_sc _ (by decide), nil_sq _, .inr ⟨rfl, ?_⟩⟩
  refine ⟨[5], [], [0], by decide, nil_sc _ (by decide), ⟨by decide, by decide⟩, .inr ⟨rfl, ?_⟩⟩
  have e1 : (szs [2] [] []).foldl max 0 = 0 := rfl
  have e2 : (szs [] [] []).sum = 0 := rfl
  have e3 : (szs [5] [] [0]).sum = 5 := by unfold szs cls cl; rw [srt_is]; decide +kernel
  rw [e1, e2, e3]
  simp [tS, tI, frz, SeqAt.shaped, PyData.canLay0, PyData.canLayAll0, PyData.depth, PyData.depthAll, PyData.eqv, PyData.eqvAll]
  exact k
theorem lr_end {z0 z1 z2 z4 z5 z6 z7 z8 z9 z10 z11 z12 z13 z14 z15 z16 z17 : Option EV} {T : EV → Prop} (k : T (.d (.bool true))) : (eAnd (e2 fEq (eTup (aCons (eCB (fCall sp_clusters_by) (aCons (eTup aNil) (aCons (eTup aNil) aNil))) (aCons (eCB (fCall sp_settled_sequence) (aCons (eTup aNil) (aCons (eTup aNil) aNil))) (aCons (eCB (fCall sp_scopes_left) (aCons (eTup aNil) (aCons (eTup aNil) aNil))) (aCons (eCB (fCall sp_greedy_sequence) (aCons (eTup aNil) (aCons (eTup aNil) (aCons (eTup aNil) aNil)))) aNil))))) (eTup (aCons (eTup aNil) (aCons (eTup aNil) (aCons (eTup aNil) (aCons (eTup aNil) aNil)))))) (e2 fIsB (eCB (fCall sp_is_sequence) (aCons (eTup aNil) (aCons (eTup aNil) aNil))) (eC (.d (.bool true))))) [z0, z1, z2, some (.d (tS ring)), z4, z5, z6, z7, z8, z9, z10, z11, z12, z13, z14, z15, z16, z17] T := by
  simp
  refine ⟨0, [], [], rfl, nil_sc _ (by decide), nil_sq _, ?_⟩
  refine ⟨0, [], [], rfl, nil_sc _ (by decide), nil_sq _, ?_⟩
  refine ⟨0, [], [], rfl, nil_sc _ (by decide), by decide, nil_sq _, ?_⟩
  refine ⟨[], [], [], rfl, by decide, nil_sc _ (by decide), nil_sq _, by decide, ?_⟩
  have e1 : settle [] [] = [] := by unfold settle; rfl
  rw [e1]
  simp [tS, tI, frz, cls, elim, grd, SeqAt.shaped, PyData.canLay0, PyData.canLayAll0, PyData.depth, PyData.depthAll, PyData.eqv, PyData.eqvAll]
  refine ⟨[], .tuple [], rfl, fun v hv => absurd hv List.not_mem_nil, fun xs e => by cases e; decide, ?_⟩
  have e3 : isq [] (.tuple []) = true := by unfold isq isT; rw [srt_is]; rfl
  rw [e3]
  simp [fIsB]
  exact k
theorem then_if {tc : TB} {t u : TSd} {D : DEnds} {ρ : DL.Env} (h : ∀ R : Bool → Prop, R false → tc ρ R) (k : u D ρ) : sThen (sIf tc t sNil) u D ρ := by
  rw [r_then, r_if]
  exact h _ ⟨fun h => (by cases h), fun _ => k⟩
theorem law_ring {T : EV → Prop} {z0 z1 z2 z3 z4 z5 z6 z7 z8 z9 z10 z11 z12 z13 z14 z15 z16 z17 : Option EV} (k : T (.d (.bool true))) :
  (sThen (sSet 3 (eTup (aCons (eTup (aCons (eC (.d (.int 0))) (aCons (eC (.d (.int 1))) aNil))) (aCons (eTup (aCons (eC (.d (.int 1))) (aCons (eC (.d (.int 2))) aNil))) (aCons (eTup (aCons (eC (.d (.int 2))) (aCons (eC (.d (.int 3))) aNil))) (aCons (eTup (aCons (eC (.d (.int 0))) (aCons (eC (.d (.int 3))) aNil))) aNil))))))
  (sThen (sIf (bOr (eT (e2 fNe (eCB (fCall sp_clusters_by) (aCons (eVar 3) (aCons (eTup (aCons (eC (.d (.int 0))) (aCons (eC (.d (.int 2))) (aCons (eC (.d (.int 3))) (aCons (eC (.d (.int 1))) aNil))))) aNil))) (eTup (aCons (eTup (aCons (eC (.d (.int 0))) (aCons (eC (.d (.int 1))) (aCons (eC (.d (.int 3))) aNil)))) (aCons (eTup (aCons (eC (.d (.int 1))) (aCons (eC (.d (.int 2))) (aCons (eC (.d (.int 3))) aNil)))) (aCons (eTup (aCons (eC (.d (.int 1))) (aCons (eC (.d (.int 3))) aNil))) (aCons (eTup (aCons (eC (.d (.int 1))) aNil)) aNil))))))) (eT (e2 fNe (eCB (fCall sp_settled_sequence) (aCons (eVar 3) (aCons (eTup (aCons (eC (.d (.int 2))) (aCons (eC (.d (.int 0))) (aCons (eC (.d (.int 3))) (aCons (eC (.d (.int 1))) aNil))))) aNil))) (eTup (aCons (eC (.d (.int 0))) (aCons (eC (.d (.int 2))) (aCons (eC (.d (.int 3))) (aCons (eC (.d (.int 1))) aNil)))))))) (sThen (sRet (eC (.d (.bool false))))
  sNil) sNil)
  (sThen (sIf (bOr (eT (e2 fNe (eCB (fCall sp_scopes_left) (aCons (eVar 3) (aCons (eTup (aCons (eC (.d (.int 0))) (aCons (eC (.d (.int 2))) aNil))) aNil))) (eTup (aCons (eTup (aCons (eC (.d (.int 1))) (aCons (eC (.d (.int 3))) aNil))) (aCons (eTup (aCons (eC (.d (.int 1))) (aCons (eC (.d (.int 3))) aNil))) aNil))))) (eT (e2 fNe (eCB (fCall sp_flows_by) (aCons (eVar 3) (aCons (eTup (aCons (eC (.d (.int 2))) (aCons (eC (.d (.int 0))) (aCons (eC (.d (.int 3))) (aCons (eC (.d (.int 1))) aNil))))) aNil))) (eTup (aCons (eC (.d (.int 3))) (aCons (eC (.d (.int 3))) (aCons (eC (.d (.int 1))) (aCons (eC (.d .none)) aNil)))))))) (sThen (sRet (eC (.d (.bool false))))
  sNil) sNil)
  (sThen (sIf (eT (e2 fNe (eCB (fCall sp_greedy_sequence) (aCons (eTup (aCons (eC (.d (.int 3))) (aCons (eC (.d (.int 2))) (aCons (eC (.d (.int 2))) (aCons (eC (.d (.int 2))) aNil))))) (aCons (eVar 3) (aCons (eTup (aCons (eC (.d (.int 0))) (aCons (eC (.d (.int 1))) (aCons (eC (.d (.int 2))) (aCons (eC (.d (.int 3))) aNil))))) aNil)))) (eTup (aCons (eC (.d (.int 2))) (aCons (eC (.d (.int 0))) (aCons (eC (.d (.int 1))) (aCons (eC (.d (.int 3))) aNil))))))) (sThen (sRet (eC (.d (.bool false))))
  sNil) sNil)
  (sThen (sIf (eT (e2 fNe (eTup (aCons (eCB (fCall sp_cost_by) (aCons (eTup (aCons (eC (.d (.int 2))) aNil)) (aCons (eTup aNil) (aCons (eTup aNil) (aCons (eC (.d (.str ("greatest" : Str)))) aNil))))) (aCons (eCB (fCall sp_cost_by) (aCons (eTup aNil) (aCons (eTup aNil) (aCons (eTup aNil) (aCons (eC (.d (.str ("total" : Str)))) aNil))))) (aCons (eCB (fCall sp_cost_by) (aCons (eTup (aCons (eC (.d (.int 5))) aNil)) (aCons (eTup aNil) (aCons (eTup (aCons (eC (.d (.int 0))) aNil)) (aCons (eC (.d (.str ("total" : Str)))) aNil))))) aNil)))) (eTup (aCons (eC (.d (.int 0))) (aCons (eC (.d (.int 0))) (aCons (eC (.d (.int 5))) aNil)))))) (sThen (sRet (eC (.d (.bool false))))
  sNil) sNil)
  (sThen (sRet (eAnd (e2 fEq (eTup (aCons (eCB (fCall sp_clusters_by) (aCons (eTup aNil) (aCons (eTup aNil) aNil))) (aCons (eCB (fCall sp_settled_sequence) (aCons (eTup aNil) (aCons (eTup aNil) aNil))) (aCons (eCB (fCall sp_scopes_left) (aCons (eTup aNil) (aCons (eTup aNil) aNil))) (aCons (eCB (fCall sp_greedy_sequence) (aCons (eTup aNil) (aCons (eTup aNil) (aCons (eTup aNil) aNil)))) aNil))))) (eTup (aCons (eTup aNil) (aCons (eTup aNil) (aCons (eTup aNil) (aCons (eTup aNil) aNil)))))) (e2 fIsB (eCB (fCall sp_is_sequence) (aCons (eTup aNil) (aCons (eTup aNil) aNil))) (eC (.d (.bool true))))))
  sNil)))))) { nx := fun _ => T (EV.d PyData.none), rt := T } [z0, z1, z2, z3, z4, z5, z6, z7, z8, z9, z10, z11, z12, z13, z14, z15, z16, z17] := by
  refine ⟨rfl, ?_⟩
  refine then_if (fun R k => lr_0 k) ?_
  refine then_if (fun R k => lr_1 k) ?_
  refine then_if (fun R k => lr_2 k) ?_
  refine then_if (fun R k => lr_3 k) ?_
  exact lr_end k
end K20
set_option Elab.async false
set_option linter.all false
set_option maxRecDepth 100000
set_option maxHeartbeats 1000000
namespace K20
open PySem PySem.Spec PyProof.Rows L2 DL
def rg (m : Int) : List Int := (List.range m.toNat).map fun (i : Nat) => (i : Int)
theorem rg_tI (m : Int) : PyData.tuple ((List.range m.toNat).map fun (i : Nat) => PyData.int (i : Int)) = tI (rg m) := by
  unfold tI rg; rw [List.map_map]; rfl
theorem rg_lt (m : Int) : (rg m).Pairwise (· < ·) := by
  unfold rg
  rw [List.pairwise_map]
  exact List.pairwise_lt_range.imp fun h => by omega
theorem rg_sq (m : Int) : Sq m (rg m) := ⟨(rg_lt m).imp fun h => by omega, fun x hx => by
  obtain ⟨i, hi, rfl⟩ := List.mem_map.mp hx
  have := List.mem_range.mp hi
  omega⟩
theorem rg_ne {m : Int} (h : 1 ≤ m) : rg m ≠ [] := fun e => by
  have := congrArg List.length e
  unfold rg at this
  rw [List.length_map, List.length_range] at this
  simp at this
  omega
variable {D : DEnds} {t2 : TSd} {ns : List Int}
theorem lw_0 {z2 z3 z4 z5 z6 z7 z8 z9 z10 z11 z12 z13 z14 z15 z16 z17 : Option EV}  (k : ∀ m : Int, 1 ≤ m → m ≤ 8 → t2 D [some (.scr ns), some .hp, z2, z3, some (.d (.int m)), z5, z6, z7, z8, z9, z10, z11, z12, z13, z14, z15, z16, z17]) :
  sThen (sSet 4 (e2 fAdd (eC (.d (.int 1))) (eCB (fCall sp__law_draw) (aCons (eVar 1) (aCons (eC (.d (.int 8))) aNil))))) t2 D [some (.scr ns), some .hp, z2, z3, z4, z5, z6, z7, z8, z9, z10, z11, z12, z13, z14, z15, z16, z17] := by
  simp
  refine ⟨8, rfl, by decide, by decide, fun v v0 v1 => ⟨rfl, k (1 + v) (by omega) (by omega)⟩⟩
theorem lw_5 {z2 z3 z4 z5 z7 z8 z9 z10 z12 z13 z14 z15 z16 z17 : Option EV} {b : Int} {ss : List (List Int)} {q : List Int} (hc : Sc b ss) (hq : Sq b q) (k :  t2 D [some (.scr ns), some .hp, z2, z3, z4, z5, some (.dn (tI q)), some (.d (tS (cls ss q))), z8, z9, z10, some (.d (tS ss)), z12, z13, z14, z15, z16, z17]) :
  sThen (sSet 7 (eCB (fCall sp__law_clusters) (aCons (eVar 11) (aCons (eVar 6) aNil)))) t2 D [some (.scr ns), some .hp, z2, z3, z4, z5, some (.dn (tI q)), z7, z8, z9, z10, some (.d (tS ss)), z12, z13, z14, z15, z16, z17] := by
  simp
  refine ⟨b, ss, q, rfl, hc, hq, ?_⟩
  simp
  exact k
theorem lw_3 {z2 z3 z5 z6 z7 z8 z9 z10 z11 z12 z13 z14 z15 z16 z17 : Option EV} {m : Int} (h1 : 1 ≤ m) (h8 : m ≤ 8) (k : ∀ lot : List Int, lot.Pairwise (· < ·) → Sq m lot → t2 D [some (.scr ns), some .hp, z2, z3, some (.d (.int m)), some (.d (tI lot)), z6, z7, z8, z9, z10, z11, z12, z13, z14, z15, z16, z17]) :
  sThen (sSet 5 (eTuple (eLc (iR (eVar 4)) (gN 16) (eT (e2 fGt (eCB (fCall sp__law_draw) (aCons (eVar 1) (aCons (eC (.d (.int 4))) aNil))) (eC (.d (.int 0))))) (eVar 16) [16]))) t2 D [some (.scr ns), some .hp, z2, z3, some (.d (.int m)), z5, z6, z7, z8, z9, z10, z11, z12, z13, z14, z15, z16, z17] := by
  simp
  refine ⟨by omega, by omega, ?_⟩
  rw [show ((List.range m.toNat).map fun (i : Nat) => EV.d (.int (i : Int))) = (rg m).map (EV.d ∘ PyData.int) by unfold rg; rw [List.map_map]; rfl]
  refine lc_sub (p := fun _ => True) (acc := []) (fun x hx Kt Kf hT hF => ?_) (by unfold rg; rw [List.length_map, List.length_range]; simp; omega) fun ys hy _ => ?_
  · simp
    refine ⟨4, rfl, by decide, by decide, fun v v0 v1 => ?_⟩
    by_cases e : 0 < v
    · simp [e]; exact hT trivial
    · simp [e]; exact hF
  · exact k ys ((rg_lt m).sublist hy) ⟨((rg_lt m).sublist hy).imp fun h => by omega, fun x hx => (rg_sq m).r x (hy.subset hx)⟩
theorem lw_4 {z2 z3 z6 z7 z8 z9 z10 z11 z12 z13 z14 z15 z16 z17 : Option EV} {m : Int} {lot : List Int} (h1 : 1 ≤ m) (h8 : m ≤ 8) (hl : Sq m lot) (k : ∀ q : List Int, Sq m q → t2 D [some (.scr ns), some .hp, z2, z3, some (.d (.int m)), some (.d (tI lot)), some (.dn (tI q)), z7, z8, z9, z10, z11, z12, z13, z14, z15, z16, z17]) :
  sThen (sSet 6 (eCB (fCall sp__law_shuffled) (aCons (eVar 1) (aCons (eCB (fCall sp__law_pick) (aCons (eVar 1) (aCons (eLst (aCons (eVar 5) (aCons (eVar 5) (aCons (eTupRg (eVar 4)) aNil)))) aNil))) aNil)))) t2 D [some (.scr ns), some .hp, z2, z3, some (.d (.int m)), some (.d (tI lot)), z6, z7, z8, z9, z10, z11, z12, z13, z14, z15, z16, z17] := by
  simp
  rw [rg_tI]
  refine ⟨by omega, by omega, [tI lot, tI lot, tI (rg m)], .inl rfl, by simp, by simp, fun x hx => ?_⟩
  obtain ⟨l, rfl, hq⟩ : ∃ l : List Int, x = tI l ∧ Sq m l := by
    simp at hx
    rcases hx with rfl | rfl
    · exact ⟨_, rfl, hl⟩
    · exact ⟨_, rfl, rg_sq m⟩
  simp
  refine ⟨l, rfl, sq_len h8 hq, fun q p => ?_⟩
  exact ⟨rfl, k q (sq_perm hq p)⟩
theorem lw_7 {z2 z3 z5 z6 z7 z8 z9 z10 z12 z13 z14 z15 z16 z17 : Option EV} {m : Int} {ss : List (List Int)} (hc : Sc m ss) (h1 : 1 ≤ m) (k :  t2 D [some (.scr ns), some .hp, z2, z3, some (.d (.int m)), z5, z6, z7, z8, z9, z10, some (.d (tS ss)), z12, z13, z14, z15, z16, z17]) :
  sThen (sIf (bNot (eT (eCB (fCall sp__law_behind_right) (aCons (eVar 1) (aCons (eVar 11) (aCons (eTupRg (eVar 4)) aNil)))))) (sThen (sRet (eC (.d (.bool false))))
  sNil) sNil) t2 D [some (.scr ns), some .hp, z2, z3, some (.d (.int m)), z5, z6, z7, z8, z9, z10, some (.d (tS ss)), z12, z13, z14, z15, z16, z17] := by
  simp
  rw [rg_tI]
  refine ⟨by omega, by have := hc.b8; omega, m, ss, rg m, rfl, hc, rg_sq m, rg_ne h1, ?_⟩
  simp
  exact k
theorem lw_8 {z2 z3 z4 z6 z7 z8 z9 z12 z13 z14 z15 z16 z17 : Option EV} {cs lot : List Int} {ss : List (List Int)} (hcs : ∀ c ∈ cs, 0 ≤ c ∧ c ≤ 1000) (hc : Sc cs.length ss) (hl : Sq cs.length lot) (hp : lot.Pairwise (· < ·)) (k :  t2 D [some (.scr ns), some .hp, z2, z3, z4, some (.d (tI lot)), z6, z7, some (.d (tI (grd cs ss lot.length lot []))), z9, some (.d (tI cs)), some (.d (tS ss)), z12, z13, z14, z15, z16, z17]) :
  sThen (sSet 8 (eCB (fCall sp__law_greedy) (aCons (eVar 10) (aCons (eVar 11) (aCons (eVar 5) aNil))))) t2 D [some (.scr ns), some .hp, z2, z3, z4, some (.d (tI lot)), z6, z7, z8, z9, some (.d (tI cs)), some (.d (tS ss)), z12, z13, z14, z15, z16, z17] := by
  simp
  refine ⟨cs, ss, lot, rfl, hcs, hc, hl, hp, ?_⟩
  simp
  exact k
theorem lw_6 {z2 z3 z4 z5 z8 z9 z12 z13 z14 z15 z16 z17 : Option EV} {cs q : List Int} {ss : List (List Int)} (hcs : ∀ c ∈ cs, 0 ≤ c ∧ c ≤ 1000) (hc : Sc cs.length ss) (h50 : ss.length ≤ 50) (hq : Sq cs.length q) (k :  t2 D [some (.scr ns), some .hp, z2, z3, z4, z5, some (.dn (tI q)), some (.d (tS (cls ss q))), z8, z9, some (.d (tI cs)), some (.d (tS ss)), z12, z13, z14, z15, z16, z17]) :
  sThen (sIf (bOr (bNot (eT (eCB (fCall sp__law_costs_right) (aCons (eVar 10) (aCons (eVar 11) (aCons (eVar 6) (aCons (eVar 7) aNil))))))) (bNot (eT (eCB (fCall sp__law_flows_right) (aCons (eVar 1) (aCons (eVar 11) (aCons (eVar 6) (aCons (eVar 7) aNil)))))))) (sThen (sRet (eC (.d (.bool false))))
  sNil) sNil) t2 D [some (.scr ns), some .hp, z2, z3, z4, z5, some (.dn (tI q)), some (.d (tS (cls ss q))), z8, z9, some (.d (tI cs)), some (.d (tS ss)), z12, z13, z14, z15, z16, z17] := by
  simp
  refine ⟨cs, ss, q, rfl, hcs, hc, h50, hq, ?_⟩
  simp
  refine ⟨_, ss, q, rfl, hc, hq, ?_⟩
  simp
  exact k
end K20
set_option Elab.async false
set_option linter.all false
set_option maxRecDepth 100000
set_option maxHeartbeats 1000000
namespace K20
open PySem PySem.Spec PyProof.Rows L2 DL
theorem grd_perm {cs : List Int} {ss : List (List Int)} : ∀ {n : Nat} {left found : List Int}, left.length = n → (grd cs ss n left found).Perm (found ++ left)
  | 0, left, found, h => by
    rw [List.length_eq_zero_iff.mp h, List.append_nil]; exact List.Perm.refl _
  | n + 1, left, found, h => by
    rw [grd_succ]
    have hm : gpick (fun v => prd cs (cl ss found v)) left ∈ left := by
      have hn : left ≠ [] := by intro e; rw [e] at h; cases h
      obtain ⟨i, _, hi⟩ := gpick_idx (sz := fun v => prd cs (cl ss found v)) hn
      exact List.mem_of_getElem? hi
    generalize gpick (fun v => prd cs (cl ss found v)) left = x at hm
    refine (grd_perm (by rw [List.length_erase_of_mem hm, h]; rfl)).trans ?_
    rw [List.append_assoc]
    exact (List.Perm.refl found).append (List.perm_cons_erase hm).symm
end K20
set_option Elab.async false
set_option linter.all false
set_option maxRecDepth 100000
set_option maxHeartbeats 1000000
namespace K20
open PySem PySem.Spec PyProof.Rows L2 DL
variable {D : DEnds} {t2 : TSd} {ns : List Int}
theorem lw_9 {z2 z3 z4 z6 z7 z9 z12 z13 z14 z15 z16 z17 : Option EV} {cs lot : List Int} {ss : List (List Int)} (hcs : ∀ c ∈ cs, 0 ≤ c ∧ c ≤ 1000) (hc : Sc cs.length ss) (hl : Sq cs.length lot) (hp : lot.Pairwise (· < ·)) (k :  t2 D [some (.scr ns), some .hp, z2, z3, z4, some (.d (tI lot)), z6, z7, some (.d (tI (grd cs ss lot.length lot []))), z9, some (.d (tI cs)), some (.d (tS ss)), z12, z13, z14, z15, z16, z17]) :
  sThen (sIf (bOr (eT (e2 fNeS (e1 fRepr (eCB (fCall sp_greedy_sequence) (aCons (eVar 10) (aCons (eVar 11) (aCons (eVar 5) aNil))))) (e1 fRepr (eVar 8)))) (eT (e2 fNe (eCB (fun rs => fCall sp_greedy_sequence rs.reverse) (aCons (eVar 5) (aCons (eVar 11) (aCons (eVar 10) aNil)))) (eVar 8)))) (sThen (sRet (eC (.d (.bool false))))
  sNil) sNil) t2 D [some (.scr ns), some .hp, z2, z3, z4, some (.d (tI lot)), z6, z7, some (.d (tI (grd cs ss lot.length lot []))), z9, some (.d (tI cs)), some (.d (tS ss)), z12, z13, z14, z15, z16, z17] := by
  have pm := grd_perm (cs := cs) (ss := ss) (left := lot) (found := []) rfl
  have sm : ∀ n ∈ grd cs ss lot.length lot [], Sml n := fun n hn => sml_r hc.b8 (hl.r n (by simpa using pm.mem_iff.mp hn))
  have l8 := sq_len hc.b8 hl
  have gl : (grd cs ss lot.length lot []).length ≤ 100 := by rw [pm.length_eq]; simp; omega
  simp
  refine ⟨cs, ss, lot, rfl, hcs, hc, hl, hp, ?_⟩
  simp
  refine rp_tI rfl sm gl (rp_tI rfl sm gl ?_)
  simp
  refine ⟨cs, ss, lot, rfl, hcs, hc, hl, hp, ?_⟩
  simp
  exact k
end K20
set_option Elab.async false
set_option linter.all false
set_option maxRecDepth 100000
set_option maxHeartbeats 1000000
namespace K20
open PySem PySem.Spec PyProof.Rows L2 DL
theorem lc_any {g : TGd} {tt : TB} {te : TD} {ρ : DL.Env} {p : Int → Prop} {Q : List PyData → Prop} : ∀ {rs : List EV} {acc : List Int}, (∀ r ∈ rs, ∀ (Kt : PyData → Prop) (Kf : Prop), (∀ v, p v → Kt (.int v)) → g r ρ fun ρ2 => tt ρ2 fun b => match b with
    | true => te ρ2 fun y => match frz y with
      | some d => Kt d
      | none => False
    | false => Kf) → acc.length + rs.length ≤ 1000 → (∀ ys : List Int, ys.length = rs.length → (∀ y ∈ ys, p y) → Q ((acc ++ ys).map .int)) → lcGo g tt te ρ rs (acc.map .int) Q
  | [], acc, _, _, q => by
    have := q [] rfl (fun y hy => absurd hy List.not_mem_nil)
    rw [List.append_nil] at this
    exact this
  | r :: rs, acc, h, l, q => by
    rw [List.length_cons] at l
    unfold lcGo
    refine h r List.mem_cons_self (fun d => (acc.map PyData.int).length < 1000 ∧ lcGo g tt te ρ rs (acc.map .int ++ [d]) Q) _ (fun v hp => ⟨by rw [List.length_map]; omega, ?_⟩)
    have : acc.map PyData.int ++ [.int v] = (acc ++ [v]).map .int := by simp
    rw [this]
    refine lc_any (p := p) (fun y hy => h y (List.mem_cons_of_mem _ hy)) (by simp; omega) fun ys hl hy => ?_
    rw [List.append_assoc]
    exact q (v :: ys) (by rw [List.length_cons, hl, List.length_cons]) fun y m => by
      rcases List.mem_cons.mp m with rfl | m
      · exact hp
      · exact hy y m
variable {D : DEnds} {t2 : TSd} {ns : List Int}
theorem lw_1 {z2 z3 z5 z6 z7 z8 z9 z10 z11 z12 z13 z14 z15 z16 z17 : Option EV} {m : Int} (h1 : 1 ≤ m) (h8 : m ≤ 8) (k : ∀ (cs : List Int) (ss : List (List Int)), (cs.length : Int) = m → (∀ c ∈ cs, 0 ≤ c ∧ c ≤ 1000) → Sc m ss → ss.length ≤ 50 → t2 D [some (.scr ns), some .hp, z2, z3, some (.d (.int m)), z5, z6, z7, z8, z9, some (.d (tI cs)), some (.d (tS ss)), z12, z13, z14, z15, z16, z17]) :
  sThen (sPar 10 11 (aCons (eTuple (eLc (iR (eVar 4)) (gN 16) bYes (e2 fAdd (eC (.d (.int 2))) (eCB (fCall sp__law_draw) (aCons (eVar 1) (aCons (eC (.d (.int 5))) aNil)))) [16])) (aCons (eCB (fCall sp__law_scopes) (aCons (eVar 1) (aCons (eVar 4) aNil))) aNil))) t2 D [some (.scr ns), some .hp, z2, z3, some (.d (.int m)), z5, z6, z7, z8, z9, z10, z11, z12, z13, z14, z15, z16, z17] := by
  simp
  refine ⟨by omega, by omega, lc_any (p := fun v => 0 ≤ v ∧ v ≤ 1000) (acc := []) (fun r hr Kt Kf hT => ?_) (by simp; omega) fun ys hl hy => ?_⟩
  · obtain ⟨i, _, rfl⟩ := List.mem_map.mp hr
    simp
    exact ⟨5, rfl, by decide, by decide, fun v v0 v1 => hT (2 + v) ⟨by omega, by omega⟩⟩
  · rw [List.length_map, List.length_range] at hl
    exact ⟨m, rfl, h1, h8, fun ss hs h50 => ⟨rfl, k ys ss (by omega) hy hs h50⟩⟩
end K20
set_option Elab.async false
set_option linter.all false
set_option maxRecDepth 100000
set_option maxHeartbeats 1000000
namespace K20
open PySem PySem.Spec PyProof.Rows L2 DL
variable {D : DEnds} {t2 : TSd}
theorem lw10_body {z0 z1 z2 z3 z4 z5 z7 z8 z10 z11 z12 z13 z14 z15 z16 z17 : Option EV} {b : Int} {q : List Int} {r : EV} {x : PyData} (h8 : b ≤ 8) (hq : Sq b q) (hr : r = .d x ∨ r = .dn x) (hx : ∀ xs, x = .tuple xs → xs.length ≤ 20) (k : ∀ z13 z14, D.nx [z0, z1, z2, z3, z4, z5, some (.dn (tI q)), z7, z8, some r, z10, z11, z12, z13, z14, z15, z16, z17]) :
  (sThen (sSet 13 (eTuple (e1 fSortT (eVar 6))))
  (sThen (sSet 14 (eCB (fCall sp__law_is_sequence) (aCons (eVar 13) (aCons (eVar 9) aNil))))
  (sThen (sIf (bOr (eT (e2 fNeS (e1 fRepr (eCB (fCall sp_is_sequence) (aCons (eVar 13) (aCons (eVar 9) aNil)))) (e1 fRepr (eVar 14)))) (eT (e2 fNe (eCB (fun rs => fCall sp_is_sequence rs.reverse) (aCons (eVar 9) (aCons (eVar 13) aNil))) (eVar 14)))) (sThen (sRet (eC (.d (.bool false))))
  sNil) sNil)
  sNil))) D [z0, z1, z2, z3, z4, z5, some (.dn (tI q)), z7, z8, some r, z10, z11, z12, z13, z14, z15, z16, z17] := by
  have h := sq_len h8 hq
  rcases hr with rfl | rfl
  · simp
    refine ⟨q, rfl, by omega, ?_⟩
    simp
    refine ⟨srt q, x, rfl, hx, rfl, srt q, x, rfl, fun v hv => (hq.r v (srt_mem.mp hv)).1, hx, rp_bool rfl (rp_bool rfl ?_)⟩
    simp [fNeS]
    refine ⟨srt q, x, rfl, fun v hv => (hq.r v (srt_mem.mp hv)).1, hx, ?_⟩
    simp [SeqAt.shaped, PyData.canLay0, PyData.depth, PyData.eqv]
    exact k _ _
  · simp
    refine ⟨q, rfl, by omega, ?_⟩
    simp
    refine ⟨srt q, x, rfl, hx, rfl, srt q, x, rfl, fun v hv => (hq.r v (srt_mem.mp hv)).1, hx, rp_bool rfl (rp_bool rfl ?_)⟩
    simp [fNeS]
    refine ⟨srt q, x, rfl, fun v hv => (hq.r v (srt_mem.mp hv)).1, hx, ?_⟩
    simp [SeqAt.shaped, PyData.canLay0, PyData.depth, PyData.eqv]
    exact k _ _
theorem lw_10 {ns : List Int} {z2 z3 z4 z7 z9 z10 z11 z12 z13 z14 z15 z16 z17 : Option EV} {b : Int} {q lot g : List Int} (h8 : b ≤ 8) (hq : Sq b q) (hl : Sq b lot) (hg : Sq b g) (k : ∀ z9 z13 z14, t2 D [some (.scr ns), some .hp, z2, z3, z4, some (.d (tI lot)), some (.dn (tI q)), z7, some (.d (tI g)), z9, z10, z11, z12, z13, z14, z15, z16, z17]) :
  sThen (sFor (iL (aCons (eVar 6) (aCons (eCB (fCall sp__law_odd) (aCons (eVar 1) (aCons (eVar 6) aNil))) (aCons (eCB (fCall sp__law_odd) (aCons (eVar 1) (aCons (eVar 6) aNil))) (aCons (eVar 5) (aCons (eVar 8) aNil)))))) (gN 9) (sThen (sSet 13 (eTuple (e1 fSortT (eVar 6))))
  (sThen (sSet 14 (eCB (fCall sp__law_is_sequence) (aCons (eVar 13) (aCons (eVar 9) aNil))))
  (sThen (sIf (bOr (eT (e2 fNeS (e1 fRepr (eCB (fCall sp_is_sequence) (aCons (eVar 13) (aCons (eVar 9) aNil)))) (e1 fRepr (eVar 14)))) (eT (e2 fNe (eCB (fun rs => fCall sp_is_sequence rs.reverse) (aCons (eVar 9) (aCons (eVar 13) aNil))) (eVar 14)))) (sThen (sRet (eC (.d (.bool false))))
  sNil) sNil)
  sNil)))) t2 D [some (.scr ns), some .hp, z2, z3, z4, some (.d (tI lot)), some (.dn (tI q)), z7, some (.d (tI g)), z9, z10, z11, z12, z13, z14, z15, z16, z17] := by
  have hq8 := sq_len h8 hq
  have len : ∀ {s : List Int}, Sq b s → ∀ xs, tI s = PyData.tuple xs → xs.length ≤ 20 := fun hs xs e => by
    cases e
    have := sq_len h8 hs
    rw [List.length_map]; omega
  have ho : ∀ x ∈ q, 0 ≤ x ∧ x < 8 := fun x hx => by have := hq.r x hx; omega
  refine ⟨q, rfl, hq8, ho, fun x hx _ => ⟨.inl rfl, ⟨q, rfl, hq8, ho, fun y hy _ => ⟨.inl rfl, rfl, ?_⟩⟩⟩⟩
  show forGo _ _ _ _ _
  rw [r_forC]
  refine ⟨rfl, lw10_body h8 hq (.inr rfl) (len hq) fun _ _ => ?_⟩
  show forGo _ _ _ _ _
  rw [r_forC]
  refine ⟨rfl, lw10_body h8 hq (.inl rfl) hx fun _ _ => ?_⟩
  show forGo _ _ _ _ _
  rw [r_forC]
  refine ⟨rfl, lw10_body h8 hq (.inl rfl) hy fun _ _ => ?_⟩
  show forGo _ _ _ _ _
  rw [r_forC]
  refine ⟨rfl, lw10_body h8 hq (.inl rfl) (len hl) fun _ _ => ?_⟩
  show forGo _ _ _ _ _
  rw [r_forC]
  refine ⟨rfl, lw10_body h8 hq (.inl rfl) (len hg) fun _ _ => ?_⟩
  show forGo _ _ _ _ _
  rw [r_forN]
  exact k _ _ _
end K20
set_option Elab.async false
set_option linter.all false
set_option maxRecDepth 100000
set_option maxHeartbeats 1000000
namespace K20
open PySem PySem.Spec PyProof.Rows L2 DL
theorem fam_len (ts : List Thg) : (fam ts).length = ts.length := by unfold fam; rw [List.length_mapIdx]
theorem fam_sc {ts : List Thg} (h : TsOk ts) : Sc (ts.length : Int) (fam ts) := by
  refine ⟨by have := h.len.2; omega, by rw [fam_len]; have := h.len.2; omega, fun s hs => ?_⟩
  unfold fam at hs
  obtain ⟨i, hi, rfl⟩ := List.mem_mapIdx.mp hs
  obtain ⟨h1, h2, h3⟩ := h.ps i ts[i] (List.getElem?_eq_getElem hi)
  refine ⟨?_, fun x hx => ?_⟩
  · rw [List.nodup_append]
    refine ⟨h1.imp fun h => by omega, by simp, fun x hx y hy => ?_⟩
    have := h3 x hx
    rw [List.mem_singleton.mp hy]
    omega
  · rcases List.mem_append.mp hx with hx | hx
    · have := h3 x hx
      omega
    · rw [List.mem_singleton.mp hx]
      omega
theorem enl_thg (ts : List Thg) : enl (ts.map (thgD (ts.map (·.c)))) = ts.zipIdx.map fun e => EV.d (.tuple [.int (e.2 : Int), thgD (ts.map (·.c)) e.1]) := by
  unfold enl
  rw [List.mapIdx_eq_zipIdx_map, List.zipIdx_map, List.map_map]
  rfl
theorem fam_zip (ts : List Thg) : PyData.tuple (ts.zipIdx.map fun e => tI (e.1.ps ++ [(e.2 : Int)])) = tS (fam ts) := by
  unfold tS fam
  rw [List.mapIdx_eq_zipIdx_map, List.map_map]
  rfl
variable {D : DEnds} {t2 : TSd}
theorem ln2_0 {ns : List Int} {z2 z3 z5 z6 z7 z8 z9 z10 z11 z12 z13 z14 z15 z16 z17 : Option EV} {m : Int} (h1 : 1 ≤ m) (h8 : m ≤ 8) (k : ∀ ts, TsOk ts → (ts.length : Int) = m → t2 D [some (.scr ns), some .hp, z2, z3, some (.d (.int m)), z5, z6, z7, z8, z9, z10, z11, some (.d (tsD ts)), z13, z14, z15, z16, z17]) :
  sThen (sSet 12 (eCB (fCall sp__law_net) (aCons (eVar 1) (aCons (eVar 4) aNil)))) t2 D [some (.scr ns), some .hp, z2, z3, some (.d (.int m)), z5, z6, z7, z8, z9, z10, z11, z12, z13, z14, z15, z16, z17] := by
  simp
  refine ⟨m, rfl, h1, h8, fun ts hT hl => ⟨rfl, k ts hT hl⟩⟩
theorem ln2_1 {ns : List Int} {z2 z3 z5 z6 z7 z8 z9 z10 z11 z13 z14 z15 z16 z17 : Option EV} {m : Int} {ts : List Thg} (hT : TsOk ts) (k : t2 D [some (.scr ns), some .hp, z2, z3, some (.d (.int m)), z5, z6, z7, z8, z9, some (.d (tI (ts.map (·.c)))), z11, some (.d (tsD ts)), z13, z14, some (.net (tsD ts)), z16, z17]) :
  sThen (sPar 15 10 (aCons (eNet okThings (eVar 12)) (aCons (eTuple (eLc (iS false (eVar 12)) (gN 17) bYes (e2 fIx (eVar 17) (eC (.d (.int 1)))) [17])) aNil))) t2 D [some (.scr ns), some .hp, z2, z3, some (.d (.int m)), z5, z6, z7, z8, z9, z10, z11, some (.d (tsD ts)), z13, z14, z15, z16, z17] := by
  have hl := hT.len.2
  simp
  refine ⟨⟨ts, hT, rfl⟩, ?_⟩
  rw [show asSeq (.d (tsD ts)) = some (ts.map (thgD (ts.map (·.c)))) from rfl]
  simp
  refine lc_mapd (c := EV.d ∘ thgD (ts.map (·.c))) (xs := ts) (f := fun t => .int t.c) (fun t ht Kt Kf h => ?_) (by omega) ?_
  · simp [thgD]
    rw [thg1]
    exact h
  · rw [show (ts.map fun t => PyData.int t.c) = (ts.map (·.c)).map .int by rw [List.map_map]; rfl]
    exact k
theorem ln2_2 {ns : List Int} {z2 z3 z5 z6 z7 z8 z9 z10 z11 z12 z13 z14 z16 z17 : Option EV} {m : Int} {ts : List Thg} (hT : TsOk ts) (k : t2 D [some (.scr ns), some .hp, z2, z3, some (.d (.int m)), z5, z6, z7, z8, z9, z10, some (.d (tS (fam ts))), z12, z13, z14, some (.net (tsD ts)), z16, z17]) :
  sThen (sSet 11 (eCB (fCall sp_scopes_in) (aCons (eVar 15) aNil))) t2 D [some (.scr ns), some .hp, z2, z3, some (.d (.int m)), z5, z6, z7, z8, z9, z10, z11, z12, z13, z14, some (.net (tsD ts)), z16, z17] := by
  simp
  exact ⟨ts, rfl, hT, rfl, k⟩
theorem ln2_3 {ns : List Int} {z2 z3 z5 z6 z7 z8 z9 z10 z13 z14 z16 z17 : Option EV} {m : Int} {ts : List Thg} (hT : TsOk ts) (k : D.nx [some (.scr ns), some .hp, z2, z3, some (.d (.int m)), z5, z6, z7, z8, z9, z10, some (.d (tS (fam ts))), some (.d (tsD ts)), z13, z14, some (.net (tsD ts)), z16, z17]) :
  sThen (sIf (bOr (eT (e2 fNeS (e1 fRepr (eVar 11)) (e1 fRepr (eTuple (eLc (iE false (eVar 12)) (gT (gsCons (gN 16) (gsCons (gN 17) gsNil))) bYes (e2 fAddT (e2 fIx (eVar 17) (eC (.d (.int 2)))) (eTup (aCons (eVar 16) aNil))) [16, 17]))))) (eT (e2 fNe (eCB (fun rs => fCall sp_scopes_in rs.reverse) (aCons (eVar 15) aNil)) (eVar 11)))) (sThen (sRet (eC (.d (.bool false))))
  sNil) sNil) sNil D [some (.scr ns), some .hp, z2, z3, some (.d (.int m)), z5, z6, z7, z8, z9, z10, some (.d (tS (fam ts))), some (.d (tsD ts)), z13, z14, some (.net (tsD ts)), z16, z17] := by
  have fs := fam_sc hT
  have fl : (fam ts).length ≤ 100 := by rw [fam_len]; have := hT.len.2; omega
  simp
  refine rp_tS rfl (sc_sml fs) fl ?_
  rw [show asSeq (.d (tsD ts)) = some (ts.map (thgD (ts.map (·.c)))) from rfl]
  simp only []
  rw [enl_thg]
  refine lc_mapd (c := fun e : Thg × Nat => EV.d (.tuple [.int (e.2 : Int), thgD (ts.map (·.c)) e.1])) (xs := ts.zipIdx) (f := fun e => tI (e.1.ps ++ [(e.2 : Int)])) (fun e he Kt Kf h => ?_) (by rw [List.length_zipIdx]; have := hT.len.2; omega) ?_
  · have hp := (hT.ps e.2 e.1 (zip_at he)).2.1
    simp [thgD]
    rw [thg2]
    simp [tI]
    exact ⟨Nat.le_trans (Nat.add_le_add_right hp 1) (by decide), by simpa [tI] using h⟩
  · rw [fam_zip]
    refine rp_tS rfl (sc_sml fs) fl ?_
    simp [fNeS]
    refine ⟨ts, rfl, hT, ?_⟩
    simp
    exact k
end K20
set_option Elab.async false
set_option linter.all false
set_option maxRecDepth 100000
set_option maxHeartbeats 1000000
namespace K20
open PySem PySem.Spec PyProof.Rows L2 DL
variable {D : DEnds} {t2 : TSd} {ns : List Int}
theorem lw_2c {z2 z3 z4 z5 z6 z7 z8 z9 z10 z11 z12 z13 z14 z15 z16 z17 : Option EV} {R : Bool → Prop} (h : ∀ b, R b) : (eT (e2 fEq (eCB (fCall sp__law_draw) (aCons (eVar 1) (aCons (eC (.d (.int 4))) aNil))) (eC (.d (.int 0))))) [some (.scr ns), some .hp, z2, z3, z4, z5, z6, z7, z8, z9, z10, z11, z12, z13, z14, z15, z16, z17] R := by
  simp
  exact ⟨4, rfl, by decide, by decide, fun v v0 v1 => ⟨rfl, rfl, h _⟩⟩
theorem lw_2 {z2 z3 z5 z6 z7 z8 z9 z12 z13 z14 z15 z16 z17 : Option EV} {m : Int} {cs : List Int} {ss : List (List Int)} (h1 : 1 ≤ m) (h8 : m ≤ 8) (hl : (cs.length : Int) = m) (hb : ∀ c ∈ cs, 0 ≤ c ∧ c ≤ 1000) (hs : Sc m ss) (h50 : ss.length ≤ 50)
    (k : ∀ (cs' : List Int) (ss' : List (List Int)) z12' z15', (cs'.length : Int) = m → (∀ c ∈ cs', 0 ≤ c ∧ c ≤ 1000) → Sc m ss' → ss'.length ≤ 50 → t2 D [some (.scr ns), some .hp, z2, z3, some (.d (.int m)), z5, z6, z7, z8, z9, some (.d (tI cs')), some (.d (tS ss')), z12', z13, z14, z15', z16, z17]) :
  sThen (sIf (eT (e2 fEq (eCB (fCall sp__law_draw) (aCons (eVar 1) (aCons (eC (.d (.int 4))) aNil))) (eC (.d (.int 0))))) (sThen (sSet 12 (eCB (fCall sp__law_net) (aCons (eVar 1) (aCons (eVar 4) aNil))))
  (sThen (sPar 15 10 (aCons (eNet okThings (eVar 12)) (aCons (eTuple (eLc (iS false (eVar 12)) (gN 17) bYes (e2 fIx (eVar 17) (eC (.d (.int 1)))) [17])) aNil)))
  (sThen (sSet 11 (eCB (fCall sp_scopes_in) (aCons (eVar 15) aNil)))
  (sThen (sIf (bOr (eT (e2 fNeS (e1 fRepr (eVar 11)) (e1 fRepr (eTuple (eLc (iE false (eVar 12)) (gT (gsCons (gN 16) (gsCons (gN 17) gsNil))) bYes (e2 fAddT (e2 fIx (eVar 17) (eC (.d (.int 2)))) (eTup (aCons (eVar 16) aNil))) [16, 17]))))) (eT (e2 fNe (eCB (fun rs => fCall sp_scopes_in rs.reverse) (aCons (eVar 15) aNil)) (eVar 11)))) (sThen (sRet (eC (.d (.bool false))))
  sNil) sNil)
  sNil)))) sNil) t2 D [some (.scr ns), some .hp, z2, z3, some (.d (.int m)), z5, z6, z7, z8, z9, some (.d (tI cs)), some (.d (tS ss)), z12, z13, z14, z15, z16, z17] := by
  rw [r_then, r_if]
  refine lw_2c fun b => ⟨fun _ => ?_, fun _ => ?_⟩
  · refine ln2_0 h1 h8 fun ts hT htl => ln2_1 (m := m) hT (ln2_2 (m := m) hT (ln2_3 (m := m) hT ?_))
    subst htl
    have h8' := hT.len.2
    refine k (ts.map (·.c)) (fam ts) _ _ (by rw [List.length_map]) (fun c hc => ?_) (fam_sc hT) (by rw [fam_len]; omega)
    obtain ⟨t, ht, rfl⟩ := List.mem_map.mp hc
    have := hT.c t ht
    omega
  · exact k cs ss _ _ hl hb hs h50
theorem law_turn {z2 z3 z4 z5 z6 z7 z8 z9 z10 z11 z12 z13 z14 z15 z16 z17 : Option EV} (k : ∀ y2 y3 y4 y5 y6 y7 y8 y9 y10 y11 y12 y13 y14 y15 y16 y17 : Option EV, D.nx [some (.scr ns), some .hp, y2, y3, y4, y5, y6, y7, y8, y9, y10, y11, y12, y13, y14, y15, y16, y17]) :
  (sThen (sSet 4 (e2 fAdd (eC (.d (.int 1))) (eCB (fCall sp__law_draw) (aCons (eVar 1) (aCons (eC (.d (.int 8))) aNil)))))
  (sThen (sPar 10 11 (aCons (eTuple (eLc (iR (eVar 4)) (gN 16) bYes (e2 fAdd (eC (.d (.int 2))) (eCB (fCall sp__law_draw) (aCons (eVar 1) (aCons (eC (.d (.int 5))) aNil)))) [16])) (aCons (eCB (fCall sp__law_scopes) (aCons (eVar 1) (aCons (eVar 4) aNil))) aNil)))
  (sThen (sIf (eT (e2 fEq (eCB (fCall sp__law_draw) (aCons (eVar 1) (aCons (eC (.d (.int 4))) aNil))) (eC (.d (.int 0))))) (sThen (sSet 12 (eCB (fCall sp__law_net) (aCons (eVar 1) (aCons (eVar 4) aNil))))
  (sThen (sPar 15 10 (aCons (eNet okThings (eVar 12)) (aCons (eTuple (eLc (iS false (eVar 12)) (gN 17) bYes (e2 fIx (eVar 17) (eC (.d (.int 1)))) [17])) aNil)))
  (sThen (sSet 11 (eCB (fCall sp_scopes_in) (aCons (eVar 15) aNil)))
  (sThen (sIf (bOr (eT (e2 fNeS (e1 fRepr (eVar 11)) (e1 fRepr (eTuple (eLc (iE false (eVar 12)) (gT (gsCons (gN 16) (gsCons (gN 17) gsNil))) bYes (e2 fAddT (e2 fIx (eVar 17) (eC (.d (.int 2)))) (eTup (aCons (eVar 16) aNil))) [16, 17]))))) (eT (e2 fNe (eCB (fun rs => fCall sp_scopes_in rs.reverse) (aCons (eVar 15) aNil)) (eVar 11)))) (sThen (sRet (eC (.d (.bool false))))
  sNil) sNil)
  sNil)))) sNil)
  (sThen (sSet 5 (eTuple (eLc (iR (eVar 4)) (gN 16) (eT (e2 fGt (eCB (fCall sp__law_draw) (aCons (eVar 1) (aCons (eC (.d (.int 4))) aNil))) (eC (.d (.int 0))))) (eVar 16) [16])))
  (sThen (sSet 6 (eCB (fCall sp__law_shuffled) (aCons (eVar 1) (aCons (eCB (fCall sp__law_pick) (aCons (eVar 1) (aCons (eLst (aCons (eVar 5) (aCons (eVar 5) (aCons (eTupRg (eVar 4)) aNil)))) aNil))) aNil))))
  (sThen (sSet 7 (eCB (fCall sp__law_clusters) (aCons (eVar 11) (aCons (eVar 6) aNil))))
  (sThen (sIf (bOr (bNot (eT (eCB (fCall sp__law_costs_right) (aCons (eVar 10) (aCons (eVar 11) (aCons (eVar 6) (aCons (eVar 7) aNil))))))) (bNot (eT (eCB (fCall sp__law_flows_right) (aCons (eVar 1) (aCons (eVar 11) (aCons (eVar 6) (aCons (eVar 7) aNil)))))))) (sThen (sRet (eC (.d (.bool false))))
  sNil) sNil)
  (sThen (sIf (bNot (eT (eCB (fCall sp__law_behind_right) (aCons (eVar 1) (aCons (eVar 11) (aCons (eTupRg (eVar 4)) aNil)))))) (sThen (sRet (eC (.d (.bool false))))
  sNil) sNil)
  (sThen (sSet 8 (eCB (fCall sp__law_greedy) (aCons (eVar 10) (aCons (eVar 11) (aCons (eVar 5) aNil)))))
  (sThen (sIf (bOr (eT (e2 fNeS (e1 fRepr (eCB (fCall sp_greedy_sequence) (aCons (eVar 10) (aCons (eVar 11) (aCons (eVar 5) aNil))))) (e1 fRepr (eVar 8)))) (eT (e2 fNe (eCB (fun rs => fCall sp_greedy_sequence rs.reverse) (aCons (eVar 5) (aCons (eVar 11) (aCons (eVar 10) aNil)))) (eVar 8)))) (sThen (sRet (eC (.d (.bool false))))
  sNil) sNil)
  (sThen (sFor (iL (aCons (eVar 6) (aCons (eCB (fCall sp__law_odd) (aCons (eVar 1) (aCons (eVar 6) aNil))) (aCons (eCB (fCall sp__law_odd) (aCons (eVar 1) (aCons (eVar 6) aNil))) (aCons (eVar 5) (aCons (eVar 8) aNil)))))) (gN 9) (sThen (sSet 13 (eTuple (e1 fSortT (eVar 6))))
  (sThen (sSet 14 (eCB (fCall sp__law_is_sequence) (aCons (eVar 13) (aCons (eVar 9) aNil))))
  (sThen (sIf (bOr (eT (e2 fNeS (e1 fRepr (eCB (fCall sp_is_sequence) (aCons (eVar 13) (aCons (eVar 9) aNil)))) (e1 fRepr (eVar 14)))) (eT (e2 fNe (eCB (fun rs => fCall sp_is_sequence rs.reverse) (aCons (eVar 9) (aCons (eVar 13) aNil))) (eVar 14)))) (sThen (sRet (eC (.d (.bool false))))
  sNil) sNil)
  sNil))))
  sNil))))))))))) D [some (.scr ns), some .hp, z2, z3, z4, z5, z6, z7, z8, z9, z10, z11, z12, z13, z14, z15, z16, z17] := by
  refine lw_0 fun m h1 h8 => lw_1 h1 h8 fun cs0 ss0 l0 b0 s0 q0 => lw_2 h1 h8 l0 b0 s0 q0 fun cs ss z12' z15' hl hb hs h50 => lw_3 h1 h8 fun lot hp hlot => lw_4 h1 h8 hlot fun q hq => lw_5 hs hq ?_
  subst hl
  refine lw_6 hb hs h50 hq (lw_7 hs h1 (lw_8 hb hs hlot hp (lw_9 hb hs hlot hp (lw_10 hs.b8 hq hlot (sq_perm hlot (by simpa using grd_perm (cs := cs) (ss := ss) (left := lot) (found := []) rfl)) fun _ _ _ => ?_))))
  exact k _ _ _ _ _ _ _ _ _ _ _ _ _ _ _ _
theorem law_turns (k : ∀ y2 y3 y4 y5 y6 y7 y8 y9 y10 y11 y12 y13 y14 y15 y16 y17 : Option EV, D.nx [some (.scr ns), some .hp, y2, y3, y4, y5, y6, y7, y8, y9, y10, y11, y12, y13, y14, y15, y16, y17]) : ∀ (rs : List EV), (∀ r ∈ rs, ∃ i : Int, r = .d (.int i)) → ∀ y2 y3 y4 y5 y6 y7 y8 y9 y10 y11 y12 y13 y14 y15 y16 y17 : Option EV, forGo (gN 2) (sThen (sSet 4 (e2 fAdd (eC (.d (.int 1))) (eCB (fCall sp__law_draw) (aCons (eVar 1) (aCons (eC (.d (.int 8))) aNil)))))
  (sThen (sPar 10 11 (aCons (eTuple (eLc (iR (eVar 4)) (gN 16) bYes (e2 fAdd (eC (.d (.int 2))) (eCB (fCall sp__law_draw) (aCons (eVar 1) (aCons (eC (.d (.int 5))) aNil)))) [16])) (aCons (eCB (fCall sp__law_scopes) (aCons (eVar 1) (aCons (eVar 4) aNil))) aNil)))
  (sThen (sIf (eT (e2 fEq (eCB (fCall sp__law_draw) (aCons (eVar 1) (aCons (eC (.d (.int 4))) aNil))) (eC (.d (.int 0))))) (sThen (sSet 12 (eCB (fCall sp__law_net) (aCons (eVar 1) (aCons (eVar 4) aNil))))
  (sThen (sPar 15 10 (aCons (eNet okThings (eVar 12)) (aCons (eTuple (eLc (iS false (eVar 12)) (gN 17) bYes (e2 fIx (eVar 17) (eC (.d (.int 1)))) [17])) aNil)))
  (sThen (sSet 11 (eCB (fCall sp_scopes_in) (aCons (eVar 15) aNil)))
  (sThen (sIf (bOr (eT (e2 fNeS (e1 fRepr (eVar 11)) (e1 fRepr (eTuple (eLc (iE false (eVar 12)) (gT (gsCons (gN 16) (gsCons (gN 17) gsNil))) bYes (e2 fAddT (e2 fIx (eVar 17) (eC (.d (.int 2)))) (eTup (aCons (eVar 16) aNil))) [16, 17]))))) (eT (e2 fNe (eCB (fun rs => fCall sp_scopes_in rs.reverse) (aCons (eVar 15) aNil)) (eVar 11)))) (sThen (sRet (eC (.d (.bool false))))
  sNil) sNil)
  sNil)))) sNil)
  (sThen (sSet 5 (eTuple (eLc (iR (eVar 4)) (gN 16) (eT (e2 fGt (eCB (fCall sp__law_draw) (aCons (eVar 1) (aCons (eC (.d (.int 4))) aNil))) (eC (.d (.int 0))))) (eVar 16) [16])))
  (sThen (sSet 6 (eCB (fCall sp__law_shuffled) (aCons (eVar 1) (aCons (eCB (fCall sp__law_pick) (aCons (eVar 1) (aCons (eLst (aCons (eVar 5) (aCons (eVar 5) (aCons (eTupRg (eVar 4)) aNil)))) aNil))) aNil))))
  (sThen (sSet 7 (eCB (fCall sp__law_clusters) (aCons (eVar 11) (aCons (eVar 6) aNil))))
  (sThen (sIf (bOr (bNot (eT (eCB (fCall sp__law_costs_right) (aCons (eVar 10) (aCons (eVar 11) (aCons (eVar 6) (aCons (eVar 7) aNil))))))) (bNot (eT (eCB (fCall sp__law_flows_right) (aCons (eVar 1) (aCons (eVar 11) (aCons (eVar 6) (aCons (eVar 7) aNil)))))))) (sThen (sRet (eC (.d (.bool false))))
  sNil) sNil)
  (sThen (sIf (bNot (eT (eCB (fCall sp__law_behind_right) (aCons (eVar 1) (aCons (eVar 11) (aCons (eTupRg (eVar 4)) aNil)))))) (sThen (sRet (eC (.d (.bool false))))
  sNil) sNil)
  (sThen (sSet 8 (eCB (fCall sp__law_greedy) (aCons (eVar 10) (aCons (eVar 11) (aCons (eVar 5) aNil)))))
  (sThen (sIf (bOr (eT (e2 fNeS (e1 fRepr (eCB (fCall sp_greedy_sequence) (aCons (eVar 10) (aCons (eVar 11) (aCons (eVar 5) aNil))))) (e1 fRepr (eVar 8)))) (eT (e2 fNe (eCB (fun rs => fCall sp_greedy_sequence rs.reverse) (aCons (eVar 5) (aCons (eVar 11) (aCons (eVar 10) aNil)))) (eVar 8)))) (sThen (sRet (eC (.d (.bool false))))
  sNil) sNil)
  (sThen (sFor (iL (aCons (eVar 6) (aCons (eCB (fCall sp__law_odd) (aCons (eVar 1) (aCons (eVar 6) aNil))) (aCons (eCB (fCall sp__law_odd) (aCons (eVar 1) (aCons (eVar 6) aNil))) (aCons (eVar 5) (aCons (eVar 8) aNil)))))) (gN 9) (sThen (sSet 13 (eTuple (e1 fSortT (eVar 6))))
  (sThen (sSet 14 (eCB (fCall sp__law_is_sequence) (aCons (eVar 13) (aCons (eVar 9) aNil))))
  (sThen (sIf (bOr (eT (e2 fNeS (e1 fRepr (eCB (fCall sp_is_sequence) (aCons (eVar 13) (aCons (eVar 9) aNil)))) (e1 fRepr (eVar 14)))) (eT (e2 fNe (eCB (fun rs => fCall sp_is_sequence rs.reverse) (aCons (eVar 9) (aCons (eVar 13) aNil))) (eVar 14)))) (sThen (sRet (eC (.d (.bool false))))
  sNil) sNil)
  sNil))))
  sNil))))))))))) D rs [some (.scr ns), some .hp, y2, y3, y4, y5, y6, y7, y8, y9, y10, y11, y12, y13, y14, y15, y16, y17]
  | [], _, y2, y3, y4, y5, y6, y7, y8, y9, y10, y11, y12, y13, y14, y15, y16, y17 => k y2 y3 y4 y5 y6 y7 y8 y9 y10 y11 y12 y13 y14 y15 y16 y17
  | r :: rs, h, y2, y3, y4, y5, y6, y7, y8, y9, y10, y11, y12, y13, y14, y15, y16, y17 => by
    obtain ⟨i, rfl⟩ := h r List.mem_cons_self
    have ih := law_turns k rs fun r hr => h r (List.mem_cons_of_mem _ hr)
    rw [r_forC]
    exact ⟨rfl, law_turn fun y2 y3 y4 y5 y6 y7 y8 y9 y10 y11 y12 y13 y14 y15 y16 y17 => ih y2 y3 y4 y5 y6 y7 y8 y9 y10 y11 y12 y13 y14 y15 y16 y17⟩
end K20
set_option Elab.async false
set_option linter.all false
set_option maxRecDepth 100000
set_option maxHeartbeats 1000000
namespace K20
open PySem PySem.Spec PyProof.Rows L2 DL
theorem law_rng {ns : List Int} {z2 z3 z4 z5 z6 z7 z8 z9 z10 z11 z12 z13 z14 z15 z16 z17 : Option EV} {R : List EV → Prop} (h : ∀ rs, (∀ r ∈ rs, ∃ i : Int, r = .d (.int i)) → R rs) : (iR (e2 fAdd (eC (.d (.int 1))) (e1 fInt (e2 fGt (e1 fLen (eVar 0)) (eC (.d (.int 2))))))) [some (.scr ns), some .hp, z2, z3, z4, z5, z6, z7, z8, z9, z10, z11, z12, z13, z14, z15, z16, z17] R := by
  simp
  refine ⟨?_, ?_, h _ ?_⟩
  · split <;> omega
  · split <;> omega
  · intro r hr
    obtain ⟨i, _, rfl⟩ := List.mem_map.mp hr
    exact ⟨_, rfl⟩
theorem b_law (ns : List Int) (T : EV → Prop) (k : T (.d (.bool true))) : T_law { nx := fun _ => T (.d .none), rt := T } (some (.scr ns) :: some .hp :: List.replicate 16 none) := by
  unfold T_law
  rw [r_then]
  refine law_rng fun rs hr => law_turns (fun y2 y3 y4 y5 y6 y7 y8 y9 y10 y11 y12 y13 y14 y15 y16 y17 => law_ring k) rs hr _ _ _ _ _ _ _ _ _ _ _ _ _ _ _ _
end K20
set_option Elab.async false
set_option linter.all false
set_option maxRecDepth 100000
set_option maxHeartbeats 1000000
namespace K20
open PySem PySem.Spec PyProof.Rows L2 DL
/-! ### the defs of the text, each with its promise -/
structure Fx (K : PySem.W.Frag) (mg : Str → Option Value) : Prop where
  c : SaysM K
  glo : ∀ (i : Nat) {x : Str}, fa[i]? = some (.glo x) → mg x = some (.ref (He.ga K x))
  free : ∀ (i : Nat) {x : Str}, fa[i]? = some (.free x) → mg x = none
  str : ∀ (i : Nat) {x z : Str}, fa[i]? = some (.str x z) → ∃ t, mg x = some (.str z t)
  int : ∀ (i : Nat) {x : Str} {j : Int}, fa[i]? = some (.int x j) → ∃ t, mg x = some (.int j t)
theorem Fx.of {K : PySem.W.Frag} {mg : Str → Option Value} {h : Heap} (X : K.In h) (G : h.Ns mainGlobals mg) (c : SaysM K) : Fx K mg :=
  ⟨c, fun i _ e => He.glo_ok X G (c.d.fact i e), fun i _ e => He.free_ok X G (c.d.fact i e), fun i _ _ e => He.str_ok X G (c.d.fact i e), fun i _ _ e => He.int_ok X G (c.d.fact i e)⟩
theorem Fx.bt {K : PySem.W.Frag} {mg : Str → Option Value} (A : Fx K mg) : Bt mg := ⟨fun x hx => by
  have e : blts.map He.Fa.free = (fa.drop 52).take 18 := rfl
  have m : He.Fa.free x ∈ (fa.drop 52).take 18 := by rw [← e]; exact List.mem_map.mpr ⟨x, hx, rfl⟩
  obtain ⟨i, h⟩ := List.mem_iff_getElem?.mp (List.mem_of_mem_drop (List.mem_of_mem_take m))
  exact A.free i h⟩
theorem Fx.md {K : PySem.W.Frag} {mg : Str → Option Value} (A : Fx K mg) : Nonempty (Md K mg) := by
  obtain ⟨t1, h1⟩ := A.str 70 (x := "LETTERS") (z := "abcdefghijklmnopqrstuvwxyz") rfl
  obtain ⟨t2, h2⟩ := A.int 71 (x := "LONGEST_NAME") (j := 6) rfl
  exact ⟨⟨t1, t2, h1, h2, He.ga K "ONE", A.glo 73 rfl, fun H => He.tupB_ok A.c.e H, fun H => .cons (.int 1) (.cons (.int 1) .nil)⟩⟩
theorem defW_of {P : Program} {w : World} {K : PySem.W.Frag} {mg : Str → Option Value} {base : Heap} {x : Str} {params : Arguments} {body : List Stmt} {scope : Scope} {N ps : List Str} {sp : FD} {t : TSd} {k : Nat} {f : Addr} {fd : FuncData}
    (F : FunD K x x params body scope [] [] f fd) (S : FnScope N ps scope) (hb : DSs ⟨N, scope, fun _ => true, P, w, K, mg, base, k⟩ body t) (ht : BodyD t N.length ps.length sp) (hm : mg x = some (.ref f))
    (b1 : ∀ (kV doc pm : Value) (an : Option Addr) (cdv ct : Value) (us : List Value), us.length = ps.length → bindArgs (PySem.W.fnOf x x params body scope .none kV doc pm an cdv ct) ⟨us, []⟩ = pure (ps.zip us))
    (b2 : ∀ (kV doc pm : Value) (an : Option Addr) (cdv ct : Value) (ws : List Value), ws.length = ps.length → bindArgs (PySem.W.fnOf x x params body scope .none kV doc pm an cdv ct) ⟨[], ps.reverse.zip ws⟩ = pure (ps.zip ws.reverse)) :
    DefW P w K mg base x (k + 1) ps sp := ⟨f, fd, fnD_of F S hb ht, hm, F.kp, F.bindsN b1, rbinds_of F b2⟩
section
variable {P : Program} {w : World} {K : PySem.W.Frag} {mg : Str → Option Value} {base : Heap}
theorem w_fill_count (A : Fx K mg) : DefW P w K mg base "fill_count" 1 ["counts"] sp_fill_count := by
  obtain ⟨fd, F⟩ := A.c.d.def_ 0 (d := d_fill_count) rfl
  exact defW_of F sc_fill_count (walk_fill_count A.bt) b_fill_count (A.glo 0 rfl) (fun _ _ _ _ _ _ us hl => match us, hl with | [_], _ => by kernel_rfl) (fun _ _ _ _ _ _ us hl => match us, hl with | [_], _ => by kernel_rfl)
theorem w_is_integer (A : Fx K mg) : DefW P w K mg base "is_integer" 1 ["value"] sp_is_integer := by
  obtain ⟨fd, F⟩ := A.c.d.def_ 1 (d := d_is_integer) rfl
  exact defW_of F sc_is_integer (walk_is_integer A.bt) b_is_integer (A.glo 1 rfl) (fun _ _ _ _ _ _ us hl => match us, hl with | [_], _ => by kernel_rfl) (fun _ _ _ _ _ _ us hl => match us, hl with | [_], _ => by kernel_rfl)
theorem w_is_name (A : Fx K mg) (M : Md K mg) : DefW P w K mg base "is_name" 1 ["value"] sp_is_name := by
  obtain ⟨fd, F⟩ := A.c.d.def_ 3 (d := d_is_name) rfl
  exact defW_of F sc_is_name (walk_is_name A.bt M) b_is_name (A.glo 3 rfl) (fun _ _ _ _ _ _ us hl => match us, hl with | [_], _ => by kernel_rfl) (fun _ _ _ _ _ _ us hl => match us, hl with | [_], _ => by kernel_rfl)
theorem w_is_ascending (A : Fx K mg) : DefW P w K mg base "is_ascending" 1 ["items"] sp_is_ascending := by
  obtain ⟨fd, F⟩ := A.c.d.def_ 5 (d := d_is_ascending) rfl
  exact defW_of F sc_is_ascending (walk_is_ascending A.bt) b_is_ascending (A.glo 5 rfl) (fun _ _ _ _ _ _ us hl => match us, hl with | [_], _ => by kernel_rfl) (fun _ _ _ _ _ _ us hl => match us, hl with | [_], _ => by kernel_rfl)
theorem w_shared_divisor (A : Fx K mg) : DefW P w K mg base "shared_divisor" 1 ["one", "other"] sp_shared_divisor := by
  obtain ⟨fd, F⟩ := A.c.d.def_ 7 (d := d_shared_divisor) rfl
  exact defW_of F sc_shared_divisor (walk_shared_divisor A.bt) b_shared_divisor (A.glo 7 rfl) (fun _ _ _ _ _ _ us hl => match us, hl with | [_, _], _ => by kernel_rfl) (fun _ _ _ _ _ _ us hl => match us, hl with | [_, _], _ => by kernel_rfl)
theorem w_parents_of (A : Fx K mg) : DefW P w K mg base "parents_of" 1 ["net", "thing"] sp_parents_of := by
  obtain ⟨fd, F⟩ := A.c.d.def_ 16 (d := d_parents_of) rfl
  exact defW_of F sc_parents_of (walk_parents_of A.bt) b_parents_of (A.glo 16 rfl) (fun _ _ _ _ _ _ us hl => match us, hl with | [_, _], _ => by kernel_rfl) (fun _ _ _ _ _ _ us hl => match us, hl with | [_, _], _ => by kernel_rfl)
theorem w_tied_things (A : Fx K mg) : DefW P w K mg base "tied_things" 1 ["scopes", "thing"] sp_tied_things := by
  obtain ⟨fd, F⟩ := A.c.d.def_ 20 (d := d_tied_things) rfl
  exact defW_of F sc_tied_things (walk_tied_things A.bt) b_tied_things (A.glo 20 rfl) (fun _ _ _ _ _ _ us hl => match us, hl with | [_, _], _ => by kernel_rfl) (fun _ _ _ _ _ _ us hl => match us, hl with | [_, _], _ => by kernel_rfl)
theorem w_scopes_without (A : Fx K mg) : DefW P w K mg base "scopes_without" 1 ["scopes", "lot"] sp_scopes_without := by
  obtain ⟨fd, F⟩ := A.c.d.def_ 24 (d := d_scopes_without) rfl
  exact defW_of F sc_scopes_without (walk_scopes_without A.bt) b_scopes_without (A.glo 24 rfl) (fun _ _ _ _ _ _ us hl => match us, hl with | [_, _], _ => by kernel_rfl) (fun _ _ _ _ _ _ us hl => match us, hl with | [_, _], _ => by kernel_rfl)
theorem w_joined_cost (A : Fx K mg) : DefW P w K mg base "joined_cost" 1 ["kind", "one", "other"] sp_joined_cost := by
  obtain ⟨fd, F⟩ := A.c.d.def_ 29 (d := d_joined_cost) rfl
  exact defW_of F sc_joined_cost (walk_joined_cost A.bt) b_joined_cost (A.glo 29 rfl) (fun _ _ _ _ _ _ us hl => match us, hl with | [_, _, _], _ => by kernel_rfl) (fun _ _ _ _ _ _ us hl => match us, hl with | [_, _, _], _ => by kernel_rfl)
theorem w__law_heap (A : Fx K mg) : DefW P w K mg base "_law_heap" 1 ["_law_script"] sp__law_heap := by
  obtain ⟨fd, F⟩ := A.c.d.def_ 32 (d := d__law_heap) rfl
  exact defW_of F sc__law_heap (walk__law_heap A.bt) b__law_heap (A.glo 32 rfl) (fun _ _ _ _ _ _ us hl => match us, hl with | [_], _ => by kernel_rfl) (fun _ _ _ _ _ _ us hl => match us, hl with | [_], _ => by kernel_rfl)
theorem w__law_draw (A : Fx K mg) : DefW P w K mg base "_law_draw" 1 ["_law_heap_here", "_law_many"] sp__law_draw := by
  obtain ⟨fd, F⟩ := A.c.d.def_ 33 (d := d__law_draw) rfl
  exact ⟨_, fd, fn__law_draw F (A.bt.n _ (by decide)), A.glo 33 rfl, F.kp, F.bindsN (fun _ _ _ _ _ _ us hl => match us, hl with | [_, _], _ => by kernel_rfl), rbinds_of F (fun _ _ _ _ _ _ us hl => match us, hl with | [_, _], _ => by kernel_rfl)⟩
theorem w__law_cluster (A : Fx K mg) : DefW P w K mg base "_law_cluster" 1 ["_law_scopes_here", "_law_gone", "_law_thing"] sp__law_cluster := by
  obtain ⟨fd, F⟩ := A.c.d.def_ 36 (d := d__law_cluster) rfl
  exact defW_of F sc__law_cluster (walk__law_cluster A.bt) b__law_cluster (A.glo 36 rfl) (fun _ _ _ _ _ _ us hl => match us, hl with | [_, _, _], _ => by kernel_rfl) (fun _ _ _ _ _ _ us hl => match us, hl with | [_, _, _], _ => by kernel_rfl)
theorem w__law_size (A : Fx K mg) : DefW P w K mg base "_law_size" 1 ["_law_counts", "_law_lot"] sp__law_size := by
  obtain ⟨fd, F⟩ := A.c.d.def_ 37 (d := d__law_size) rfl
  exact defW_of F sc__law_size (walk__law_size A.bt) b__law_size (A.glo 37 rfl) (fun _ _ _ _ _ _ us hl => match us, hl with | [_, _], _ => by kernel_rfl) (fun _ _ _ _ _ _ us hl => match us, hl with | [_, _], _ => by kernel_rfl)
theorem w__law_joined (A : Fx K mg) : DefW P w K mg base "_law_joined" 1 ["_law_scopes_here", "_law_thing"] sp__law_joined := by
  obtain ⟨fd, F⟩ := A.c.d.def_ 40 (d := d__law_joined) rfl
  exact defW_of F sc__law_joined (walk__law_joined A.bt) b__law_joined (A.glo 40 rfl) (fun _ _ _ _ _ _ us hl => match us, hl with | [_, _], _ => by kernel_rfl) (fun _ _ _ _ _ _ us hl => match us, hl with | [_, _], _ => by kernel_rfl)
theorem w__law_flows (A : Fx K mg) : DefW P w K mg base "_law_flows" 1 ["_law_clusters_here", "_law_sequence"] sp__law_flows := by
  obtain ⟨fd, F⟩ := A.c.d.def_ 42 (d := d__law_flows) rfl
  exact defW_of F sc__law_flows (walk__law_flows A.bt) b__law_flows (A.glo 42 rfl) (fun _ _ _ _ _ _ us hl => match us, hl with | [_, _], _ => by kernel_rfl) (fun _ _ _ _ _ _ us hl => match us, hl with | [_, _], _ => by kernel_rfl)
theorem w__law_is_sequence (A : Fx K mg) : DefW P w K mg base "_law_is_sequence" 1 ["_law_lot", "_law_value"] sp__law_is_sequence := by
  obtain ⟨fd, F⟩ := A.c.d.def_ 50 (d := d__law_is_sequence) rfl
  exact defW_of F sc__law_is_sequence (walk__law_is_sequence A.bt) b__law_is_sequence (A.glo 50 rfl) (fun _ _ _ _ _ _ us hl => match us, hl with | [_, _], _ => by kernel_rfl) (fun _ _ _ _ _ _ us hl => match us, hl with | [_, _], _ => by kernel_rfl)
theorem w_is_number (A : Fx K mg) (D_is_integer : DefW P w K mg base "is_integer" 1 ["value"] sp_is_integer) : DefW P w K mg base "is_number" 2 ["value"] sp_is_number := by
  obtain ⟨fd, F⟩ := A.c.d.def_ 2 (d := d_is_number) rfl
  exact defW_of F sc_is_number (walk_is_number A.bt D_is_integer) b_is_number (A.glo 2 rfl) (fun _ _ _ _ _ _ us hl => match us, hl with | [_], _ => by kernel_rfl) (fun _ _ _ _ _ _ us hl => match us, hl with | [_], _ => by kernel_rfl)
theorem w_common_bottom (A : Fx K mg) (D_shared_divisor : DefW P w K mg base "shared_divisor" 1 ["one", "other"] sp_shared_divisor) : DefW P w K mg base "common_bottom" 2 ["fractions"] sp_common_bottom := by
  obtain ⟨fd, F⟩ := A.c.d.def_ 8 (d := d_common_bottom) rfl
  exact defW_of F sc_common_bottom (walk_common_bottom A.bt D_shared_divisor) b_common_bottom (A.glo 8 rfl) (fun _ _ _ _ _ _ us hl => match us, hl with | [_], _ => by kernel_rfl) (fun _ _ _ _ _ _ us hl => match us, hl with | [_], _ => by kernel_rfl)
theorem w_fraction_of (A : Fx K mg) (D_shared_divisor : DefW P w K mg base "shared_divisor" 1 ["one", "other"] sp_shared_divisor) : DefW P w K mg base "fraction_of" 2 ["top", "bottom"] sp_fraction_of := by
  obtain ⟨fd, F⟩ := A.c.d.def_ 9 (d := d_fraction_of) rfl
  exact defW_of F sc_fraction_of (walk_fraction_of A.bt D_shared_divisor) b_fraction_of (A.glo 9 rfl) (fun _ _ _ _ _ _ us hl => match us, hl with | [_, _], _ => by kernel_rfl) (fun _ _ _ _ _ _ us hl => match us, hl with | [_, _], _ => by kernel_rfl)
theorem w_is_fraction (A : Fx K mg) (D_is_integer : DefW P w K mg base "is_integer" 1 ["value"] sp_is_integer) (D_shared_divisor : DefW P w K mg base "shared_divisor" 1 ["one", "other"] sp_shared_divisor) : DefW P w K mg base "is_fraction" 2 ["value"] sp_is_fraction := by
  obtain ⟨fd, F⟩ := A.c.d.def_ 10 (d := d_is_fraction) rfl
  exact defW_of F sc_is_fraction (walk_is_fraction A.bt D_is_integer D_shared_divisor) b_is_fraction (A.glo 10 rfl) (fun _ _ _ _ _ _ us hl => match us, hl with | [_], _ => by kernel_rfl) (fun _ _ _ _ _ _ us hl => match us, hl with | [_], _ => by kernel_rfl)
theorem w_family_of (A : Fx K mg) (D_parents_of : DefW P w K mg base "parents_of" 1 ["net", "thing"] sp_parents_of) : DefW P w K mg base "family_of" 2 ["net", "thing"] sp_family_of := by
  obtain ⟨fd, F⟩ := A.c.d.def_ 17 (d := d_family_of) rfl
  exact defW_of F sc_family_of (walk_family_of A.bt D_parents_of) b_family_of (A.glo 17 rfl) (fun _ _ _ _ _ _ us hl => match us, hl with | [_, _], _ => by kernel_rfl) (fun _ _ _ _ _ _ us hl => match us, hl with | [_, _], _ => by kernel_rfl)
theorem w_cluster_behind (A : Fx K mg) (D_tied_things : DefW P w K mg base "tied_things" 1 ["scopes", "thing"] sp_tied_things) : DefW P w K mg base "cluster_behind" 2 ["scopes", "before", "thing"] sp_cluster_behind := by
  obtain ⟨fd, F⟩ := A.c.d.def_ 21 (d := d_cluster_behind) rfl
  exact defW_of F sc_cluster_behind (walk_cluster_behind A.bt D_tied_things) b_cluster_behind (A.glo 21 rfl) (fun _ _ _ _ _ _ us hl => match us, hl with | [_, _, _], _ => by kernel_rfl) (fun _ _ _ _ _ _ us hl => match us, hl with | [_, _, _], _ => by kernel_rfl)
theorem w_scopes_left (A : Fx K mg) (D_tied_things : DefW P w K mg base "tied_things" 1 ["scopes", "thing"] sp_tied_things) : DefW P w K mg base "scopes_left" 2 ["scopes", "sequence"] sp_scopes_left := by
  obtain ⟨fd, F⟩ := A.c.d.def_ 23 (d := d_scopes_left) rfl
  exact defW_of F sc_scopes_left (walk_scopes_left A.bt D_tied_things) b_scopes_left (A.glo 23 rfl) (fun _ _ _ _ _ _ us hl => match us, hl with | [_, _], _ => by kernel_rfl) (fun _ _ _ _ _ _ us hl => match us, hl with | [_, _], _ => by kernel_rfl)
theorem w_lot_size (A : Fx K mg) (D_fill_count : DefW P w K mg base "fill_count" 1 ["counts"] sp_fill_count) : DefW P w K mg base "lot_size" 2 ["counts", "lot"] sp_lot_size := by
  obtain ⟨fd, F⟩ := A.c.d.def_ 27 (d := d_lot_size) rfl
  exact defW_of F sc_lot_size (walk_lot_size A.bt D_fill_count) b_lot_size (A.glo 27 rfl) (fun _ _ _ _ _ _ us hl => match us, hl with | [_, _], _ => by kernel_rfl) (fun _ _ _ _ _ _ us hl => match us, hl with | [_, _], _ => by kernel_rfl)
theorem w__law_pick (A : Fx K mg) (D__law_draw : DefW P w K mg base "_law_draw" 1 ["_law_heap_here", "_law_many"] sp__law_draw) : DefW P w K mg base "_law_pick" 2 ["_law_heap_here", "_law_some"] sp__law_pick := by
  obtain ⟨fd, F⟩ := A.c.d.def_ 34 (d := d__law_pick) rfl
  exact defW_of F sc__law_pick (walk__law_pick A.bt D__law_draw) b__law_pick (A.glo 34 rfl) (fun _ _ _ _ _ _ us hl => match us, hl with | [_, _], _ => by kernel_rfl) (fun _ _ _ _ _ _ us hl => match us, hl with | [_, _], _ => by kernel_rfl)
theorem w__law_shuffled (A : Fx K mg) (D__law_draw : DefW P w K mg base "_law_draw" 1 ["_law_heap_here", "_law_many"] sp__law_draw) : DefW P w K mg base "_law_shuffled" 2 ["_law_heap_here", "_law_some"] sp__law_shuffled := by
  obtain ⟨fd, F⟩ := A.c.d.def_ 35 (d := d__law_shuffled) rfl
  exact defW_of F sc__law_shuffled (walk__law_shuffled A.bt D__law_draw) b__law_shuffled (A.glo 35 rfl) (fun _ _ _ _ _ _ us hl => match us, hl with | [_, _], _ => by kernel_rfl) (fun _ _ _ _ _ _ us hl => match us, hl with | [_, _], _ => by kernel_rfl)
theorem w__law_left (A : Fx K mg) (D__law_joined : DefW P w K mg base "_law_joined" 1 ["_law_scopes_here", "_law_thing"] sp__law_joined) : DefW P w K mg base "_law_left" 2 ["_law_scopes_here", "_law_sequence"] sp__law_left := by
  obtain ⟨fd, F⟩ := A.c.d.def_ 41 (d := d__law_left) rfl
  exact defW_of F sc__law_left (walk__law_left A.bt D__law_joined) b__law_left (A.glo 41 rfl) (fun _ _ _ _ _ _ us hl => match us, hl with | [_, _], _ => by kernel_rfl) (fun _ _ _ _ _ _ us hl => match us, hl with | [_, _], _ => by kernel_rfl)
theorem w__law_greedy (A : Fx K mg) (D__law_cluster : DefW P w K mg base "_law_cluster" 1 ["_law_scopes_here", "_law_gone", "_law_thing"] sp__law_cluster) (D__law_size : DefW P w K mg base "_law_size" 1 ["_law_counts", "_law_lot"] sp__law_size) : DefW P w K mg base "_law_greedy" 2 ["_law_counts", "_law_scopes_here", "_law_lot"] sp__law_greedy := by
  obtain ⟨fd, F⟩ := A.c.d.def_ 44 (d := d__law_greedy) rfl
  exact defW_of F sc__law_greedy (walk__law_greedy A.bt D__law_cluster D__law_size) b__law_greedy (A.glo 44 rfl) (fun _ _ _ _ _ _ us hl => match us, hl with | [_, _, _], _ => by kernel_rfl) (fun _ _ _ _ _ _ us hl => match us, hl with | [_, _, _], _ => by kernel_rfl)
theorem w__law_clusters (A : Fx K mg) (D__law_cluster : DefW P w K mg base "_law_cluster" 1 ["_law_scopes_here", "_law_gone", "_law_thing"] sp__law_cluster) : DefW P w K mg base "_law_clusters" 2 ["_law_scopes_here", "_law_sequence"] sp__law_clusters := by
  obtain ⟨fd, F⟩ := A.c.d.def_ 45 (d := d__law_clusters) rfl
  exact defW_of F sc__law_clusters (walk__law_clusters A.bt D__law_cluster) b__law_clusters (A.glo 45 rfl) (fun _ _ _ _ _ _ us hl => match us, hl with | [_, _], _ => by kernel_rfl) (fun _ _ _ _ _ _ us hl => match us, hl with | [_, _], _ => by kernel_rfl)
theorem w_are_numbers (A : Fx K mg) (D_is_number : DefW P w K mg base "is_number" 2 ["value"] sp_is_number) : DefW P w K mg base "are_numbers" 3 ["value"] sp_are_numbers := by
  obtain ⟨fd, F⟩ := A.c.d.def_ 4 (d := d_are_numbers) rfl
  exact defW_of F sc_are_numbers (walk_are_numbers A.bt D_is_number) b_are_numbers (A.glo 4 rfl) (fun _ _ _ _ _ _ us hl => match us, hl with | [_], _ => by kernel_rfl) (fun _ _ _ _ _ _ us hl => match us, hl with | [_], _ => by kernel_rfl)
theorem w_total_of_all (A : Fx K mg) (D_common_bottom : DefW P w K mg base "common_bottom" 2 ["fractions"] sp_common_bottom) (D_fraction_of : DefW P w K mg base "fraction_of" 2 ["top", "bottom"] sp_fraction_of) : DefW P w K mg base "total_of_all" 3 ["fractions"] sp_total_of_all := by
  obtain ⟨fd, F⟩ := A.c.d.def_ 11 (d := d_total_of_all) rfl
  exact defW_of F sc_total_of_all (walk_total_of_all A.bt D_common_bottom D_fraction_of) b_total_of_all (A.glo 11 rfl) (fun _ _ _ _ _ _ us hl => match us, hl with | [_], _ => by kernel_rfl) (fun _ _ _ _ _ _ us hl => match us, hl with | [_], _ => by kernel_rfl)
theorem w_are_weights (A : Fx K mg) (D_is_fraction : DefW P w K mg base "is_fraction" 2 ["value"] sp_is_fraction) : DefW P w K mg base "are_weights" 3 ["value", "count"] sp_are_weights := by
  obtain ⟨fd, F⟩ := A.c.d.def_ 12 (d := d_are_weights) rfl
  exact defW_of F sc_are_weights (walk_are_weights A.bt D_is_fraction) b_are_weights (A.glo 12 rfl) (fun _ _ _ _ _ _ us hl => match us, hl with | [_, _], _ => by kernel_rfl) (fun _ _ _ _ _ _ us hl => match us, hl with | [_, _], _ => by kernel_rfl)
theorem w_scopes_in (A : Fx K mg) (D_family_of : DefW P w K mg base "family_of" 2 ["net", "thing"] sp_family_of) : DefW P w K mg base "scopes_in" 3 ["net"] sp_scopes_in := by
  obtain ⟨fd, F⟩ := A.c.d.def_ 18 (d := d_scopes_in) rfl
  exact defW_of F sc_scopes_in (walk_scopes_in A.bt D_family_of) b_scopes_in (A.glo 18 rfl) (fun _ _ _ _ _ _ us hl => match us, hl with | [_], _ => by kernel_rfl) (fun _ _ _ _ _ _ us hl => match us, hl with | [_], _ => by kernel_rfl)
theorem w_clusters_by (A : Fx K mg) (D_cluster_behind : DefW P w K mg base "cluster_behind" 2 ["scopes", "before", "thing"] sp_cluster_behind) : DefW P w K mg base "clusters_by" 3 ["scopes", "sequence"] sp_clusters_by := by
  obtain ⟨fd, F⟩ := A.c.d.def_ 22 (d := d_clusters_by) rfl
  exact defW_of F sc_clusters_by (walk_clusters_by A.bt D_cluster_behind) b_clusters_by (A.glo 22 rfl) (fun _ _ _ _ _ _ us hl => match us, hl with | [_, _], _ => by kernel_rfl) (fun _ _ _ _ _ _ us hl => match us, hl with | [_, _], _ => by kernel_rfl)
theorem w_greedy_sequence (A : Fx K mg) (D_cluster_behind : DefW P w K mg base "cluster_behind" 2 ["scopes", "before", "thing"] sp_cluster_behind) (D_lot_size : DefW P w K mg base "lot_size" 2 ["counts", "lot"] sp_lot_size) : DefW P w K mg base "greedy_sequence" 3 ["counts", "scopes", "lot"] sp_greedy_sequence := by
  obtain ⟨fd, F⟩ := A.c.d.def_ 31 (d := d_greedy_sequence) rfl
  exact defW_of F sc_greedy_sequence (walk_greedy_sequence A.bt D_cluster_behind D_lot_size) b_greedy_sequence (A.glo 31 rfl) (fun _ _ _ _ _ _ us hl => match us, hl with | [_, _, _], _ => by kernel_rfl) (fun _ _ _ _ _ _ us hl => match us, hl with | [_, _, _], _ => by kernel_rfl)
theorem w__law_scopes (A : Fx K mg) (D__law_draw : DefW P w K mg base "_law_draw" 1 ["_law_heap_here", "_law_many"] sp__law_draw) (D__law_pick : DefW P w K mg base "_law_pick" 2 ["_law_heap_here", "_law_some"] sp__law_pick) : DefW P w K mg base "_law_scopes" 3 ["_law_heap_here", "_law_many"] sp__law_scopes := by
  obtain ⟨fd, F⟩ := A.c.d.def_ 38 (d := d__law_scopes) rfl
  exact defW_of F sc__law_scopes (walk__law_scopes A.bt D__law_draw D__law_pick) b__law_scopes (A.glo 38 rfl) (fun _ _ _ _ _ _ us hl => match us, hl with | [_, _], _ => by kernel_rfl) (fun _ _ _ _ _ _ us hl => match us, hl with | [_, _], _ => by kernel_rfl)
theorem w__law_net (A : Fx K mg) (D__law_draw : DefW P w K mg base "_law_draw" 1 ["_law_heap_here", "_law_many"] sp__law_draw) (D__law_pick : DefW P w K mg base "_law_pick" 2 ["_law_heap_here", "_law_some"] sp__law_pick) (D__law_size : DefW P w K mg base "_law_size" 1 ["_law_counts", "_law_lot"] sp__law_size) : DefW P w K mg base "_law_net" 3 ["_law_heap_here", "_law_many"] sp__law_net := by
  obtain ⟨fd, F⟩ := A.c.d.def_ 39 (d := d__law_net) rfl
  exact defW_of F sc__law_net (walk__law_net A.bt D__law_draw D__law_pick D__law_size) b__law_net (A.glo 39 rfl) (fun _ _ _ _ _ _ us hl => match us, hl with | [_, _], _ => by kernel_rfl) (fun _ _ _ _ _ _ us hl => match us, hl with | [_, _], _ => by kernel_rfl)
theorem w__law_flowing (A : Fx K mg) (D__law_pick : DefW P w K mg base "_law_pick" 2 ["_law_heap_here", "_law_some"] sp__law_pick) : DefW P w K mg base "_law_flowing" 3 ["_law_heap_here", "_law_flows_here", "_law_sequence", "_law_least"] sp__law_flowing := by
  obtain ⟨fd, F⟩ := A.c.d.def_ 43 (d := d__law_flowing) rfl
  exact defW_of F sc__law_flowing (walk__law_flowing A.bt D__law_pick) b__law_flowing (A.glo 43 rfl) (fun _ _ _ _ _ _ us hl => match us, hl with | [_, _, _, _], _ => by kernel_rfl) (fun _ _ _ _ _ _ us hl => match us, hl with | [_, _, _, _], _ => by kernel_rfl)
theorem w__law_behind_right (A : Fx K mg) (D__law_cluster : DefW P w K mg base "_law_cluster" 1 ["_law_scopes_here", "_law_gone", "_law_thing"] sp__law_cluster) (D__law_draw : DefW P w K mg base "_law_draw" 1 ["_law_heap_here", "_law_many"] sp__law_draw) (D__law_shuffled : DefW P w K mg base "_law_shuffled" 2 ["_law_heap_here", "_law_some"] sp__law_shuffled) (D_cluster_behind : DefW P w K mg base "cluster_behind" 2 ["scopes", "before", "thing"] sp_cluster_behind) (D_scopes_without : DefW P w K mg base "scopes_without" 1 ["scopes", "lot"] sp_scopes_without) : DefW P w K mg base "_law_behind_right" 3 ["_law_heap_here", "_law_scopes_here", "_law_things"] sp__law_behind_right := by
  obtain ⟨fd, F⟩ := A.c.d.def_ 48 (d := d__law_behind_right) rfl
  exact defW_of F sc__law_behind_right (walk__law_behind_right A.bt D__law_cluster D__law_draw D__law_shuffled D_cluster_behind D_scopes_without) b__law_behind_right (A.glo 48 rfl) (fun _ _ _ _ _ _ us hl => match us, hl with | [_, _, _], _ => by kernel_rfl) (fun _ _ _ _ _ _ us hl => match us, hl with | [_, _, _], _ => by kernel_rfl)
theorem w__law_odd (A : Fx K mg) (D__law_pick : DefW P w K mg base "_law_pick" 2 ["_law_heap_here", "_law_some"] sp__law_pick) : DefW P w K mg base "_law_odd" 3 ["_law_heap_here", "_law_sequence"] sp__law_odd := by
  obtain ⟨fd, F⟩ := A.c.d.def_ 49 (d := d__law_odd) rfl
  exact defW_of F sc__law_odd (walk__law_odd A.bt D__law_pick) b__law_odd (A.glo 49 rfl) (fun _ _ _ _ _ _ us hl => match us, hl with | [_, _], _ => by kernel_rfl) (fun _ _ _ _ _ _ us hl => match us, hl with | [_, _], _ => by kernel_rfl)
theorem w_is_listing (A : Fx K mg) (D_are_numbers : DefW P w K mg base "are_numbers" 3 ["value"] sp_are_numbers) (D_is_ascending : DefW P w K mg base "is_ascending" 1 ["items"] sp_is_ascending) : DefW P w K mg base "is_listing" 4 ["value", "bound"] sp_is_listing := by
  obtain ⟨fd, F⟩ := A.c.d.def_ 6 (d := d_is_listing) rfl
  exact defW_of F sc_is_listing (walk_is_listing A.bt D_are_numbers D_is_ascending) b_is_listing (A.glo 6 rfl) (fun _ _ _ _ _ _ us hl => match us, hl with | [_, _], _ => by kernel_rfl) (fun _ _ _ _ _ _ us hl => match us, hl with | [_, _], _ => by kernel_rfl)
theorem w_is_row (A : Fx K mg) (M : Md K mg) (D_are_weights : DefW P w K mg base "are_weights" 3 ["value", "count"] sp_are_weights) (D_total_of_all : DefW P w K mg base "total_of_all" 3 ["fractions"] sp_total_of_all) : DefW P w K mg base "is_row" 4 ["value", "count"] sp_is_row := by
  obtain ⟨fd, F⟩ := A.c.d.def_ 13 (d := d_is_row) rfl
  exact defW_of F sc_is_row (walk_is_row A.bt D_are_weights D_total_of_all M) b_is_row (A.glo 13 rfl) (fun _ _ _ _ _ _ us hl => match us, hl with | [_, _], _ => by kernel_rfl) (fun _ _ _ _ _ _ us hl => match us, hl with | [_, _], _ => by kernel_rfl)
theorem w_is_sequence (A : Fx K mg) (D_are_numbers : DefW P w K mg base "are_numbers" 3 ["value"] sp_are_numbers) : DefW P w K mg base "is_sequence" 4 ["lot", "value"] sp_is_sequence := by
  obtain ⟨fd, F⟩ := A.c.d.def_ 19 (d := d_is_sequence) rfl
  exact defW_of F sc_is_sequence (walk_is_sequence A.bt D_are_numbers) b_is_sequence (A.glo 19 rfl) (fun _ _ _ _ _ _ us hl => match us, hl with | [_, _], _ => by kernel_rfl) (fun _ _ _ _ _ _ us hl => match us, hl with | [_, _], _ => by kernel_rfl)
theorem w_flows_by (A : Fx K mg) (D_clusters_by : DefW P w K mg base "clusters_by" 3 ["scopes", "sequence"] sp_clusters_by) : DefW P w K mg base "flows_by" 4 ["scopes", "sequence"] sp_flows_by := by
  obtain ⟨fd, F⟩ := A.c.d.def_ 25 (d := d_flows_by) rfl
  exact defW_of F sc_flows_by (walk_flows_by A.bt D_clusters_by) b_flows_by (A.glo 25 rfl) (fun _ _ _ _ _ _ us hl => match us, hl with | [_, _], _ => by kernel_rfl) (fun _ _ _ _ _ _ us hl => match us, hl with | [_, _], _ => by kernel_rfl)
theorem w_sizes_by (A : Fx K mg) (D_clusters_by : DefW P w K mg base "clusters_by" 3 ["scopes", "sequence"] sp_clusters_by) (D_lot_size : DefW P w K mg base "lot_size" 2 ["counts", "lot"] sp_lot_size) : DefW P w K mg base "sizes_by" 4 ["counts", "scopes", "sequence"] sp_sizes_by := by
  obtain ⟨fd, F⟩ := A.c.d.def_ 28 (d := d_sizes_by) rfl
  exact defW_of F sc_sizes_by (walk_sizes_by A.bt D_clusters_by D_lot_size) b_sizes_by (A.glo 28 rfl) (fun _ _ _ _ _ _ us hl => match us, hl with | [_, _, _], _ => by kernel_rfl) (fun _ _ _ _ _ _ us hl => match us, hl with | [_, _, _], _ => by kernel_rfl)
theorem w_is_thing (A : Fx K mg) (D_fill_count : DefW P w K mg base "fill_count" 1 ["counts"] sp_fill_count) (D_is_integer : DefW P w K mg base "is_integer" 1 ["value"] sp_is_integer) (D_is_listing : DefW P w K mg base "is_listing" 4 ["value", "bound"] sp_is_listing) (D_is_name : DefW P w K mg base "is_name" 1 ["value"] sp_is_name) (D_is_row : DefW P w K mg base "is_row" 4 ["value", "count"] sp_is_row) : DefW P w K mg base "is_thing" 5 ["value", "things"] sp_is_thing := by
  obtain ⟨fd, F⟩ := A.c.d.def_ 14 (d := d_is_thing) rfl
  exact defW_of F sc_is_thing (walk_is_thing A.bt D_fill_count D_is_integer D_is_listing D_is_name D_is_row) b_is_thing (A.glo 14 rfl) (fun _ _ _ _ _ _ us hl => match us, hl with | [_, _], _ => by kernel_rfl) (fun _ _ _ _ _ _ us hl => match us, hl with | [_, _], _ => by kernel_rfl)
theorem w_settled_sequence (A : Fx K mg) (D_flows_by : DefW P w K mg base "flows_by" 4 ["scopes", "sequence"] sp_flows_by) : DefW P w K mg base "settled_sequence" 5 ["scopes", "sequence"] sp_settled_sequence := by
  obtain ⟨fd, F⟩ := A.c.d.def_ 26 (d := d_settled_sequence) rfl
  exact defW_of F sc_settled_sequence (walk_settled_sequence A.bt D_flows_by) b_settled_sequence (A.glo 26 rfl) (fun _ _ _ _ _ _ us hl => match us, hl with | [_, _], _ => by kernel_rfl) (fun _ _ _ _ _ _ us hl => match us, hl with | [_, _], _ => by kernel_rfl)
theorem w_cost_by (A : Fx K mg) (D_joined_cost : DefW P w K mg base "joined_cost" 1 ["kind", "one", "other"] sp_joined_cost) (D_sizes_by : DefW P w K mg base "sizes_by" 4 ["counts", "scopes", "sequence"] sp_sizes_by) : DefW P w K mg base "cost_by" 5 ["counts", "scopes", "sequence", "kind"] sp_cost_by := by
  obtain ⟨fd, F⟩ := A.c.d.def_ 30 (d := d_cost_by) rfl
  exact defW_of F sc_cost_by (walk_cost_by A.bt D_joined_cost D_sizes_by) b_cost_by (A.glo 30 rfl) (fun _ _ _ _ _ _ us hl => match us, hl with | [_, _, _, _], _ => by kernel_rfl) (fun _ _ _ _ _ _ us hl => match us, hl with | [_, _, _, _], _ => by kernel_rfl)
theorem w_check_things (A : Fx K mg) (D_is_thing : DefW P w K mg base "is_thing" 5 ["value", "things"] sp_is_thing) : DefW P w K mg base "check_things" 6 ["value"] sp_check_things := by
  obtain ⟨fd, F⟩ := A.c.d.def_ 15 (d := d_check_things) rfl
  exact defW_of F sc_check_things (walk_check_things A.bt D_is_thing) b_check_things (A.glo 15 rfl) (fun _ _ _ _ _ _ us hl => match us, hl with | [_], _ => by kernel_rfl) (fun _ _ _ _ _ _ us hl => match us, hl with | [_], _ => by kernel_rfl)
theorem w__law_costs_right (A : Fx K mg) (D__law_joined : DefW P w K mg base "_law_joined" 1 ["_law_scopes_here", "_law_thing"] sp__law_joined) (D__law_left : DefW P w K mg base "_law_left" 2 ["_law_scopes_here", "_law_sequence"] sp__law_left) (D__law_size : DefW P w K mg base "_law_size" 1 ["_law_counts", "_law_lot"] sp__law_size) (D_clusters_by : DefW P w K mg base "clusters_by" 3 ["scopes", "sequence"] sp_clusters_by) (D_cost_by : DefW P w K mg base "cost_by" 5 ["counts", "scopes", "sequence", "kind"] sp_cost_by) (D_lot_size : DefW P w K mg base "lot_size" 2 ["counts", "lot"] sp_lot_size) (D_scopes_left : DefW P w K mg base "scopes_left" 2 ["scopes", "sequence"] sp_scopes_left) (D_sizes_by : DefW P w K mg base "sizes_by" 4 ["counts", "scopes", "sequence"] sp_sizes_by) : DefW P w K mg base "_law_costs_right" 6 ["_law_counts", "_law_scopes_here", "_law_sequence", "_law_clusters_here"] sp__law_costs_right := by
  obtain ⟨fd, F⟩ := A.c.d.def_ 46 (d := d__law_costs_right) rfl
  exact defW_of F sc__law_costs_right (walk__law_costs_right A.bt D__law_joined D__law_left D__law_size D_clusters_by D_cost_by D_lot_size D_scopes_left D_sizes_by) b__law_costs_right (A.glo 46 rfl) (fun _ _ _ _ _ _ us hl => match us, hl with | [_, _, _, _], _ => by kernel_rfl) (fun _ _ _ _ _ _ us hl => match us, hl with | [_, _, _, _], _ => by kernel_rfl)
theorem w__law_flows_right (A : Fx K mg) (D__law_flowing : DefW P w K mg base "_law_flowing" 3 ["_law_heap_here", "_law_flows_here", "_law_sequence", "_law_least"] sp__law_flowing) (D__law_flows : DefW P w K mg base "_law_flows" 1 ["_law_clusters_here", "_law_sequence"] sp__law_flows) (D__law_shuffled : DefW P w K mg base "_law_shuffled" 2 ["_law_heap_here", "_law_some"] sp__law_shuffled) (D_clusters_by : DefW P w K mg base "clusters_by" 3 ["scopes", "sequence"] sp_clusters_by) (D_flows_by : DefW P w K mg base "flows_by" 4 ["scopes", "sequence"] sp_flows_by) (D_settled_sequence : DefW P w K mg base "settled_sequence" 5 ["scopes", "sequence"] sp_settled_sequence) : DefW P w K mg base "_law_flows_right" 6 ["_law_heap_here", "_law_scopes_here", "_law_sequence", "_law_clusters_here"] sp__law_flows_right := by
  obtain ⟨fd, F⟩ := A.c.d.def_ 47 (d := d__law_flows_right) rfl
  exact defW_of F sc__law_flows_right (walk__law_flows_right A.bt D__law_flowing D__law_flows D__law_shuffled D_clusters_by D_flows_by D_settled_sequence) b__law_flows_right (A.glo 47 rfl) (fun _ _ _ _ _ _ us hl => match us, hl with | [_, _, _, _], _ => by kernel_rfl) (fun _ _ _ _ _ _ us hl => match us, hl with | [_, _, _, _], _ => by kernel_rfl)
theorem sc_Net_init : FnScope ["self", "things"] ["self", "things"] (defScope s_Net_init) := ⟨rfl, rfl, rfl, by decide +kernel, rfl, by decide +kernel, by decide +kernel⟩
theorem w_net (A : Fx K mg) (D : DefW P w K mg base "check_things" 6 ["value"] sp_check_things) : NetW P w K mg base 7 okThings := by
  obtain ⟨fd, F⟩ := A.c.d.def_ 52 (d := d_Net_init) rfl
  obtain ⟨fc, fdc, FC, hm, hk, hb, _⟩ := D.ex
  have c1 : Cls K (He.ga K "Net") := He.cls_ok (A.c.d.fact 74 (f := .cls "Net") rfl)
  have c2 : NoAttr K (He.ga K "Net") "things" := He.noat_ok (A.c.d.fact 75 (f := .noat "Net" "things") rfl)
  have c3 : Mk K (He.ga K "Net") (He.ma K (He.ga K "Net") "__init__") := He.mkr_ok (A.c.d.fact 76 (f := .mkr "Net") rfl)
  have F : FunD K "__init__" "Net.__init__" (defArgs s_Net_init) (defBody s_Net_init) (defScope s_Net_init) [] [] (He.ma K (He.ga K "Net") "__init__") fd := F
  exact ⟨_, _, fd, c3, net_init (N := []) F sc_Net_init rfl FC hm hk hb c1 c2 rfl (by first | exact .inl rfl | exact .inr (.inl rfl) | exact .inr (.inr rfl)) (by first | exact .inl rfl | exact .inr (.inl rfl) | exact .inr (.inr rfl)), A.glo 72 rfl, F.bindsN (fun _ _ _ _ _ _ us hl => match us, hl with | [_, _], _ => by kernel_rfl), c1, c2⟩
theorem law_all {f : Addr} {fd : FuncData} (A : Fx K mg) (FL : FunD K "law" "law" (defArgs s_law) (defBody s_law) (defScope s_law) [] [] f fd) : FnGd P w K mg base 9 f fd ["_law_script"] (spLaw K) := by
  obtain ⟨M⟩ := A.md
  have D_fill_count : DefW P w K mg base "fill_count" 1 ["counts"] sp_fill_count := w_fill_count A
  have D_is_integer : DefW P w K mg base "is_integer" 1 ["value"] sp_is_integer := w_is_integer A
  have D_is_name : DefW P w K mg base "is_name" 1 ["value"] sp_is_name := w_is_name A M
  have D_is_ascending : DefW P w K mg base "is_ascending" 1 ["items"] sp_is_ascending := w_is_ascending A
  have D_shared_divisor : DefW P w K mg base "shared_divisor" 1 ["one", "other"] sp_shared_divisor := w_shared_divisor A
  have D_parents_of : DefW P w K mg base "parents_of" 1 ["net", "thing"] sp_parents_of := w_parents_of A
  have D_tied_things : DefW P w K mg base "tied_things" 1 ["scopes", "thing"] sp_tied_things := w_tied_things A
  have D_scopes_without : DefW P w K mg base "scopes_without" 1 ["scopes", "lot"] sp_scopes_without := w_scopes_without A
  have D_joined_cost : DefW P w K mg base "joined_cost" 1 ["kind", "one", "other"] sp_joined_cost := w_joined_cost A
  have D__law_heap : DefW P w K mg base "_law_heap" 1 ["_law_script"] sp__law_heap := w__law_heap A
  have D__law_draw : DefW P w K mg base "_law_draw" 1 ["_law_heap_here", "_law_many"] sp__law_draw := w__law_draw A
  have D__law_cluster : DefW P w K mg base "_law_cluster" 1 ["_law_scopes_here", "_law_gone", "_law_thing"] sp__law_cluster := w__law_cluster A
  have D__law_size : DefW P w K mg base "_law_size" 1 ["_law_counts", "_law_lot"] sp__law_size := w__law_size A
  have D__law_joined : DefW P w K mg base "_law_joined" 1 ["_law_scopes_here", "_law_thing"] sp__law_joined := w__law_joined A
  have D__law_flows : DefW P w K mg base "_law_flows" 1 ["_law_clusters_here", "_law_sequence"] sp__law_flows := w__law_flows A
  have D__law_is_sequence : DefW P w K mg base "_law_is_sequence" 1 ["_law_lot", "_law_value"] sp__law_is_sequence := w__law_is_sequence A
  have D_is_number : DefW P w K mg base "is_number" 2 ["value"] sp_is_number := w_is_number A D_is_integer
  have D_common_bottom : DefW P w K mg base "common_bottom" 2 ["fractions"] sp_common_bottom := w_common_bottom A D_shared_divisor
  have D_fraction_of : DefW P w K mg base "fraction_of" 2 ["top", "bottom"] sp_fraction_of := w_fraction_of A D_shared_divisor
  have D_is_fraction : DefW P w K mg base "is_fraction" 2 ["value"] sp_is_fraction := w_is_fraction A D_is_integer D_shared_divisor
  have D_family_of : DefW P w K mg base "family_of" 2 ["net", "thing"] sp_family_of := w_family_of A D_parents_of
  have D_cluster_behind : DefW P w K mg base "cluster_behind" 2 ["scopes", "before", "thing"] sp_cluster_behind := w_cluster_behind A D_tied_things
  have D_scopes_left : DefW P w K mg base "scopes_left" 2 ["scopes", "sequence"] sp_scopes_left := w_scopes_left A D_tied_things
  have D_lot_size : DefW P w K mg base "lot_size" 2 ["counts", "lot"] sp_lot_size := w_lot_size A D_fill_count
  have D__law_pick : DefW P w K mg base "_law_pick" 2 ["_law_heap_here", "_law_some"] sp__law_pick := w__law_pick A D__law_draw
  have D__law_shuffled : DefW P w K mg base "_law_shuffled" 2 ["_law_heap_here", "_law_some"] sp__law_shuffled := w__law_shuffled A D__law_draw
  have D__law_left : DefW P w K mg base "_law_left" 2 ["_law_scopes_here", "_law_sequence"] sp__law_left := w__law_left A D__law_joined
  have D__law_greedy : DefW P w K mg base "_law_greedy" 2 ["_law_counts", "_law_scopes_here", "_law_lot"] sp__law_greedy := w__law_greedy A D__law_cluster D__law_size
  have D__law_clusters : DefW P w K mg base "_law_clusters" 2 ["_law_scopes_here", "_law_sequence"] sp__law_clusters := w__law_clusters A D__law_cluster
  have D_are_numbers : DefW P w K mg base "are_numbers" 3 ["value"] sp_are_numbers := w_are_numbers A D_is_number
  have D_total_of_all : DefW P w K mg base "total_of_all" 3 ["fractions"] sp_total_of_all := w_total_of_all A D_common_bottom D_fraction_of
  have D_are_weights : DefW P w K mg base "are_weights" 3 ["value", "count"] sp_are_weights := w_are_weights A D_is_fraction
  have D_scopes_in : DefW P w K mg base "scopes_in" 3 ["net"] sp_scopes_in := w_scopes_in A D_family_of
  have D_clusters_by : DefW P w K mg base "clusters_by" 3 ["scopes", "sequence"] sp_clusters_by := w_clusters_by A D_cluster_behind
  have D_greedy_sequence : DefW P w K mg base "greedy_sequence" 3 ["counts", "scopes", "lot"] sp_greedy_sequence := w_greedy_sequence A D_cluster_behind D_lot_size
  have D__law_scopes : DefW P w K mg base "_law_scopes" 3 ["_law_heap_here", "_law_many"] sp__law_scopes := w__law_scopes A D__law_draw D__law_pick
  have D__law_net : DefW P w K mg base "_law_net" 3 ["_law_heap_here", "_law_many"] sp__law_net := w__law_net A D__law_draw D__law_pick D__law_size
  have D__law_flowing : DefW P w K mg base "_law_flowing" 3 ["_law_heap_here", "_law_flows_here", "_law_sequence", "_law_least"] sp__law_flowing := w__law_flowing A D__law_pick
  have D__law_behind_right : DefW P w K mg base "_law_behind_right" 3 ["_law_heap_here", "_law_scopes_here", "_law_things"] sp__law_behind_right := w__law_behind_right A D__law_cluster D__law_draw D__law_shuffled D_cluster_behind D_scopes_without
  have D__law_odd : DefW P w K mg base "_law_odd" 3 ["_law_heap_here", "_law_sequence"] sp__law_odd := w__law_odd A D__law_pick
  have D_is_listing : DefW P w K mg base "is_listing" 4 ["value", "bound"] sp_is_listing := w_is_listing A D_are_numbers D_is_ascending
  have D_is_row : DefW P w K mg base "is_row" 4 ["value", "count"] sp_is_row := w_is_row A M D_are_weights D_total_of_all
  have D_is_sequence : DefW P w K mg base "is_sequence" 4 ["lot", "value"] sp_is_sequence := w_is_sequence A D_are_numbers
  have D_flows_by : DefW P w K mg base "flows_by" 4 ["scopes", "sequence"] sp_flows_by := w_flows_by A D_clusters_by
  have D_sizes_by : DefW P w K mg base "sizes_by" 4 ["counts", "scopes", "sequence"] sp_sizes_by := w_sizes_by A D_clusters_by D_lot_size
  have D_is_thing : DefW P w K mg base "is_thing" 5 ["value", "things"] sp_is_thing := w_is_thing A D_fill_count D_is_integer D_is_listing D_is_name D_is_row
  have D_settled_sequence : DefW P w K mg base "settled_sequence" 5 ["scopes", "sequence"] sp_settled_sequence := w_settled_sequence A D_flows_by
  have D_cost_by : DefW P w K mg base "cost_by" 5 ["counts", "scopes", "sequence", "kind"] sp_cost_by := w_cost_by A D_joined_cost D_sizes_by
  have D_check_things : DefW P w K mg base "check_things" 6 ["value"] sp_check_things := w_check_things A D_is_thing
  have D__law_costs_right : DefW P w K mg base "_law_costs_right" 6 ["_law_counts", "_law_scopes_here", "_law_sequence", "_law_clusters_here"] sp__law_costs_right := w__law_costs_right A D__law_joined D__law_left D__law_size D_clusters_by D_cost_by D_lot_size D_scopes_left D_sizes_by
  have D__law_flows_right : DefW P w K mg base "_law_flows_right" 6 ["_law_heap_here", "_law_scopes_here", "_law_sequence", "_law_clusters_here"] sp__law_flows_right := w__law_flows_right A D__law_flowing D__law_flows D__law_shuffled D_clusters_by D_flows_by D_settled_sequence
  have NW := w_net A D_check_things
  exact fn_law FL D__law_heap (walk_law A.bt D__law_behind_right D__law_clusters D__law_costs_right D__law_draw D__law_flows_right D__law_greedy D__law_is_sequence D__law_net D__law_odd D__law_pick D__law_scopes D__law_shuffled D_clusters_by D_cost_by D_flows_by D_greedy_sequence D_is_sequence D_scopes_in D_scopes_left D_settled_sequence NW) b_law
end
end K20
set_option Elab.async false
set_option linter.all false
set_option maxRecDepth 100000
set_option maxHeartbeats 0
namespace K20
open PySem PySem.Spec PyProof.Rows L2 DL
/-! ### the law, called behind the top -/
theorem law_done {P : Program} {w : World} {K : PySem.W.Frag} {mg mb : Str → Option Value} {f a : Addr} {s : Shared} {vs : List Value} {ns : List Int} (KX : K.In s.heap) (c : SaysM K)
    (n1 : s.heap.Ns mainGlobals mg) (n2 : s.heap.Ns builtinsNs mb) (n3 : ∀ y : Str, y ≠ "__name__" → mb y = bootBuiltins y) (n4 : s.heap.NoLimit) (n5 : s.gens = #[]) (hm : mg "law" = some (.ref f))
    (ha : s.heap.get? a = some { cls := .type "list", data := .seq vs.toArray }) (hi : IntsAre vs ns) (hl : ns.length ≤ 63) (hbits : ∀ n ∈ ns, Builtin.Int.intBits n ≤ 1048576) :
    codeAny (model P w) callerA (.call (.ref f) ⟨[.ref a], []⟩) (fun r t => r = .ok (.ret (.bool true)) ∧ OldK s.heap t.heap ∧ t.os = s.os ∧ AllBare t.gens) s := by
  have A := Fx.of KX n1 c
  obtain ⟨fd, FL⟩ := c.d.def_ 51 (d := d_law) rfl
  have e := hm.symm.trans (A.glo 51 (x := "law") rfl)
  cases e
  have FL : FunD K "law" "law" (defArgs s_law) (defBody s_law) (defScope s_law) [] [] (He.ga K "law") fd := FL
  exact law_end KX n1 n2 n3 n4 n5 ha hi hl hbits (k := 9) ⟨rfl, by decide, by decide⟩ (fun base _ => law_all A FL) fun s u => FL.bindsA (ps := ["_law_script"]) (fun _ _ _ _ _ _ us hl => match us, hl with | [_], _ => rfl) s [u] rfl
end K20
open PySem PySem.W PySem.Calls PyProof.Rows
theorem PySem.Challenge.cw_allworlds_k20_whole_clusters_sizes_and_f_holds : PySem.Challenge.rw_allworlds_k20_whole_clusters_sizes_and_f.Holds := by
  w_on; o_law
  refine HandSHeadRun.head_any (r := K20.R) (q := K20.qv) (H := K20.hk) (ob := K20.ob) (M := 20000) (loose := K20.loose) (d := HandSHeadRun.topDef K20.R.prog 65) (kwd := []) K20.ob_eq (by kernel_rfl) (fun s => by kernel_rfl) K20.run
    (by kernel_rfl) (by kernel_rfl) (by kernel_rfl) (by rfl) (by first | assumption | decide +kernel) (by decide +kernel) ⟨rfl, rfl, rfl, rfl, rfl, by decide +kernel⟩ ?hw ?hc
  case hw => w_witness2
  case hc =>
    refine Att.attach_callB (l := PySem.Challenge.rw_allworlds_k20_whole_clusters_sizes_and_f) (n := 63) rfl (by kernel_rfl) fun w s₀ s₁ mg mb fa o pm cd doc a vs ns G Y ho hd hcd hmg hobj hints hlen hbits hg => ?_
    obtain ⟨K, KX, c⟩ := Y
    have hmg1 : mg ("law" : PySem.Str) = some (.ref fa) := by
      have e : (HandSHeadRun.topDef K20.R.prog 65).name = ("law" : PySem.Str) := by kernel_rfl
      rw [← e]
      exact hmg
    exact K20.law_done KX c G.T.g G.T.b G.T.builtins G.T.nolimit hg hmg1 hobj hints hlen hbits
