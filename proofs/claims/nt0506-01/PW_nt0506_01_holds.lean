import PyProof.Rows.All
import Wide.All
import OpenK.AllK
import Wide.FinOn
import KE.BytesMake
import PyProof.InstStoreFacts
import PyProof.ExcClass2
import PyProof.ExcBaseAll.Exception
import PyProof.ExcAttrAll.Exception
import PySem.Challenge.RW_nt0506_01
set_option Elab.async false
set_option maxRecDepth 100000
set_option maxHeartbeats 0
set_option autoImplicit false
set_option linter.all false
namespace Mine
open PySem PySem.W PySem.Calls PyProof.Rows
inductive Nth {α : Type} : List α → Nat → α → Prop
 | z {a : α} {l : List α} : Nth (a :: l) 0 a
 | s {a b : α} {l : List α} {i : Nat} : Nth l i a → Nth (b :: l) (i + 1) a
theorem Nth.get {α : Type} {l : List α} {i : Nat} {a : α} (h : Nth l i a) : l[i]? = some a := by
 induction h with
 | z => rfl
 | s _ ih => simpa using ih
theorem Nth.lt {α : Type} {l : List α} {i : Nat} {a : α} (h : Nth l i a) : i < l.length := (List.getElem?_eq_some_iff.mp h.get).1
theorem Nth.of {α : Type} : ∀ {l : List α} {i : Nat} {a : α}, l[i]? = some a → Nth l i a
 | _ :: _, 0, _, h => by simp at h; subst h; exact .z
 | _ :: l, i + 1, a, h => .s (Nth.of (l := l) (by simpa using h))
inductive AV where
 | un | none | bool (b : Bool) | int (i : Int) | str (s : Str) | bytes (b : List UInt8)
 | val (v : Value) | obj (k : Nat)
 | tup (vs : List AV) | lst (vs : List AV) | ins (C : Addr) (ns : List Str) (vs : List AV)
inductive AO where
 | inst (C : Addr) (ns : List Str) (vs : List AV)
 | list (vs : List AV)
 | barr (b : List UInt8)
 | sdict (hs : Str → Int) (ns : List Str) (vs : List AV)
 | idict (n : Nat)
 | raw (os : List Obj)
 | gone
noncomputable abbrev Own := List (List Addr)
noncomputable abbrev Led := List (Addr × Obj)
noncomputable def IsNs (od : Obj) (m : Str → Option Value) : Prop := ∃ es ep, od.data = .dict es ep ∧ StrKeys es ∧ ∀ x, nsFind es x = m x
abbrev QT := AV → List AO → Prop
abbrev RT := List UInt8 → List AO → Prop
theorem ns_iff {h : Heap} {d : Addr} {m : Str → Option Value} : h.Ns d m ↔ ∃ od, h.get? d = some od ∧ IsNs od m :=
 ⟨fun ⟨o, es, ep, a, b, c, e⟩ => ⟨o, a, es, ep, b, c, e⟩, fun ⟨o, a, es, ep, b, c, e⟩ => ⟨o, es, ep, a, b, c, e⟩⟩
noncomputable def tupObj (cs : List Value) (n : Nat) : Obj := { cls := .type "tuple", data := .seq cs.toArray n }
noncomputable def IsLst (o : Obj) (cs : List Value) : Prop := o.cls = .type "list" ∧ ∃ n, o.data = .seq cs.toArray n
mutual
noncomputable def CV (E : Own) (F : Led) : AV → Value → Prop
 | .un, _ => False
 | .none, v => v = .none
 | .bool b, v => v = .bool b
 | .int i, v => ∃ t, v = .int i t
 | .str x, v => ∃ t, v = .str x t
 | .bytes b, v => ∃ t, v = .bytes b.toArray t
 | .val u, v => v = u
 | .obj k, v => ∃ a r, E[k]? = some (a :: r) ∧ v = .ref a
 | .tup vs, v => ∃ a cs n, v = .ref a ∧ (a, tupObj cs n) ∈ F ∧ CVs E F vs cs
 | .lst vs, v => ∃ a cs o, v = .ref a ∧ (a, o) ∈ F ∧ IsLst o cs ∧ CVs E F vs cs
 | .ins C ns vs, v => ∃ a d od m, v = .ref a ∧ (a, instObj C d) ∈ F ∧ (d, od) ∈ F ∧ IsNs od m ∧ (∀ x, x ∉ ns → m x = Option.none) ∧ CVf E F m ns vs
noncomputable def CVs (E : Own) (F : Led) : List AV → List Value → Prop
 | [], cs => cs = []
 | v :: vs, cs => ∃ c r, cs = c :: r ∧ CV E F v c ∧ CVs E F vs r
noncomputable def CVf (E : Own) (F : Led) (m : Str → Option Value) : List Str → List AV → Prop
 | ns, [] => ns = []
 | ns, v :: vs => ∃ x r c, ns = x :: r ∧ m x = some c ∧ CV E F v c ∧ CVf E F m r vs
end
noncomputable def Grow (E : Own) (F : Led) (E' : Own) (F' : Led) : Prop := (∃ X, E' = E ++ X) ∧ ∀ p ∈ F, p ∈ F'
theorem Grow.refl (E : Own) (F : Led) : Grow E F E F := ⟨⟨[], by simp⟩, fun _ h => h⟩
theorem Grow.trans {E E' E'' : Own} {F F' F'' : Led} (x : Grow E F E' F') (y : Grow E' F' E'' F'') : Grow E F E'' F'' := by
 obtain ⟨⟨X, rfl⟩, h⟩ := x
 obtain ⟨⟨Y, rfl⟩, k⟩ := y
 exact ⟨⟨X ++ Y, by simp⟩, fun p hp => k p (h p hp)⟩
theorem Grow.get {E E' : Own} {F F' : Led} (x : Grow E F E' F') {k : Nat} {as : List Addr} (h : E[k]? = some as) : E'[k]? = some as := by
 obtain ⟨⟨X, rfl⟩, _⟩ := x
 rw [List.getElem?_append_left (List.getElem?_eq_some_iff.mp h).1]; exact h
theorem Grow.own (E X : Own) (F : Led) : Grow E F (E ++ X) F := ⟨⟨X, rfl⟩, fun _ h => h⟩
theorem Grow.froz (E : Own) (F X : Led) : Grow E F E (X ++ F) := ⟨⟨[], by simp⟩, fun _ h => List.mem_append_right _ h⟩
mutual
theorem CV.grow {E E' : Own} {F F' : Led} (g : Grow E F E' F') : ∀ (v : AV) (c : Value), CV E F v c → CV E' F' v c
 | .un, _, h => by simp [CV] at h
 | .none, _, h => by simpa [CV] using h
 | .bool _, _, h => by simpa [CV] using h
 | .int _, _, h => by simpa [CV] using h
 | .str _, _, h => by simpa [CV] using h
 | .bytes _, _, h => by simpa [CV] using h
 | .val _, _, h => by simpa [CV] using h
 | .obj k, _, h => by
  simp only [CV] at h ⊢
  obtain ⟨a, r, e, rfl⟩ := h
  exact ⟨a, r, g.get e, rfl⟩
 | .tup vs, _, h => by
  simp only [CV] at h ⊢
  obtain ⟨a, cs, n, rfl, hm, hc⟩ := h
  exact ⟨a, cs, n, rfl, g.2 _ hm, CVs.grow g vs cs hc⟩
 | .lst vs, _, h => by
  simp only [CV] at h ⊢
  obtain ⟨a, cs, n, rfl, hm, hl, hc⟩ := h
  exact ⟨a, cs, n, rfl, g.2 _ hm, hl, CVs.grow g vs cs hc⟩
 | .ins C ns vs, _, h => by
  simp only [CV] at h ⊢
  obtain ⟨a, d, od, m, rfl, h1, h2, h3, h5, h6⟩ := h
  exact ⟨a, d, od, m, rfl, g.2 _ h1, g.2 _ h2, h3, h5, CVf.grow g m ns vs h6⟩
theorem CVs.grow {E E' : Own} {F F' : Led} (g : Grow E F E' F') : ∀ (vs : List AV) (cs : List Value), CVs E F vs cs → CVs E' F' vs cs
 | [], _, h => by simpa [CVs] using h
 | v :: vs, _, h => by
  simp only [CVs] at h ⊢
  obtain ⟨c, r, rfl, h1, h2⟩ := h
  exact ⟨c, r, rfl, CV.grow g v c h1, CVs.grow g vs r h2⟩
theorem CVf.grow {E E' : Own} {F F' : Led} (g : Grow E F E' F') (m : Str → Option Value) : ∀ (ns : List Str) (vs : List AV), CVf E F m ns vs → CVf E' F' m ns vs
 | _, [], h => by simpa [CVf] using h
 | _, v :: vs, h => by
  simp only [CVf] at h ⊢
  obtain ⟨x, r, c, rfl, hm, h1, h2⟩ := h
  exact ⟨x, r, c, rfl, hm, CV.grow g v c h1, CVf.grow g m r vs h2⟩
end
theorem CVs.len {E : Own} {F : Led} : ∀ {vs : List AV} {cs : List Value}, CVs E F vs cs → cs.length = vs.length
 | [], _, h => by simp only [CVs] at h; subst h; rfl
 | v :: vs, _, h => by
  simp only [CVs] at h
  obtain ⟨c, r, rfl, _, h2⟩ := h
  simp [CVs.len h2]
theorem CVs.get {E : Own} {F : Led} : ∀ {vs : List AV} {cs : List Value} {i : Nat} {v : AV}, CVs E F vs cs → vs[i]? = some v → ∃ c, cs[i]? = some c ∧ CV E F v c
 | [], _, _, _, _, e => by simp at e
 | _ :: _, _, 0, _, h, e => by
  simp only [CVs] at h
  obtain ⟨c, r, rfl, h1, _⟩ := h
  simp at e; subst e
  exact ⟨c, rfl, h1⟩
 | _ :: vs, _, i + 1, _, h, e => by
  simp only [CVs] at h
  obtain ⟨c, r, rfl, _, h2⟩ := h
  simpa using CVs.get (i := i) h2 (by simpa using e)
theorem CVs.app {E : Own} {F : Led} : ∀ {vs ws : List AV} {cs ds : List Value}, CVs E F vs cs → CVs E F ws ds → CVs E F (vs ++ ws) (cs ++ ds)
 | [], _, _, _, h, k => by simp only [CVs] at h; subst h; exact k
 | v :: vs, _, _, _, h, k => by
  simp only [CVs] at h
  obtain ⟨c, r, rfl, h1, h2⟩ := h
  simp only [List.cons_append, CVs]
  exact ⟨c, _, rfl, h1, CVs.app h2 k⟩
theorem CVs.one {E : Own} {F : Led} {v : AV} {c : Value} (h : CV E F v c) : CVs E F [v] [c] := by simp only [CVs]; exact ⟨c, [], rfl, h, rfl⟩
theorem CVs.nil {E : Own} {F : Led} : CVs E F [] [] := by simp only [CVs]
theorem CVs.cons {E : Own} {F : Led} {v : AV} {c : Value} {vs : List AV} {cs : List Value} (h : CV E F v c) (k : CVs E F vs cs) : CVs E F (v :: vs) (c :: cs) := by
 simp only [CVs]; exact ⟨c, cs, rfl, h, k⟩
theorem CVs.take {E : Own} {F : Led} : ∀ {vs : List AV} {cs : List Value} (n : Nat), CVs E F vs cs → CVs E F (vs.take n) (cs.take n)
 | _, _, 0, _ => by simp [CVs]
 | [], _, n + 1, h => by simp only [CVs] at h; subst h; simp [CVs]
 | v :: vs, _, n + 1, h => by
  simp only [CVs] at h
  obtain ⟨c, r, rfl, h1, h2⟩ := h
  simp only [List.take_succ_cons]
  exact CVs.cons h1 (CVs.take n h2)
theorem CVs.drop {E : Own} {F : Led} : ∀ {vs : List AV} {cs : List Value} (n : Nat), CVs E F vs cs → CVs E F (vs.drop n) (cs.drop n)
 | _, _, 0, h => by simpa using h
 | [], _, n + 1, h => by simp only [CVs] at h; subst h; simp [CVs]
 | v :: vs, _, n + 1, h => by
  simp only [CVs] at h
  obtain ⟨c, r, rfl, _, h2⟩ := h
  simpa using CVs.drop n h2
theorem CVf.get {E : Own} {F : Led} {m : Str → Option Value} : ∀ {ns : List Str} {vs : List AV} {i : Nat} {x : Str} {v : AV}, CVf E F m ns vs → Nth ns i x → Nth vs i v → ∃ c, m x = some c ∧ CV E F v c
 | _, [], _, _, _, _, _, h => by cases h
 | _, v :: vs, _, _, _, h, a, b => by
  simp only [CVf] at h
  obtain ⟨x, r, c, rfl, hm, h1, h2⟩ := h
  cases b with
  | z => cases a with | z => exact ⟨c, hm, h1⟩
  | s b => cases a with | s a => exact CVf.get h2 a b
theorem CVf.len {E : Own} {F : Led} {m : Str → Option Value} : ∀ {ns : List Str} {vs : List AV}, CVf E F m ns vs → ns.length = vs.length
 | _, [], h => by simp only [CVf] at h; subst h; rfl
 | _, _ :: _, h => by
  simp only [CVf] at h
  obtain ⟨x, r, c, rfl, _, _, h2⟩ := h
  simp [CVf.len h2]
theorem CVf.congr {E : Own} {F : Led} {m m' : Str → Option Value} : ∀ {ns : List Str} {vs : List AV}, CVf E F m ns vs → (∀ x ∈ ns, m' x = m x) → CVf E F m' ns vs
 | _, [], h, _ => by simp only [CVf] at h ⊢; exact h
 | _, _ :: _, h, k => by
  simp only [CVf] at h ⊢
  obtain ⟨x, r, c, rfl, hm, h1, h2⟩ := h
  exact ⟨x, r, c, rfl, (k x (by simp)).trans hm, h1, CVf.congr h2 fun y hy => k y (by simp [hy])⟩
theorem CVf.set {E : Own} {F : Led} {m : Str → Option Value} {x : Str} {u : AV} {c : Value} (hu : CV E F u c) : ∀ {ns : List Str} {vs : List AV} {i : Nat}, ns.Nodup → CVf E F m ns vs → Nth ns i x →
  CVf E F (fun y => if y = x then some c else m y) ns (vs.set i u)
 | _, [], _, _, h, a => by simp only [CVf] at h; subst h; cases a
 | _, v :: vs, _, nd, h, a => by
  simp only [CVf] at h
  obtain ⟨y, r, d, rfl, hm, h1, h2⟩ := h
  cases a with
  | z =>
   simp only [List.set_cons_zero, CVf]
   refine ⟨x, r, c, rfl, by simp, hu, h2.congr fun z hz => ?_⟩
   rw [if_neg]
   intro e; subst e
   exact (List.nodup_cons.mp nd).1 hz
  | s a =>
   simp only [List.set_cons_succ, CVf]
   refine ⟨y, r, d, rfl, ?_, h1, CVf.set hu (List.nodup_cons.mp nd).2 h2 a⟩
   rw [if_neg]; exact hm
   intro e; subst e
   exact (List.nodup_cons.mp nd).1 (List.mem_of_getElem? a.get)
theorem CVf.snoc {E : Own} {F : Led} {m : Str → Option Value} {x : Str} {u : AV} {c : Value} (hu : CV E F u c) : ∀ {ns : List Str} {vs : List AV}, x ∉ ns → CVf E F m ns vs →
  CVf E F (fun y => if y = x then some c else m y) (ns ++ [x]) (vs ++ [u])
 | _, [], _, h => by
  simp only [CVf] at h; subst h
  simp only [List.nil_append, CVf]
  exact ⟨x, [], c, rfl, by simp, hu, rfl⟩
 | _, v :: vs, nx, h => by
  simp only [CVf] at h
  obtain ⟨y, r, d, rfl, hm, h1, h2⟩ := h
  simp only [List.cons_append, CVf]
  refine ⟨y, r ++ [x], d, rfl, ?_, h1, CVf.snoc hu (fun e => nx (by simp [e])) h2⟩
  rw [if_neg]; exact hm
  intro e; subst e; exact nx (by simp)
theorem CVf.nil {E : Own} {F : Led} {m : Str → Option Value} : CVf E F m [] [] := by simp only [CVf]
section
theorem noLt {a b : Nat} (h1 : b ≤ a) (h2 : a < b) : False := absurd (Nat.lt_of_lt_of_le h2 h1) (Nat.lt_irrefl _)
noncomputable def KB (D : List Addr) (h h' : Heap) : Prop := h.objs.size ≤ h'.objs.size ∧ ∀ b o, b ∉ D → h.get? b = some o → h'.get? b = some o
theorem KB.refl (D : List Addr) (h : Heap) : KB D h h := ⟨Nat.le_refl _, fun _ _ _ e => e⟩
theorem KB.trans {D : List Addr} {h h' h'' : Heap} (x : KB D h h') (y : KB D h' h'') : KB D h h'' := ⟨Nat.le_trans x.1 y.1, fun b o n e => y.2 b o n (x.2 b o n e)⟩
theorem KB.push (D : List Addr) (h : Heap) (o : Obj) : KB D h (h.push o) := ⟨by simp, fun _ _ _ e => Heap.get?_push_of_some _ e⟩
theorem KB.same {a : Addr} {h h' : Heap} (x : Heap.SameBut a h h') : KB [a] h h' := ⟨Nat.le_of_eq x.1.symm, fun b o n e => (x.2 b (by simpa using n)).trans e⟩
theorem KB.ns {D : List Addr} {h h' : Heap} {d : Addr} {m : Str → Option Value} (x : KB D h h') (n : d ∉ D) (k : h.Ns d m) : h'.Ns d m := by
 obtain ⟨o, a, b⟩ := ns_iff.mp k
 exact ns_iff.mpr ⟨o, x.2 _ _ n a, b⟩
noncomputable def barrObj (b : List UInt8) : Obj := { cls := .type "bytearray", data := .bytearray b.toArray 0 }
noncomputable def SD (hs : Str → Int) (kvs : List (Str × Value)) (o : Obj) : Prop := ∃ es ep, o.ExactDict ∧ o.data = .dict es ep ∧ (∀ e ∈ es, ∃ k, Value.isStrOf k e.key = true ∧ e.hash = hs k) ∧ (∀ prog w, Pairs (strKind prog w) es.toList kvs) ∧ (kvs.map (·.1)).Nodup
noncomputable def ID (n : Nat) (o : Obj) : Prop := o.cls = .type "dict" ∧ ∃ es ep, ∃ f : Int → Option Value, o.data = .dict es ep ∧ PySem.IntKeys es ∧ (∀ k, findBy Value.isInt es k = f k) ∧ es.size ≤ n
inductive RInst (E : Own) (F : Led) (h : Heap) (C : Addr) (ns : List Str) (vs : List AV) (as : List Addr) : Prop
 | mk (a d : Addr) (es : List DictEntry) (n : Nat) (m : Str → Option Value) (e : as = [a, d]) (h1 : h.get? a = some (instObj C d)) (h2 : h.get? d = some (dictOf es n)) (h3 : IsNs (dictOf es n) m) (h4 : es.length ≤ ns.length) (h5 : ∀ x, x ∉ ns → m x = none) (h6 : CVf E F m ns vs) : RInst E F h C ns vs as
inductive RList (E : Own) (F : Led) (h : Heap) (vs : List AV) (as : List Addr) : Prop
 | mk (a : Addr) (n : Nat) (cs : List Value) (e : as = [a]) (h1 : h.get? a = some (listOf cs.toArray n)) (h2 : CVs E F vs cs) : RList E F h vs as
inductive RSd (E : Own) (F : Led) (h : Heap) (hs : Str → Int) (ns : List Str) (vs : List AV) (as : List Addr) : Prop
 | mk (a : Addr) (o : Obj) (kvs : List (Str × Value)) (e : as = [a]) (h1 : h.get? a = some o) (h2 : SD hs kvs o) (h3 : kvs.map (·.1) = ns) (h4 : CVs E F vs (kvs.map (·.2))) : RSd E F h hs ns vs as
noncomputable def RepO (E : Own) (F : Led) (h : Heap) : AO → List Addr → Prop
 | .inst C ns vs, as => RInst E F h C ns vs as
 | .list vs, as => RList E F h vs as
 | .barr b, as => ∃ a, as = [a] ∧ h.get? a = some (barrObj b)
 | .sdict hs ns vs, as => RSd E F h hs ns vs as
 | .idict n, as => ∃ a o, as = [a] ∧ h.get? a = some o ∧ ID n o
 | .raw os, as => as.map h.get? = os.map some
 | .gone, as => ∀ a ∈ as, ∃ o, h.get? a = some o
theorem RepO.grow {E E' : Own} {F F' : Led} {h : Heap} (g : Grow E F E' F') : ∀ {o : AO} {as : List Addr}, RepO E F h o as → RepO E' F' h o as
 | .inst .., _, ⟨a, d, es, n, m, e, h1, h2, h3, hz, h4, h5⟩ => ⟨a, d, es, n, m, e, h1, h2, h3, hz, h4, CVf.grow g _ _ _ h5⟩
 | .list _, _, ⟨a, n, cs, e, h1, h2⟩ => ⟨a, n, cs, e, h1, CVs.grow g _ _ h2⟩
 | .barr _, _, x => x
 | .sdict .., _, ⟨a, o, m, e, h1, h2, h3, h4⟩ => ⟨a, o, m, e, h1, h2, h3, CVs.grow g _ _ h4⟩
 | .idict _, _, x => x
 | .raw _, _, x => x
 | .gone, _, x => x
theorem RepO.keep' {E : Own} {F : Led} {h h' : Heap} {D : List Addr} (k : ∀ b o, b ∉ D → h.get? b = some o → h'.get? b = some o) : ∀ {o : AO} {as : List Addr}, (∀ a ∈ as, a ∉ D) → RepO E F h o as → RepO E F h' o as
 | .inst .., _, n, ⟨a, d, es, c, m, e, h1, h2, h3, hz, h4, h5⟩ => ⟨a, d, es, c, m, e, k _ _ (n a (by simp [e])) h1, k _ _ (n d (by simp [e])) h2, h3, hz, h4, h5⟩
 | .list _, _, n, ⟨a, c, cs, e, h1, h2⟩ => ⟨a, c, cs, e, k _ _ (n a (by simp [e])) h1, h2⟩
 | .barr _, _, n, ⟨a, e, h1⟩ => ⟨a, e, k _ _ (n a (by simp [e])) h1⟩
 | .sdict .., _, n, ⟨a, o, m, e, h1, h2, h3, h4⟩ => ⟨a, o, m, e, k _ _ (n a (by simp [e])) h1, h2, h3, h4⟩
 | .idict _, _, n, ⟨a, o, e, h1, h2⟩ => ⟨a, o, e, k _ _ (n a (by simp [e])) h1, h2⟩
 | .raw os, as, n, e => by
  simp only [RepO] at e ⊢
  rw [← e]
  apply List.map_congr_left
  intro a ha
  have : ∃ o, h.get? a = some o := by
   have h1 : h.get? a ∈ as.map h.get? := List.mem_map.mpr ⟨a, ha, rfl⟩
   rw [e] at h1
   obtain ⟨o, _, q⟩ := List.mem_map.mp h1
   exact ⟨o, q.symm⟩
  obtain ⟨o, q⟩ := this
  rw [q, k _ _ (n a ha) q]
 | .gone, _, n, x => fun a ha => let ⟨o, q⟩ := x a ha; ⟨o, k _ _ (n a ha) q⟩
theorem RepO.keep {E : Own} {F : Led} {h h' : Heap} {D : List Addr} (k : KB D h h') {o : AO} {as : List Addr} (n : ∀ a ∈ as, a ∉ D) (x : RepO E F h o as) : RepO E F h' o as := RepO.keep' k.2 n x
theorem RepO.live {E : Own} {F : Led} {h : Heap} : ∀ {o : AO} {as : List Addr}, RepO E F h o as → ∀ a ∈ as, ∃ o, h.get? a = some o
 | .inst .., _, ⟨a, d, es, c, m, e, h1, h2, _, _, _, _⟩, b, hb => by
  subst e
  simp only [List.mem_cons, List.not_mem_nil, or_false] at hb
  rcases hb with rfl | rfl
  ·exact ⟨_, h1⟩
  ·exact ⟨_, h2⟩
 | .list _, _, ⟨a, c, cs, e, h1, h2⟩, b, hb => by subst e; rw [List.mem_singleton.mp hb]; exact ⟨_, h1⟩
 | .barr _, _, ⟨a, e, h1⟩, b, hb => by subst e; rw [List.mem_singleton.mp hb]; exact ⟨_, h1⟩
 | .sdict .., _, ⟨a, o, m, e, h1, _, _, _⟩, b, hb => by subst e; rw [List.mem_singleton.mp hb]; exact ⟨_, h1⟩
 | .idict _, _, ⟨a, o, e, h1, h2⟩, b, hb => by subst e; rw [List.mem_singleton.mp hb]; exact ⟨_, h1⟩
 | .raw os, as, e, b, hb => by
  simp only [RepO] at e
  have h1 : h.get? b ∈ as.map h.get? := List.mem_map.mpr ⟨b, hb, rfl⟩
  rw [e] at h1
  obtain ⟨o, _, q⟩ := List.mem_map.mp h1
  exact ⟨o, q.symm⟩
 | .gone, _, x, b, hb => x b hb
theorem flat_off : ∀ {E : Own} {j k : Nat} {as bs : List Addr}, E.flatten.Nodup → E[k]? = some as → E[j]? = some bs → j ≠ k → ∀ b ∈ bs, b ∉ as
 | [], _, _, _, _, _, h, _, _ => by simp at h
 | x :: r, 0, 0, _, _, _, _, _, n => absurd rfl n
 | x :: r, 0, k + 1, as, bs, nd, hk, hj, _ => by
  simp at hj hk; subst hj
  intro b hb ha
  rw [List.flatten_cons, List.nodup_append] at nd
  exact nd.2.2 b hb b (List.mem_flatten.mpr ⟨as, List.mem_of_getElem? hk, ha⟩) rfl
 | x :: r, j + 1, 0, as, bs, nd, hk, hj, _ => by
  simp at hj hk; subst hk
  intro b hb ha
  rw [List.flatten_cons, List.nodup_append] at nd
  exact nd.2.2 b ha b (List.mem_flatten.mpr ⟨bs, List.mem_of_getElem? hj, hb⟩) rfl
 | x :: r, j + 1, k + 1, as, bs, nd, hk, hj, n => by
  simp at hj hk
  rw [List.flatten_cons, List.nodup_append] at nd
  exact flat_off nd.2.1 hk hj (by omega)
structure HpOK (fs : List Addr) (E : Own) (F : Led) (H : List AO) (h : Heap) : Prop where
 len : E.length = H.length
 nd : E.flatten.Nodup
 offE : ∀ a ∈ E.flatten, a ∉ fs ∧ a < h.objs.size
 offF : ∀ p ∈ F, (∀ (k : Nat) (as : List Addr), E[k]? = some as → p.1 ∈ as → H[k]? = some .gone) ∧ p.1 ∉ fs
 froz : ∀ p ∈ F, h.get? p.1 = some p.2
 ltf : ∀ a ∈ fs, a < h.objs.size
 rep : ∀ (k : Nat) (o : AO) (as : List Addr), H[k]? = some o → E[k]? = some as → RepO E F h o as
section
variable {fs : List Addr} {E : Own} {F : Led} {H : List AO} {h h' : Heap}
theorem HpOK.at (x : HpOK fs E F H h) {k : Nat} {o : AO} (e : H[k]? = some o) : ∃ as, E[k]? = some as ∧ RepO E F h o as := by
 have : k < E.length := by rw [x.len]; exact (List.getElem?_eq_some_iff.mp e).1
 exact ⟨E[k], by simp [this], x.rep k o _ e (by simp [this])⟩
theorem HpOK.keep (x : HpOK fs E F H h) {D : List Addr} (k : KB D h h') (hD : ∀ a ∈ D, a ∉ E.flatten ∧ ∀ p ∈ F, p.1 ≠ a) : HpOK fs E F H h' where
 len := x.len
 nd := x.nd
 offE a ha := ⟨(x.offE a ha).1, Nat.lt_of_lt_of_le (x.offE a ha).2 k.1⟩
 offF := x.offF
 froz p hp := k.2 _ _ (fun q => (hD _ q).2 p hp rfl) (x.froz p hp)
 ltf a ha := Nat.lt_of_lt_of_le (x.ltf a ha) k.1
 rep i o as e1 e2 := (x.rep i o as e1 e2).keep k fun a ha hd => (hD a hd).1 (List.mem_flatten.mpr ⟨as, List.mem_of_getElem? e2, ha⟩)
theorem HpOK.keep0 (x : HpOK fs E F H h) (k : KB [] h h') : HpOK fs E F H h' := x.keep k fun _ h => nomatch h
theorem HpOK.set (x : HpOK fs E F H h) {k : Nat} {as : List Addr} {o' : AO} (e : E[k]? = some as) (ng : H[k]? ≠ some .gone) (kb : KB as h h') (ro : RepO E F h' o' as) : HpOK fs E F (H.set k o') h' where
 len := by simp [x.len]
 nd := x.nd
 offE a ha := ⟨(x.offE a ha).1, Nat.lt_of_lt_of_le (x.offE a ha).2 kb.1⟩
 offF p hp := by
  refine ⟨fun i bs e1 e2 => ?_, (x.offF p hp).2⟩
  have h1 := (x.offF p hp).1 i bs e1 e2
  rw [List.getElem?_set_ne (fun q => by subst q; exact ng h1)]; exact h1
 froz p hp := kb.2 _ _ (fun q => ng ((x.offF p hp).1 k as e q)) (x.froz p hp)
 ltf a ha := Nat.lt_of_lt_of_le (x.ltf a ha) kb.1
 rep i o bs e1 e2 := by
  by_cases q : i = k
  ·subst q
   rw [e] at e2; cases e2
   rw [List.getElem?_set] at e1
   simp only [if_true] at e1
   split at e1
   ·cases e1; exact ro
   ·cases e1
  ·rw [List.getElem?_set_ne (Ne.symm q)] at e1
   exact (x.rep i o bs e1 e2).keep kb fun a ha => flat_off x.nd e e2 q a ha
theorem HpOK.live (x : HpOK fs E F H h) {a : Addr} (ha : a ∈ E.flatten) : ∃ o, h.get? a = some o := by
 obtain ⟨as, h1, h2⟩ := List.mem_flatten.mp ha
 obtain ⟨k, hk⟩ := List.mem_iff_getElem?.mp h1
 have : k < H.length := by rw [← x.len]; exact (List.getElem?_eq_some_iff.mp hk).1
 exact (x.rep k H[k] as (by simp [this]) hk).live a h2
theorem HpOK.loose (x : HpOK fs E F H h) {k : Nat} {as : List Addr} {o' : AO} (e : E[k]? = some as) (ng : H[k]? ≠ some .gone) (kb : ∀ b o, b ∉ as → h.get? b = some o → h'.get? b = some o) (hf : ∀ a ∈ fs, ∃ o, h.get? a = some o) (ro : RepO E F h' o' as) : HpOK fs E F (H.set k o') h' := by
 have al : ∀ a ∈ E.flatten, ∃ o, h'.get? a = some o := fun a ha => by
  by_cases q : a ∈ as
  ·exact ro.live a q
  ·obtain ⟨o, z⟩ := x.live ha
   exact ⟨o, kb a o q z⟩
 have off : ∀ a ∈ as, a ∈ E.flatten := fun a ha => List.mem_flatten.mpr ⟨as, List.mem_of_getElem? e, ha⟩
 exact {
  len := by simp [x.len]
  nd := x.nd
  offE := fun a ha => ⟨(x.offE a ha).1, let ⟨o, z⟩ := al a ha; Heap.lt_size z⟩
  offF := fun p hp => by
   refine ⟨fun i bs e1 e2 => ?_, (x.offF p hp).2⟩
   have h1 := (x.offF p hp).1 i bs e1 e2
   rw [List.getElem?_set_ne (fun q => by subst q; exact ng h1)]; exact h1
  froz := fun p hp => kb _ _ (fun q => ng ((x.offF p hp).1 k as e q)) (x.froz p hp)
  ltf := fun a ha => let ⟨o, z⟩ := hf a ha; Heap.lt_size (kb a o (fun q => (x.offE a (off a q)).1 ha) z)
  rep := fun i o bs e1 e2 => by
   by_cases q : i = k
   ·subst q
    rw [e] at e2; cases e2
    rw [List.getElem?_set] at e1
    simp only [if_true] at e1
    split at e1
    ·cases e1; exact ro
    ·cases e1
   ·rw [List.getElem?_set_ne (Ne.symm q)] at e1
    exact RepO.keep' kb (fun a ha => flat_off x.nd e e2 q a ha) (x.rep i o bs e1 e2) }
theorem HpOK.new (x : HpOK fs E F H h) {as : List Addr} {o : AO} (kb : KB [] h h') (hn : as.Nodup) (ha : ∀ a ∈ as, h.objs.size ≤ a ∧ a < h'.objs.size) (ro : RepO (E ++ [as]) F h' o as) : HpOK fs (E ++ [as]) F (H ++ [o]) h' where
 len := by simp [x.len]
 nd := by
  rw [List.flatten_append, List.nodup_append]
  refine ⟨x.nd, by simpa using hn, fun a h1 b h2 q => ?_⟩
  subst q
  exact noLt (ha a (by simpa using h2)).1 (x.offE a h1).2
 offE a h1 := by
  rw [List.flatten_append, List.mem_append] at h1
  rcases h1 with h1 | h1
  ·exact ⟨(x.offE a h1).1, Nat.lt_of_lt_of_le (x.offE a h1).2 kb.1⟩
  ·have h2 := ha a (by simpa using h1)
   exact ⟨fun q => noLt h2.1 (x.ltf a q), h2.2⟩
 offF p hp := by
  refine ⟨fun i bs e1 e2 => ?_, (x.offF p hp).2⟩
  by_cases q : i < E.length
  ·rw [List.getElem?_append_left q] at e1
   rw [List.getElem?_append_left (by rw [← x.len]; exact q)]
   exact (x.offF p hp).1 i bs e1 e2
  ·have : bs = as := by
    have hi := (List.getElem?_eq_some_iff.mp e1).1
    simp at hi
    have : i = E.length := by omega
    subst this
    simp at e1; exact e1.symm
   subst this
   exact (noLt (ha _ e2).1 (Heap.lt_size (x.froz p hp))).elim
 froz p hp := kb.2 _ _ (by simp) (x.froz p hp)
 ltf a h1 := Nat.lt_of_lt_of_le (x.ltf a h1) kb.1
 rep i o' bs e1 e2 := by
  by_cases q : i < H.length
  ·rw [List.getElem?_append_left q] at e1
   rw [List.getElem?_append_left (by rw [x.len]; exact q)] at e2
   exact ((x.rep i o' bs e1 e2).keep kb (by simp)).grow (Grow.own E [as] F)
  ·have hi : i = H.length := by
    have := (List.getElem?_eq_some_iff.mp e1).1
    simp at this; omega
   subst hi
   simp at e1
   rw [← x.len] at e2
   simp at e2
   subst e1 e2
   exact ro
theorem HpOK.frz (x : HpOK fs E F H h) {X : Led} (kb : KB [] h h') (hX : ∀ p ∈ X, h'.get? p.1 = some p.2 ∧ h.objs.size ≤ p.1) : HpOK fs E (X ++ F) H h' where
 len := x.len
 nd := x.nd
 offE a ha := ⟨(x.offE a ha).1, Nat.lt_of_lt_of_le (x.offE a ha).2 kb.1⟩
 offF p hp := by
  rcases List.mem_append.mp hp with hp | hp
  ·have := (hX p hp).2
   exact ⟨fun i bs e1 e2 => (noLt this (x.offE _ (List.mem_flatten.mpr ⟨bs, List.mem_of_getElem? e1, e2⟩)).2).elim, fun q => noLt this (x.ltf _ q)⟩
  ·exact x.offF p hp
 froz p hp := by
  rcases List.mem_append.mp hp with hp | hp
  ·exact (hX p hp).1
  ·exact kb.2 _ _ (by simp) (x.froz p hp)
 ltf a ha := Nat.lt_of_lt_of_le (x.ltf a ha) kb.1
 rep i o as e1 e2 := ((x.rep i o as e1 e2).keep kb (by simp)).grow (Grow.froz E F X)
theorem HpOK.ice (x : HpOK fs E F H h) {k : Nat} {o : AO} {as : List Addr} {X : Led} (e : E[k]? = some as) (ho : H[k]? = some o) (hX : ∀ p ∈ X, p.1 ∈ as ∧ h.get? p.1 = some p.2) (no : o ≠ .gone) : HpOK fs E (X ++ F) (H.set k .gone) h where
 len := by simp [x.len]
 nd := x.nd
 offE := x.offE
 offF p hp := by
  rcases List.mem_append.mp hp with hp | hp
  ·have hm : ∀ bs, p.1 ∈ bs → bs = as → p.1 ∈ as := fun bs a b => b ▸ a
   refine ⟨fun i bs e1 e2 => ?_, (x.offE _ (List.mem_flatten.mpr ⟨as, List.mem_of_getElem? e, (hX p hp).1⟩)).1⟩
   by_cases q : i = k
   ·subst q
    rw [List.getElem?_set, if_pos rfl, if_pos (List.getElem?_eq_some_iff.mp ho).1]
   ·exact absurd e2 (flat_off x.nd e1 e (Ne.symm q) _ (hX p hp).1)
  ·refine ⟨fun i bs e1 e2 => ?_, (x.offF p hp).2⟩
   have h1 := (x.offF p hp).1 i bs e1 e2
   by_cases q : i = k
   ·subst q
    rw [ho] at h1; cases h1; exact absurd rfl no
   ·rw [List.getElem?_set_ne (Ne.symm q)]; exact h1
 froz p hp := by
  rcases List.mem_append.mp hp with hp | hp
  ·exact (hX p hp).2
  ·exact x.froz p hp
 ltf := x.ltf
 rep i o' bs e1 e2 := by
  by_cases q : i = k
  ·subst q
   rw [List.getElem?_set, if_pos rfl] at e1
   split at e1
   ·cases e1
    rw [e] at e2; cases e2
    exact (x.rep i o as ho e).live
   ·cases e1
  ·rw [List.getElem?_set_ne (Ne.symm q)] at e1
   exact (x.rep i o' bs e1 e2).grow (Grow.froz E F X)
theorem HpOK.frame (x : HpOK fs E F H h) {fs' : List Addr} (h1 : ∀ a ∈ fs', a ∈ fs) : HpOK fs' E F H h where
 len := x.len
 nd := x.nd
 offE a ha := ⟨fun q => (x.offE a ha).1 (h1 a q), (x.offE a ha).2⟩
 offF p hp := ⟨(x.offF p hp).1, fun q => (x.offF p hp).2 (h1 _ q)⟩
 froz := x.froz
 ltf a ha := x.ltf a (h1 a ha)
 rep := x.rep
theorem HpOK.enter (x : HpOK fs E F H h) (kb : KB [] h h') {L : Addr} (hL : h.objs.size ≤ L ∧ L < h'.objs.size) : HpOK (L :: fs) E F H h' where
 len := x.len
 nd := x.nd
 offE a ha := by
  have h2 := (x.offE a ha).2
  refine ⟨fun q => ?_, Nat.lt_of_lt_of_le h2 kb.1⟩
  rcases List.mem_cons.mp q with rfl | q
  ·exact noLt hL.1 h2
  ·exact (x.offE a ha).1 q
 offF p hp := by
  refine ⟨(x.offF p hp).1, fun q => ?_⟩
  have h2 := Heap.lt_size (x.froz p hp)
  rcases List.mem_cons.mp q with q | q
  ·exact noLt hL.1 (q ▸ h2)
  ·exact (x.offF p hp).2 q
 froz p hp := kb.2 _ _ (by simp) (x.froz p hp)
 ltf a ha := by
  rcases List.mem_cons.mp ha with rfl | ha
  ·exact hL.2
  ·exact Nat.lt_of_lt_of_le (x.ltf a ha) kb.1
 rep i o as e1 e2 := (x.rep i o as e1 e2).keep kb (by simp)
end
end
section
noncomputable def frs (l : List Env) : List Addr := l.filterMap (·.frame)
structure Sta (K : Frag) (h : Heap) : Prop where
 k : K.In h
 nolim : h.NoLimit
 tops : ∃ mg mb, h.Ns mainGlobals mg ∧ h.Ns builtinsNs mb ∧ ∀ x : Str, x ≠ "__name__" → mb x = bootBuiltins x
theorem Sta.keeps {K : Frag} {h h' : Heap} (x : Sta K h) (k : ∀ b o, h.get? b = some o → h'.get? b = some o) : Sta K h' :=
 ⟨x.k.keeps k, x.nolim.keeps k, let ⟨mg, mb, a, b, c⟩ := x.tops; ⟨mg, mb, a.keeps k, b.keeps k, c⟩⟩
structure FnC where
 qual : Str
 scope : Scope
 ns : List Str
 fa : Addr
 cd : Value
@[reducible] noncomputable def FnC.env (c : FnC) (L : Addr) : Env := envX c.qual c.scope L c.fa c.cd []
structure FnC.Ok (c : FnC) : Prop where
 kind : c.scope.kind = .function
 gen : c.scope.isGenerator = false
 co : c.scope.isCoroutine = false
 cell : ∀ x ∈ c.scope.names, x.2 ≠ .cell
 loc : ∀ x ∈ c.ns, c.scope.names.lookup x = some .local ∧ (x == ("__debug__" : Str)) = false
 nd : c.ns.Nodup
structure Rt where
 outer : List Env
 A₀ : Around
 own₀ : List Addr
 s₀ : Shared
noncomputable def Rt.L (r : Rt) : Addr := r.s₀.heap.objs.size
noncomputable def Rt.g (r : Rt) : Heap := hideAll r.s₀.heap (r.own₀ ++ frs r.outer)
noncomputable def Rt.A (c : FnC) (r : Rt) : Around := r.A₀.deeper (c.env r.L)
noncomputable def Rt.fs (r : Rt) : List Addr := r.L :: frs r.outer
structure RtOk (K : Frag) (r : Rt) (bud : Nat) : Prop where
 fr : r.A₀.frames = some r.outer
 hd : r.A₀.handled = none
 dep : r.A₀.depth + bud ≤ 900
 un : r.A₀.units + 8 * bud ≤ 9000
 sta : Sta K r.g
 ff : r.s₀.heap.FunFrames {} r.outer
structure St where
 vs : List AV
 H : List AO
noncomputable def LocOK (E : Own) (F : Led) (m : Str → Option Value) (ns : List Str) (vs : List AV) : Prop :=
 ns.length = vs.length ∧ ∀ i x v, Nth ns i x → Nth vs i v → v = .un ∨ ∃ c, m x = some c ∧ CV E F v c
theorem LocOK.grow {E E' : Own} {F F' : Led} {m : Str → Option Value} {ns : List Str} {vs : List AV} (g : Grow E F E' F') (x : LocOK E F m ns vs) : LocOK E' F' m ns vs :=
 ⟨x.1, fun i y v a b => (x.2 i y v a b).imp id fun ⟨c, p, q⟩ => ⟨c, p, CV.grow g _ _ q⟩⟩
theorem Nth.inj {α : Type} {l : List α} {i : Nat} {a b : α} (x : Nth l i a) (y : Nth l i b) : a = b := Option.some.inj (x.get.symm.trans y.get)
theorem Nth.nodup {α : Type} {l : List α} {i j : Nat} {a : α} (nd : l.Nodup) (x : Nth l i a) (y : Nth l j a) : i = j := by
 induction x generalizing j with
 | z =>
  cases y with
  | z => rfl
  | s y => exact absurd (List.mem_of_getElem? y.get) (List.nodup_cons.mp nd).1
 | s x ih =>
  cases y with
  | z => exact absurd (List.mem_of_getElem? x.get) (List.nodup_cons.mp nd).1
  | s y => rw [ih (List.nodup_cons.mp nd).2 y]
theorem Nth.set_ne {α : Type} {l : List α} {i j : Nat} {a b : α} (h : Nth (l.set i b) j a) (n : j ≠ i) : Nth l j a := Nth.of (by
 have := h.get
 rwa [List.getElem?_set_ne (Ne.symm n)] at this)
theorem Nth.set_eq {α : Type} {l : List α} {i : Nat} {a b : α} (h : Nth (l.set i b) i a) : a = b := by
 have := h.get
 rw [List.getElem?_set] at this
 simp only [if_true] at this
 split at this
 ·exact (Option.some.inj this).symm
 ·cases this
theorem LocOK.set {E : Own} {F : Led} {m : Str → Option Value} {ns : List Str} {vs : List AV} {i : Nat} {x : Str} {u : AV} {c : Value} (y : LocOK E F m ns vs) (nd : ns.Nodup) (hx : Nth ns i x) (hu : CV E F u c) :
  LocOK E F (fun z => if z = x then some c else m z) ns (vs.set i u) := by
 refine ⟨by simp [y.1], fun j z v a b => ?_⟩
 by_cases q : j = i
 ·subst q
  rw [hx.inj a]
  rw [b.set_eq]
  exact .inr ⟨c, by simp, hu⟩
 ·have hz : z ≠ x := fun e => q (Nth.nodup nd a (e ▸ hx))
  simp only [if_neg hz]
  exact y.2 j z v a (b.set_ne q)
structure Abs (K : Frag) (c : FnC) (r : Rt) (E : Own) (F : Led) (st : St) (s : Shared) : Prop where
 ns : ∃ m, s.heap.Ns r.L m ∧ LocOK E F m c.ns st.vs
 hp : HpOK r.fs E F st.H s.heap
 keep : ∀ b o, r.g.get? b = some o → s.heap.get? b = some o
 frm : ∀ a ∈ frs r.outer, ∀ o, r.s₀.heap.get? a = some o → ∃ sl, s.heap.get? a = some { o with slots := sl }
 fresh : ∀ a ∈ E.flatten, a ∈ r.own₀ ∨ r.s₀.heap.get? a = none
 sz : r.s₀.heap.objs.size ≤ s.heap.objs.size
 gens : s.gens = r.s₀.gens
 drawn : s.drawn = r.s₀.drawn
 os : s.os = r.s₀.os
theorem none_ge {h : Heap} {a : Addr} (x : h.objs.size ≤ a) : h.get? a = none := by
 cases q : h.get? a with
 | none => rfl
 | some o => exact (noLt x (Heap.lt_size q)).elim
theorem Rt.g_own {r : Rt} {a : Addr} (h : a ∈ r.own₀ ∨ r.s₀.heap.get? a = none) : r.g.get? a = none := by
 rcases h with h | h
 ·exact hideAll_none _ (List.mem_append_left _ h)
 ·cases q : r.g.get? a with
  | none => rfl
  | some o => have := of_hideAll _ q; rw [h] at this; cases this
theorem Rt.g_L (r : Rt) : r.g.get? r.L = none := Rt.g_own (.inr (none_ge (Nat.le_refl _)))
theorem Rt.g_frs {r : Rt} {a : Addr} (h : a ∈ frs r.outer) : r.g.get? a = none := hideAll_none _ (List.mem_append_right _ h)
section
variable {K : Frag} {c : FnC} {r : Rt} {E : Own} {F : Led} {st : St} {s : Shared}
theorem Abs.step0 (x : Abs K c r E F st s) {h' : Heap} {tk : Nat} (k : KB [] s.heap h') : Abs K c r E F st { s with heap := h', toks := tk } where
 ns := let ⟨m, a, b⟩ := x.ns; ⟨m, k.ns (by simp) a, b⟩
 hp := x.hp.keep0 k
 keep b o e := k.2 _ _ (by simp) (x.keep b o e)
 frm a ha o e := let ⟨sl, q⟩ := x.frm a ha o e; ⟨sl, k.2 _ _ (by simp) q⟩
 fresh := x.fresh
 sz := Nat.le_trans x.sz k.1
 gens := x.gens
 drawn := x.drawn
 os := x.os
theorem Abs.toks (x : Abs K c r E F st s) {tk : Nat} : Abs K c r E F st { s with toks := tk } := x.step0 (h' := s.heap) (KB.refl _ _)
theorem Abs.store (x : Abs K c r E F st s) (nd : c.ns.Nodup) {h' : Heap} {tk : Nat} {m : Str → Option Value} {i : Nat} {y : Str} {u : AV} {v : Value} (hl : LocOK E F m c.ns st.vs) (k : Heap.SameBut r.L s.heap h') (hn : h'.Ns r.L (fun z => if z = y then some v else m z)) (hi : Nth c.ns i y) (hu : CV E F u v) :
  Abs K c r E F { st with vs := st.vs.set i u } { s with heap := h', toks := tk } where
 ns := ⟨_, hn, hl.set nd hi hu⟩
 hp := x.hp.keep (KB.same k) fun a ha => by
  rw [List.mem_singleton.mp ha]
  exact ⟨fun q => (x.hp.offE _ q).1 (by simp [Rt.fs]), fun p hp q => (x.hp.offF p hp).2 (by simp [Rt.fs, q])⟩
 keep b o e := (k.2 b (fun q => by rw [q, r.g_L] at e; cases e)).trans (x.keep b o e)
 frm a ha o e := let ⟨sl, q⟩ := x.frm a ha o e; ⟨sl, (k.2 a (fun z => by
  rw [z] at e
  exact noLt (Nat.le_refl _) (Heap.lt_size e))).trans q⟩
 fresh := x.fresh
 sz := Nat.le_trans x.sz (Nat.le_of_eq k.1.symm)
 gens := x.gens
 drawn := x.drawn
 os := x.os
theorem Abs.set (x : Abs K c r E F st s) {h' : Heap} {tk : Nat} {k : Nat} {as : List Addr} {o' : AO} (e : E[k]? = some as) (ng : st.H[k]? ≠ some .gone) (kb : KB as s.heap h') (ro : RepO E F h' o' as) :
  Abs K c r E F { st with H := st.H.set k o' } { s with heap := h', toks := tk } := by
 have off : ∀ a ∈ as, a ∈ E.flatten := fun a ha => List.mem_flatten.mpr ⟨as, List.mem_of_getElem? e, ha⟩
 refine ⟨?_, x.hp.set e ng kb ro, fun b o q => ?_, fun a ha o q => ?_, x.fresh, Nat.le_trans x.sz kb.1, x.gens, x.drawn, x.os⟩
 ·obtain ⟨m, a, b⟩ := x.ns
  exact ⟨m, kb.ns (fun q => (x.hp.offE _ (off _ q)).1 (by simp [Rt.fs])) a, b⟩
 ·exact kb.2 _ _ (fun z => by rw [Rt.g_own (x.fresh _ (off _ z))] at q; cases q) (x.keep b o q)
 ·obtain ⟨sl, z⟩ := x.frm a ha o q
  exact ⟨sl, kb.2 _ _ (fun y => (x.hp.offE _ (off _ y)).1 (by simp [Rt.fs, ha])) z⟩
theorem Abs.new (x : Abs K c r E F st s) {h' : Heap} {tk : Nat} {as : List Addr} {o : AO} (kb : KB [] s.heap h') (hn : as.Nodup) (ha : ∀ a ∈ as, s.heap.objs.size ≤ a ∧ a < h'.objs.size) (ro : RepO (E ++ [as]) F h' o as) :
  Abs K c r (E ++ [as]) F { st with H := st.H ++ [o] } { s with heap := h', toks := tk } := by
 refine ⟨?_, x.hp.new kb hn ha ro, fun b o q => kb.2 _ _ (by simp) (x.keep b o q), fun a h o q => ?_, fun a h => ?_, Nat.le_trans x.sz kb.1, x.gens, x.drawn, x.os⟩
 ·obtain ⟨m, a, b⟩ := x.ns
  exact ⟨m, kb.ns (by simp) a, b.grow (Grow.own E [as] F)⟩
 ·obtain ⟨sl, z⟩ := x.frm a h o q
  exact ⟨sl, kb.2 _ _ (by simp) z⟩
 ·rw [List.flatten_append, List.mem_append] at h
  rcases h with h | h
  ·exact x.fresh a h
  ·exact .inr (none_ge (Nat.le_trans x.sz (ha a (by simpa using h)).1))
theorem Abs.frz (x : Abs K c r E F st s) {h' : Heap} {tk : Nat} {X : Led} (kb : KB [] s.heap h') (hX : ∀ p ∈ X, h'.get? p.1 = some p.2 ∧ s.heap.objs.size ≤ p.1) :
  Abs K c r E (X ++ F) st { s with heap := h', toks := tk } := by
 refine ⟨?_, x.hp.frz kb hX, fun b o q => kb.2 _ _ (by simp) (x.keep b o q), fun a h o q => ?_, x.fresh, Nat.le_trans x.sz kb.1, x.gens, x.drawn, x.os⟩
 ·obtain ⟨m, a, b⟩ := x.ns
  exact ⟨m, kb.ns (by simp) a, b.grow (Grow.froz E F X)⟩
 ·obtain ⟨sl, z⟩ := x.frm a h o q
  exact ⟨sl, kb.2 _ _ (by simp) z⟩
theorem Abs.loose (x : Abs K c r E F st s) {bud : Nat} (rk : RtOk K r bud) {h' : Heap} {tk : Nat} {k : Nat} {as : List Addr} {o' : AO} (e : E[k]? = some as) (ng : st.H[k]? ≠ some .gone)
  (kb : ∀ b o, b ∉ as → s.heap.get? b = some o → h'.get? b = some o) (ro : RepO E F h' o' as) : Abs K c r E F { st with H := st.H.set k o' } { s with heap := h', toks := tk } := by
 have off : ∀ a ∈ as, a ∈ E.flatten := fun a ha => List.mem_flatten.mpr ⟨as, List.mem_of_getElem? e, ha⟩
 have nf : ∀ a ∈ r.fs, a ∉ as := fun a ha q => (x.hp.offE _ (off _ q)).1 ha
 have hL : r.L ∉ as := nf _ (by simp [Rt.fs])
 obtain ⟨m, hn, hl⟩ := x.ns
 obtain ⟨oL, hoL, hns⟩ := ns_iff.mp hn
 have hL' := kb _ _ hL hoL
 have hf : ∀ a ∈ frs r.outer, ∃ o, r.s₀.heap.get? a = some o := fun a ha => let ⟨_, o, q, _⟩ := rk.ff.mem ha; ⟨o, q⟩
 refine ⟨⟨m, ns_iff.mpr ⟨oL, hL', hns⟩, hl⟩, x.hp.loose e ng kb (fun a ha => ?_) ro, fun b o q => ?_, fun a ha o q => ?_, x.fresh, ?_, x.gens, x.drawn, x.os⟩
 ·rcases List.mem_cons.mp ha with rfl | ha
  ·exact ⟨_, hoL⟩
  ·obtain ⟨o, q⟩ := hf a ha
   obtain ⟨sl, z⟩ := x.frm a ha o q
   exact ⟨_, z⟩
 ·exact kb _ _ (fun z => by rw [Rt.g_own (x.fresh _ (off _ z))] at q; cases q) (x.keep b o q)
 ·obtain ⟨sl, z⟩ := x.frm a ha o q
  exact ⟨sl, kb _ _ (nf a (by simp [Rt.fs, ha])) z⟩
 ·exact Nat.le_of_lt (Heap.lt_size hL')
theorem Abs.ice (x : Abs K c r E F st s) {k : Nat} {o : AO} {as : List Addr} {X : Led} (e : E[k]? = some as) (ho : st.H[k]? = some o) (hX : ∀ p ∈ X, p.1 ∈ as ∧ s.heap.get? p.1 = some p.2) (no : o ≠ .gone) :
  Abs K c r E (X ++ F) { st with H := st.H.set k .gone } s :=
 {x with
  ns := let ⟨m, a, b⟩ := x.ns; ⟨m, a, b.grow (Grow.froz E F X)⟩
  hp := x.hp.ice e ho hX no }
theorem Abs.sta (x : Abs K c r E F st s) {bud : Nat} (ok : RtOk K r bud) : Sta K s.heap := ok.sta.keeps x.keep
theorem Abs.ff (x : Abs K c r E F st s) {bud : Nat} (ok : RtOk K r bud) : s.heap.FunFrames {} r.outer := by
 have : ∀ l : List Env, (∀ e ∈ l, e ∈ r.outer) → r.s₀.heap.FunFrames {} l → s.heap.FunFrames {} l := by
  intro l
  induction l with
  | nil => intro _ _; trivial
  | cons env rest ih =>
   rintro hm ⟨hk, ⟨L, o, hf, hn, ho, hd⟩, hr⟩
   obtain ⟨sl, q⟩ := x.frm L (List.mem_filterMap.mpr ⟨env, hm env (by simp), hf⟩) o ho
   exact ⟨hk, ⟨L, _, hf, hn, q, hd⟩, ih (fun e he => hm e (by simp [he])) hr⟩
 exact this _ (fun _ h => h) ok.ff
end
noncomputable def EX (P : Addr → Prop) (fs : List Addr) (h h' : Heap) : Prop :=
 h.objs.size ≤ h'.objs.size ∧ (∀ b o, P b → b ∉ fs → h.get? b = some o → h'.get? b = some o) ∧ ∀ a ∈ fs, ∀ o, h.get? a = some o → ∃ sl, h'.get? a = some { o with slots := sl }
theorem EX.refl (P : Addr → Prop) (fs : List Addr) (h : Heap) : EX P fs h h := ⟨Nat.le_refl _, fun _ _ _ _ e => e, fun _ _ o e => ⟨o.slots, e⟩⟩
theorem EX.trans {P : Addr → Prop} {fs : List Addr} {h h' h'' : Heap} (x : EX P fs h h') (y : EX P fs h' h'') : EX P fs h h'' :=
 ⟨Nat.le_trans x.1 y.1, fun b o p n e => y.2.1 b o p n (x.2.1 b o p n e), fun a ha o e => let ⟨_, q⟩ := x.2.2 a ha o e; let ⟨sl, z⟩ := y.2.2 a ha _ q; ⟨sl, z⟩⟩
theorem EX.ns {P : Addr → Prop} {fs : List Addr} {h h' : Heap} (x : EX P fs h h') {d : Addr} {m : Str → Option Value} (p : P d) (k : h.Ns d m) : h'.Ns d m := by
 obtain ⟨o, es, ep, a, b, q⟩ := k
 by_cases n : d ∈ fs
 ·obtain ⟨sl, z⟩ := x.2.2 d n o a
  exact ⟨_, es, ep, z, b, q⟩
 ·exact ⟨o, es, ep, x.2.1 d o p n a, b, q⟩
noncomputable def Prot (r : Rt) (E : Own) (F : Led) (a : Addr) : Prop := a ∈ r.fs ∨ a ∈ E.flatten ∨ (∃ p ∈ F, p.1 = a) ∨ (r.g.get? a).isSome = true
section
variable {K : Frag} {c : FnC} {r : Rt} {E : Own} {F : Led} {st : St} {s : Shared}
theorem Abs.prot_lt (x : Abs K c r E F st s) {a : Addr} (h : Prot r E F a) : a < s.heap.objs.size := by
 rcases h with h | h | ⟨p, hp, rfl⟩ | h
 ·exact x.hp.ltf a h
 ·exact (x.hp.offE a h).2
 ·exact Heap.lt_size (x.hp.froz p hp)
 ·obtain ⟨o, e⟩ := Option.isSome_iff_exists.mp h
  exact Heap.lt_size (x.keep _ _ e)
theorem Abs.ex (x : Abs K c r E F st s) {h' : Heap} {tk : Nat} (k : EX (Prot r E F) r.fs s.heap h') : Abs K c r E F st { s with heap := h', toks := tk } := by
 have kE : ∀ a ∈ E.flatten, ∀ o, s.heap.get? a = some o → h'.get? a = some o := fun a ha o e => k.2.1 a o (.inr (.inl ha)) (x.hp.offE a ha).1 e
 refine ⟨?_, ?_, fun b o e => ?_, fun a ha o e => ?_, x.fresh, Nat.le_trans x.sz k.1, x.gens, x.drawn, x.os⟩
 ·obtain ⟨m, a, b⟩ := x.ns
  exact ⟨m, k.ns (.inl (by simp [Rt.fs])) a, b⟩
 ·refine ⟨x.hp.len, x.hp.nd, fun a ha => ⟨(x.hp.offE a ha).1, Nat.lt_of_lt_of_le (x.hp.offE a ha).2 k.1⟩, x.hp.offF, fun p hp => ?_, fun a ha => Nat.lt_of_lt_of_le (x.hp.ltf a ha) k.1, fun i o as e1 e2 => ?_⟩
  ·exact k.2.1 _ _ (.inr (.inr (.inl ⟨p, hp, rfl⟩))) (x.hp.offF p hp).2 (x.hp.froz p hp)
  ·have ha : ∀ a ∈ as, a ∈ E.flatten := fun a ha => List.mem_flatten.mpr ⟨as, List.mem_of_getElem? e2, ha⟩
   have y := x.hp.rep i o as e1 e2
   cases o with
   | inst C ns vs =>
    obtain ⟨a, d, es, n, m, e, h1, h2, h3, h4, h5, h6⟩ := y
    exact ⟨a, d, es, n, m, e, kE a (ha a (by simp [e])) _ h1, kE d (ha d (by simp [e])) _ h2, h3, h4, h5, h6⟩
   | list vs => obtain ⟨a, n, cs, e, h1, h2⟩ := y; exact ⟨a, n, cs, e, kE a (ha a (by simp [e])) _ h1, h2⟩
   | barr b => obtain ⟨a, e, h1⟩ := y; exact ⟨a, e, kE a (ha a (by simp [e])) _ h1⟩
   | sdict hs ns vs => obtain ⟨a, o, m, e, h1, h2, h3, h4⟩ := y; exact ⟨a, o, m, e, kE a (ha a (by simp [e])) _ h1, h2, h3, h4⟩
   | idict n => obtain ⟨a, o, e, h1, h2⟩ := y; exact ⟨a, o, e, kE a (ha a (by simp [e])) _ h1, h2⟩
   | raw os =>
    simp only [RepO] at y ⊢
    rw [← y]
    apply List.map_congr_left
    intro a hm
    obtain ⟨o, q⟩ := RepO.live (o := .raw os) (E := E) (F := F) y a hm
    rw [q, kE a (ha a hm) o q]
   | gone => exact fun a hm => let ⟨o, q⟩ := y a hm; ⟨o, kE a (ha a hm) o q⟩
 ·refine k.2.1 b o (.inr (.inr (.inr (by rw [e]; rfl)))) (fun q => ?_) (x.keep b o e)
  rcases List.mem_cons.mp q with q | q
  ·rw [q, r.g_L] at e; cases e
  ·rw [Rt.g_frs q] at e; cases e
 ·obtain ⟨sl, q⟩ := x.frm a ha o e
  obtain ⟨sl', z⟩ := k.2.2 a (by simp [Rt.fs, ha]) _ q
  exact ⟨sl', z⟩
end
end
section
theorem frame_not_fields {h : Heap} {l : List Env} (hl : h.FunFrames {} l) {a : Addr} (ha : a ∈ frs l) : ∃ o, h.get? a = some o ∧ ∀ vs, o.data ≠ .fields vs := (hl.mem ha).2
noncomputable def KX (e : Addr) (fs : List Addr) (h h' : Heap) : Prop :=
 h.objs.size ≤ h'.objs.size ∧ (∀ b o, b ≠ e → b ∉ fs → h.get? b = some o → h'.get? b = some o) ∧ ∀ a ∈ fs, ∀ o, h.get? a = some o → ∃ sl, h'.get? a = some { o with slots := sl }
noncomputable def TbAt (h : Heap) (T : Addr) : Prop := ∃ oT ts, h.get? T = some oT ∧ oT.data = .fields ts ∧ 3 < ts.size
section
variable {M : Model} {A : Around} {E : Value → Shared → Prop} {s : Shared}
theorem entry_x {env : Env} {outer : List Env} {L e : Addr} {oe : Obj} {vs : Array Value} {head : Value} {hadNext : Bool} {Q : Unit → Shared → Prop}
  (hfr : A.frames = some (env :: outer)) (hl : s.heap.FunFrames {} (env :: outer)) (hf : env.frame = some L)
  (he : s.heap.get? e = some oe) (hd : oe.data = .fields vs) (hsz : 1 < vs.size)
  (h : ∀ h' T, h'.get? e = some (Obj.mapFields (·.setIfInBounds 1 (.ref T)) oe) → TbAt h' T → s.heap.objs.size ≤ T → KX e (frs (env :: outer)) s.heap h' → Q () { s with heap := h' }) :
  wpAny M A (do let a ← frameOf env; let pl ← entryPlaceOf L hadNext; let b ← EntryCells.newEntry head a .none (rawInt L) .none pl; setField (.ref e) 1 b) Q E s := by
 have hne : e ∉ frs (env :: outer) := fun hm => by
  obtain ⟨o, ho, hn⟩ := frame_not_fields hl hm
  rw [he] at ho; cases ho; exact hn vs hd
 refine wpAny_bind (wpAny_frameOf_fun hfr hl hf fun h₁ hs => wpAny_bind (wpAny_entryPlaceOf fun pl hpl => ?_))
 unfold EntryCells.newEntry newFields
 refine wpAny_bind (wpAny_newObj_type ?_ (hpl.sizeOk5 _ _ _ _ _))
 generalize hO : ({ cls := .type "traceback", dict := none, data := .fields ([head, Value.ref L, .none, rawInt L, .none] ++ (if pl.isEmpty then List.replicate 6 Value.none else pl)).toArray } : Obj) = O
 have he1 : h₁.get? e = some oe := (hs.2.1 e hne).trans he
 have he2 : (h₁.push O).get? e = some oe := Heap.get?_push_of_some _ he1
 refine wpAny_setField he2 hd hsz (h _ h₁.objs.size ?_ ?_ (Nat.le_of_eq hs.1.symm) ⟨?_, fun b o hb hn q => ?_, fun a ha o q => ?_⟩)
 ·exact Heap.get?_update_self _ he2 (Obj.isFreed_of_fields (Obj.data_mapFields hd _))
 ·refine ⟨O, _, ?_, by rw [← hO], by simp <;> omega⟩
  rw [Heap.get?_update_other _ _ (Nat.ne_of_lt (Heap.lt_size he1))]
  exact Heap.get?_push_size _ (by rw [← hO]; rfl)
 ·show s.heap.objs.size ≤ _
  rw [Heap.size_after_update, Heap.size_push, hs.1]
  exact Nat.le_succ _
 ·show ((h₁.push O).update e _).get? b = _
  rw [Heap.get?_update_other _ _ (Ne.symm hb)]
  exact Heap.get?_push_of_some _ ((hs.2.1 b hn).trans q)
 ·obtain ⟨sl, z⟩ := hs.2.2 a o q
  refine ⟨sl, ?_⟩
  show ((h₁.push O).update e _).get? a = _
  rw [Heap.get?_update_other _ _ (by intro y; subst y; exact hne ha)]
  exact Heap.get?_push_of_some _ z
end
noncomputable def XF (fs : Array Value) : Prop := 1 < fs.size ∧ fs[2]? = some .none
inductive ExcAt (C : Addr) (P : Addr → Prop) (e : Addr) (b : List UInt8) (h : Heap) : Prop
 | mk (d : Addr) (fs : Array Value) (sl : Array (Option Value)) (t : Tok) (m : Str → Option Value) (h1 : h.get? e = some ⟨.ref C, some d, .fields fs, sl⟩) (h2 : XF fs) (h3 : h.Ns d m) (h4 : m (Str.ofString "told") = some (.bytes b.toArray t)) (h5 : ¬ P e) (h6 : ¬ P d)
  (h7 : fs[1]? = some .none ∨ ∃ T, fs[1]? = some (.ref T) ∧ TbAt h T ∧ ¬ P T ∧ T ≠ e) : ExcAt C P e b h
inductive ExcTb (C : Addr) (P : Addr → Prop) (e : Addr) (b : List UInt8) (h : Heap) : Prop
 | mk (d : Addr) (fs : Array Value) (sl : Array (Option Value)) (t : Tok) (m : Str → Option Value) (h1 : h.get? e = some ⟨.ref C, some d, .fields fs, sl⟩) (h2 : XF fs) (h3 : h.Ns d m) (h4 : m (Str.ofString "told") = some (.bytes b.toArray t)) (h5 : ¬ P e) (h6 : ¬ P d)
  (h7 : ∃ T, fs[1]? = some (.ref T) ∧ TbAt h T ∧ ¬ P T ∧ T ≠ e) : ExcTb C P e b h
theorem ExcTb.at {C : Addr} {P : Addr → Prop} {e : Addr} {b : List UInt8} {h : Heap} (x : ExcTb C P e b h) : ExcAt C P e b h :=
 let ⟨d, fs, sl, t, m, a1, a2, a3, a4, a5, a6, a7⟩ := x; ⟨d, fs, sl, t, m, a1, a2, a3, a4, a5, a6, .inr a7⟩
theorem ExcAt.sub {C : Addr} {P P' : Addr → Prop} {e : Addr} {b : List UInt8} {h : Heap} (x : ExcAt C P e b h) (k : ∀ a, P' a → P a) : ExcAt C P' e b h := by
 obtain ⟨d, fs, sl, t, m, a1, a2, a3, a4, a5, a6, a7⟩ := x
 refine ⟨d, fs, sl, t, m, a1, a2, a3, a4, fun q => a5 (k _ q), fun q => a6 (k _ q), ?_⟩
 rcases a7 with a7 | ⟨T, b1, b2, b3, b4⟩
 ·exact .inl a7
 ·exact .inr ⟨T, b1, b2, fun q => b3 (k _ q), b4⟩
theorem ExcTb.sub {C : Addr} {P P' : Addr → Prop} {e : Addr} {b : List UInt8} {h : Heap} (x : ExcTb C P e b h) (k : ∀ a, P' a → P a) : ExcTb C P' e b h := by
 obtain ⟨d, fs, sl, t, m, a1, a2, a3, a4, a5, a6, T, b1, b2, b3, b4⟩ := x
 exact ⟨d, fs, sl, t, m, a1, a2, a3, a4, fun q => a5 (k _ q), fun q => a6 (k _ q), T, b1, b2, fun q => b3 (k _ q), b4⟩
theorem KX.ex {P : Addr → Prop} {e : Addr} {fs : List Addr} {h h' : Heap} (x : KX e fs h h') (hP : ¬ P e) : EX P fs h h' :=
 ⟨x.1, fun b o p n q => x.2.1 b o (fun z => hP (z ▸ p)) n q, x.2.2⟩
section
variable {M : Model} {A : Around} {E : Value → Shared → Prop} {s : Shared} {C : Addr} {P : Addr → Prop} {e : Addr} {b : List UInt8}
theorem ns_ne {h : Heap} {d x : Addr} {m : Str → Option Value} {o : Obj} {vs : Array Value} (n : h.Ns d m) (hx : h.get? x = some o) (hd : o.data = .fields vs) : d ≠ x := fun q => by
 subst q
 obtain ⟨o', es, ep, a, b', _⟩ := n
 rw [hx] at a; cases a; rw [hd] at b'; cases b'
theorem setField_tb {T : Addr} {v : Value} {Q : Unit → Shared → Prop} {fs : List Addr} (x : ExcTb C P e b s.heap) (hfs : ∀ a ∈ fs, P a) (hT : ∃ oe : Obj, ∃ vs : Array Value, s.heap.get? e = some oe ∧ oe.data = .fields vs ∧ vs[1]? = some (.ref T))
  (h : ∀ h', ExcTb C P e b h' → EX P fs s.heap h' → (∃ oe : Obj, ∃ vs : Array Value, h'.get? e = some oe ∧ oe.data = .fields vs ∧ vs[1]? = some (.ref T)) → Q () { s with heap := h' }) : wpAny M A (setField (.ref T) 3 v) Q E s := by
 obtain ⟨d, fs', sl, t, m, a1, a2, a3, a4, a5, a6, T', b1, ⟨oT, ts, c1, c2, c3⟩, b3, b4⟩ := x
 obtain ⟨oe, vs, q1, q2, q3⟩ := hT
 rw [a1] at q1; cases q1
 cases q2
 have q4 : T' = T := by rw [b1] at q3; cases q3; rfl
 subst q4
 refine wpAny_setField c1 c2 c3 (h _ ?_ ?_ ?_)
 ·refine ⟨d, fs', sl, t, m, (Heap.get?_update_other _ _ b4).trans a1, a2, ?_, a4, a5, a6, T', b1, ?_, b3, b4⟩
  ·obtain ⟨o, es, ep, z1, z2⟩ := a3
   exact ⟨o, es, ep, (Heap.get?_update_other _ _ (Ne.symm (ns_ne ⟨o, es, ep, z1, z2⟩ c1 c2))).trans z1, z2⟩
  ·exact ⟨_, _, Heap.get?_update_self _ c1 (Obj.isFreed_of_fields (Obj.data_mapFields c2 _)), Obj.data_mapFields c2 _, by simp; omega⟩
 ·refine ⟨Nat.le_of_eq (Heap.size_after_update ..).symm, fun b o p _ q => (Heap.get?_update_other _ _ (by intro z; subst z; exact b3 p)).trans q, fun a ha o q => ⟨o.slots, ?_⟩⟩
  exact (Heap.get?_update_other _ _ (by intro z; subst z; exact b3 (hfs _ ha))).trans q
 ·exact ⟨_, _, (Heap.get?_update_other _ _ b4).trans a1, rfl, b1⟩
theorem setFlight_x {fl : Option Addr} {Q : Unit → Shared → Prop} {fs : List Addr} (x : ExcTb C P e b s.heap) (hfs : ∀ a ∈ fs, P a)
  (h : ∀ h', ExcTb C P e b h' → EX P fs s.heap h' → Q () { s with heap := h' }) : wpAny M A (setFlight (.ref e) fl) Q E s := by
 have x' := x
 obtain ⟨d, fs', sl, t, m, a1, a2, a3, a4, a5, a6, T, b1, b2, b3, b4⟩ := x'
 unfold setFlight
 refine wpAny_bind (wpAny_field a1 rfl b1 ?_)
 rw [if_pos (show (Value.ref T != Value.none) = true from by simp)]
 exact setField_tb x hfs ⟨_, _, a1, rfl, b1⟩ fun h' y z _ => h h' y z
theorem noteFrame_x {env : Env} {outer : List Env} {L : Addr} {Q : Unit → Shared → Prop} (hfr : A.frames = some (env :: outer)) (hl : s.heap.FunFrames {} (env :: outer)) (hf : env.frame = some L)
  (x : ExcAt C P e b s.heap) (hP : ∀ a ∈ frs (env :: outer), P a) (hlt : ∀ a, P a → a < s.heap.objs.size)
  (h : ∀ h', ExcTb C P e b h' → EX P (frs (env :: outer)) s.heap h' → Q () { s with heap := h' }) : wpAny M A (noteFrame (.ref e) env) Q E s := by
 have entry : ∀ {s : Shared} {hadNext : Bool} {head : Value} {Q : Unit → Shared → Prop}, s.heap.FunFrames {} (env :: outer) → ExcAt C P e b s.heap → (∀ a, P a → a < s.heap.objs.size) → (∀ h', ExcTb C P e b h' → EX P (frs (env :: outer)) s.heap h' → Q () { s with heap := h' }) →
   wpAny M A (do let a ← frameOf env; let pl ← entryPlaceOf L hadNext; let b ← EntryCells.newEntry head a .none (rawInt L) .none pl; setField (.ref e) 1 b) Q E s := by
  intro s hadNext head Q hl x hlt h
  obtain ⟨d, fs', sl, t, m, a1, a2, a3, a4, a5, a6, a7⟩ := x
  refine entry_x hfr hl hf a1 rfl a2.1 fun h' T y1 y2 y3 y4 => h h' ?_ (y4.ex a5)
  have hd : d ∉ frs (env :: outer) := fun q => a6 (hP _ q)
  refine ⟨d, _, sl, t, m, y1, ⟨by simpa using a2.1, by rw [Array.getElem?_setIfInBounds_ne (by decide)]; exact a2.2⟩, ?_, a4, a5, a6, T, by simp [a2.1], y2, fun q => noLt y3 (hlt _ q), fun q => noLt y3 (q ▸ Heap.lt_size a1)⟩
  obtain ⟨o, es, ep, z1, z2⟩ := a3
  exact ⟨o, es, ep, y4.2.1 d o (ns_ne ⟨o, es, ep, z1, z2⟩ a1 rfl) hd z1, z2⟩
 have x' := x
 obtain ⟨d, fs', sl, t, m, a1, a2, a3, a4, a5, a6, a7⟩ := x'
 unfold noteFrame
 simp only [hf]
 rcases a7 with a7 | ⟨T, b1, b2, b3, b4⟩
 ·refine wpAny_bind (wpAny_field a1 rfl a7 ?_)
  rw [if_neg (by decide)]
  exact entry hl x hlt h
 ·refine wpAny_bind (wpAny_field a1 rfl b1 ?_)
  rw [if_pos (show (Value.ref T != Value.none) = true from by simp)]
  have xt : ExcTb C P e b s.heap := ⟨d, fs', sl, t, m, a1, a2, a3, a4, a5, a6, T, b1, b2, b3, b4⟩
  obtain ⟨oT, ts, c1, c2, c3⟩ := b2
  have h3 : ts[3]? = some ts[3] := by simp [c3]
  refine wpAny_bind (wpAny_field c1 c2 h3 ?_)
  split
  ·exact wpAny_pure (h _ xt (EX.refl _ _ _))
  ·refine wpAny_bind (setField_tb xt hP ⟨_, _, a1, rfl, b1⟩ fun h' y z _ => ?_)
   have hl' : h'.FunFrames {} (env :: outer) := by
    have : ∀ l : List Env, (∀ e ∈ l, e ∈ env :: outer) → s.heap.FunFrames {} l → h'.FunFrames {} l := by
     intro l
     induction l with
     | nil => intro _ _; trivial
     | cons ev rest ih =>
      rintro hm ⟨hk, ⟨L, o, hf, hn, ho, hd⟩, hr⟩
      obtain ⟨sl, q⟩ := z.2.2 L (List.mem_filterMap.mpr ⟨ev, hm ev (by simp), hf⟩) o ho
      exact ⟨hk, ⟨L, _, hf, hn, q, hd⟩, ih (fun e he => hm e (by simp [he])) hr⟩
    exact this _ (fun _ h => h) hl
   exact entry (s := { s with heap := h' }) hl' y.at (fun a p => Nat.lt_of_lt_of_le (hlt a p) z.1) fun h'' y' z' => h h'' y' (z.trans z')
end
end
section
open PySem.Sem (wp)
noncomputable def exportIds : List String := "bytearray.__contains__" :: "bytearray.__mod__" :: "bytearray.__rmod__" :: "_struct.pack_into.held" :: "bytearray.find.held" :: Builtin.Bytes.decodersThatHold
noncomputable def decC : Code → Bool
 | .builtin id _ => exportIds.contains id
 | _ => false
structure CP where
 C : Ctx → Prop
 enter : ∀ Γ c h p, C Γ → decC c = false → C (Γ.enter c h p)
 goto : ∀ Γ c, C Γ → decC c = false → C (Γ.goto c)
noncomputable def anyP : CP := ⟨fun _ => True, fun _ _ _ _ _ _ => trivial, fun _ _ _ _ => trivial⟩
noncomputable def decP : CP := ⟨fun Γ => decC Γ.code = false ∧ ∀ x ∈ Γ.below, decC x.1 = false,
 fun Γ c h p x y => ⟨y, fun z hz => by
  rcases List.mem_cons.mp hz with rfl | hz
  ·exact x.1
  ·exact x.2 z hz⟩, fun Γ c x y => ⟨y, x.2⟩⟩
noncomputable def wpP {α : Type} (P : CP) (M : Model) (A : Around) (t : Sem α) (Q : α → Shared → Prop) (E : Value → Shared → Prop) (s : Shared) : Prop :=
 ∀ Γ p, Γ.In A → P.C Γ → wp M Γ t (fun a _ s' => Q a s') (fun e _ s' => E e s') p s
noncomputable def codeP (P : CP) (M : Model) (A : Around) (c : Code) (R : Result → Shared → Prop) (s : Shared) : Prop :=
 ∀ Γ p, Γ.code = c → Γ.Below A → P.C Γ → wpCode M Γ R p s
theorem wpP.of {α : Type} {P : CP} {M : Model} {A : Around} {t : Sem α} {Q : α → Shared → Prop} {E : Value → Shared → Prop} {s : Shared} (h : wpAny M A t Q E s) : wpP P M A t Q E s := fun Γ p hΓ _ => h Γ p hΓ
theorem codeP.of {P : CP} {M : Model} {A : Around} {c : Code} {R : Result → Shared → Prop} {s : Shared} (h : codeAny M A c R s) : codeP P M A c R s := fun Γ p hc hΓ _ => h Γ p hc hΓ
theorem wpP.any {α : Type} {M : Model} {A : Around} {t : Sem α} {Q : α → Shared → Prop} {E : Value → Shared → Prop} {s : Shared} (h : wpP anyP M A t Q E s) : wpAny M A t Q E s := fun Γ p hΓ => h Γ p hΓ trivial
theorem codeP.any {M : Model} {A : Around} {c : Code} {R : Result → Shared → Prop} {s : Shared} (h : codeP anyP M A c R s) : codeAny M A c R s := fun Γ p hc hΓ => h Γ p hc hΓ trivial
section
variable {α β : Type} {P : CP} {M : Model} {A : Around} {E : Value → Shared → Prop} {s : Shared}
theorem wpP_pure {a : α} {Q : α → Shared → Prop} (h : Q a s) : wpP P M A (pure a) Q E s := fun _ _ _ _ => h
theorem wpP_mono {t : Sem α} {Q Q' : α → Shared → Prop} {E' : Value → Shared → Prop} (h : wpP P M A t Q E s) (hQ : ∀ a s, Q a s → Q' a s) (hE : ∀ e s, E e s → E' e s) : wpP P M A t Q' E' s :=
 fun Γ p hΓ hC => Sem.wp_mono M Γ t (fun a _ s => hQ a s) (fun e _ s => hE e s) p s (h Γ p hΓ hC)
theorem wpP_bind {m : Sem α} {f : α → Sem β} {Q : β → Shared → Prop} (h : wpP P M A m (fun a s' => wpP P M A (f a) Q E s') E s) : wpP P M A (m >>= f) Q E s := fun Γ p hΓ hC => by
 rw [Sem.wp_bind']
 exact Sem.wp_mono M Γ m (fun a p' s' h' => h' Γ p' hΓ hC) (fun _ _ _ h' => h') p s (h Γ p hΓ hC)
theorem wpP_onRaise {m : Sem α} {k : Value → Sem Unit} {Q : α → Shared → Prop} (h : wpP P M A m Q (fun e s' => wpP P M A (k e) (fun _ s'' => E e s'') E s') s) : wpP P M A (m.onRaise k) Q E s := fun Γ p hΓ hC => by
 rw [Sem.wp_onRaise]
 exact Sem.wp_mono M Γ m (fun _ _ _ h' => h') (fun e p' s' h' => h' Γ p' hΓ hC) p s (h Γ p hΓ hC)
theorem wpP_holding {vs : List Value} {m : Sem α} {Q : α → Shared → Prop} (h : wpP P M A m Q E s) : wpP P M A (holding vs m) Q E s := fun Γ p hΓ hC => by rw [Sem.wp_holding]; exact h Γ p hΓ hC
theorem wpP_standAt {pos : Pos} {Q : Unit → Shared → Prop} (h : Q () s) : wpP P M A (standAt pos) Q E s := fun _ _ _ _ => h
theorem wpP_point {Q : Unit → Shared → Prop} (h : Q () s) : wpP P M A point Q E s := fun _ _ _ _ => h
theorem wpP_rule {tag : String} {Q : Unit → Shared → Prop} (h : Q () s) : wpP P M A (rule tag) Q E s := fun _ _ _ _ => h
theorem wpP_of_eq {a : α} {m : Sem α} {Q : α → Shared → Prop} (e : m = pure a) (h : Q a s) : wpP P M A m Q E s := by rw [e]; exact wpP_pure h
theorem wpP_looks {m : Sem α} {a : α} {h : Heap} {Q : α → Shared → Prop} (L : Looks M h m a) (k : ∀ b o, h.get? b = some o → s.heap.get? b = some o) (q : Q a s) : wpP P M A m Q E s := .of (L A Q E s k q)
theorem wpP_runValue {c : Code} {Q : Value → Shared → Prop} (hc : codeP P M A c (fun r s' => match r with | .ok (.ret v) => Q v s' | .ok _ => False | .error e => E e s') s) (hd : decC c = false) :
  wpP P M A (runValue c) Q E s := fun Γ p hΓ hC => by rw [Sem.wp_runValue]; exact hc _ p rfl (hΓ.enter c none p (by intro x; cases x)) (P.enter _ _ _ _ hC hd)
theorem wpP_call {f : Value} {pos : List Value} {kw : List (Str × Value)} {Q : Value → Shared → Prop} (hc : codeP P M A (.call f ⟨pos, kw⟩) (fun r s' => match r with | .ok (.ret v) => Q v s' | .ok _ => False | .error e => E e s') s) :
  wpP P M A (call f pos kw) Q E s := wpP_runValue hc rfl
theorem wpP_run {c : Code} {h : Option Value} {Q : Flow → Shared → Prop} (hc : codeP P M (A.mark h) c (fun r s' => match r with | .ok f => Q f s' | .error e => E e s') s) (hd : decC c = false) (hnb : h ≠ some byPass := by intro x; cases x) :
  wpP P M A (run c h) Q E s := fun Γ p hΓ hC => by rw [Sem.wp_run]; exact hc _ p rfl (hΓ.enter c h p hnb) (P.enter _ _ _ _ hC hd)
theorem codeP_mono {c : Code} {R R' : Result → Shared → Prop} (h : codeP P M A c R s) (hR : ∀ r s, R r s → R' r s) : codeP P M A c R' s := fun Γ p hc hΓ hC => wpCode_mono hR (h Γ p hc hΓ hC)
theorem codeP_of_tree {c : Code} {R : Result → Shared → Prop}
  (h : wpP P M (A.under c) (M.den c) (fun fin s' => match fin with | .done f => R (.ok f) s' | .again c' => c'.quiet = true ∧ decC c' = false ∧ codeP P M A c' R s') (fun e s' => R (.error e) s') s) : codeP P M A c R s := fun Γ p hc hΓ hC => by
 rw [wpCode_iff_wp, hc]
 refine Sem.wp_mono M Γ _ (fun fin p' s' h' => ?_) (fun _ _ _ h' => h') p s (h Γ p (hc ▸ hΓ.in) hC)
 cases fin with
 | done f => exact h'
 | again c' => exact ⟨h'.1, h'.2.2 (Γ.goto c') p' rfl (hΓ.goto c') (P.goto _ _ hC h'.2.1)⟩
theorem codeP_loop {c : Code} {R : Result → Shared → Prop} (hq : c.quiet = true) (hd : decC c = false) (I : Nat → Shared → Prop)
  (turn : ∀ n s, I n s → wpP P M (A.under c) (M.den c) (fun fin s' => match fin with | .done f => R (.ok f) s' | .again c' => (c' = c ∧ ∃ m, m < n ∧ I m s') ∨ (c'.quiet = true ∧ decC c' = false ∧ codeP P M A c' R s')) (fun e s' => R (.error e) s') s)
  (n : Nat) (h : I n s) : codeP P M A c R s := by
 induction n using Nat.strongRecOn generalizing s with
 | ind n ih =>
  refine codeP_of_tree (wpP_mono (turn n s h) (fun fin s' hf => ?_) fun _ _ h' => h')
  cases fin with
  | done f => exact hf
  | again c' =>
   rcases hf with ⟨rfl, m, hm, hI⟩ | hf
   ·exact ⟨hq, hd, ih m hm hI⟩
   ·exact hf
end
section
variable {P : CP} {M : Model} {A : Around} {E : Value → Shared → Prop} {s : Shared} {env : Env}
theorem wpP_noted {α : Type} {m : Sem α} {Q : α → Shared → Prop} (h : wpP P M A m Q (notedBy M A env E) s) : wpP P M A (m.onRaise fun x => do noteFrame x env; theTreesLotGoes x) Q E s :=
 wpP_onRaise (wpP_mono h (fun _ _ q => q) fun _ _ hx => .of (wpAny_bind (wpAny_mono hx (fun _ _ e => wpAny_theTreesLotGoes e) fun _ _ e => e)))
theorem wpP_runOwn {c : Code} {h : Option Value} {Q : Flow → Shared → Prop} (hc : codeP P M (A.mark h) c (fun r s' => match r with | .ok f => Q f s' | .error e => cameBackBy M A env E e s') s) (hd : decC c = false) (hnb : h ≠ some byPass := by intro x; cases x) :
  wpP P M A (runOwn c env h) Q E s := by
 unfold runOwn
 exact wpP_onRaise (wpP_mono (wpP_run hc hd hnb) (fun _ _ q => q) fun _ _ q => .of q)
theorem wpP_BinOp {l op r pos} {Q : Value → Shared → Prop} (h : wpP P M A (eval l env) (fun a s₁ => wpP P M A (eval r env) (fun b s₂ => wpP P M A (binaryOp op a b) Q E s₂) E s₁) E s) :
  wpP P M A (eval (.BinOp l op r pos) env) Q E s := fun Γ p hΓ hC => by
 simp only [eval_BinOp, Sem.wp_bind', Sem.wp_holding, Sem.wp_cmd_standAt, Sem.wp_operate]
 exact Sem.wp_mono M Γ _ (fun a p₁ s₁ h₁ => Sem.wp_mono M Γ _ (fun b _ s₂ h₂ => h₂ Γ _ hΓ hC) (fun _ _ _ h' => h') _ _ (h₁ Γ p₁ hΓ hC)) (fun _ _ _ h' => h') _ _ (h Γ p hΓ hC)
theorem wpP_Compare1 {l op r pos} {Q : Value → Shared → Prop} (h : wpP P M A (eval l env) (fun a s₁ => wpP P M A (eval r env) (fun b s₂ => wpP P M A (compareOp op a b) Q E s₂) E s₁) E s)
  (hm : behindInMarks op r = false := by with_unfolding_all rfl) : wpP P M A (eval (.Compare l [op] [r] pos) env) Q E s := fun Γ p hΓ hC => by
 simp only [eval_Compare1, markedBehindIn_of_false hm, Sem.wp_bind', Sem.wp_holding, Sem.wp_cmd_standAt, Sem.wp_operate]
 exact Sem.wp_mono M Γ _ (fun a p₁ s₁ h₁ => Sem.wp_mono M Γ _ (fun b _ s₂ h₂ => h₂ Γ _ hΓ hC) (fun _ _ _ h' => h') _ _ (h₁ Γ p₁ hΓ hC)) (fun _ _ _ h' => h') _ _ (h Γ p hΓ hC)
theorem wpP_UnaryOp {op : UnaryOp} {x : Expr} {pos : Pos} {Q : Value → Shared → Prop} (h : wpP P M A (eval x env) (fun v s₁ => wpP P M A (unaryOp op v) Q E s₁) E s) : wpP P M A (eval (.UnaryOp op x pos) env) Q E s := by
 rw [arm_eval_UnaryOp]
 exact wpP_bind (wpP_mono h (fun v s₁ h₁ => wpP_bind (wpP_standAt (wpP_holding h₁))) fun _ _ x => x)
theorem wpP_IfExp {test body orelse : Expr} {pos : Pos} {Q : Value → Shared → Prop} (h : wpP P M A (isTrue test env (eval test env)) (fun b s₁ => if b then wpP P M A (eval body env) Q E s₁ else wpP P M A (eval orelse env) Q E s₁) E s) :
  wpP P M A (eval (.IfExp test body orelse pos) env) Q E s := by
 rw [arm_eval_IfExp]
 refine wpP_bind (wpP_mono h (fun b s₁ h₁ => ?_) fun _ _ x => x)
 cases b <;> exact h₁
theorem wpP_Or2 {x y : Expr} {pos : Pos} {Q : Value → Shared → Prop} (h : wpP P M A (eval x env) (fun v s₁ => wpP P M A (truthy v) (fun t s₂ => if t then Q v s₂ else wpP P M A (eval y env) Q E s₂) E s₁) E s) :
  wpP P M A (eval (.BoolOp .Or [x, y] pos) env) Q E s := by
 show wpP P M A (do
  let v ← eval x env
  standAt pos
  let t ← holding [v] (truthy v)
  match BoolOp.Or, t with
  | .And, false | .Or, true => pure v
  | _, _ => boolOp pos .Or [eval y env]) Q E s
 refine wpP_bind (wpP_mono h (fun v s₁ h₁ => wpP_bind (wpP_standAt (wpP_bind (wpP_holding (wpP_mono h₁ (fun t s₂ h₂ => ?_) fun _ _ x => x))))) fun _ _ x => x)
 cases t with
 | false => exact h₂
 | true => exact wpP_pure h₂
theorem wpP_And2 {x y : Expr} {pos : Pos} {Q : Value → Shared → Prop} (h : wpP P M A (eval x env) (fun v s₁ => wpP P M A (truthy v) (fun t s₂ => if t then wpP P M A (eval y env) Q E s₂ else Q v s₂) E s₁) E s) :
  wpP P M A (eval (.BoolOp .And [x, y] pos) env) Q E s := by
 show wpP P M A (do
  let v ← eval x env
  standAt pos
  let t ← holding [v] (truthy v)
  match BoolOp.And, t with
  | .And, false | .Or, true => pure v
  | _, _ => boolOp pos .And [eval y env]) Q E s
 refine wpP_bind (wpP_mono h (fun v s₁ h₁ => wpP_bind (wpP_standAt (wpP_bind (wpP_holding (wpP_mono h₁ (fun t s₂ h₂ => ?_) fun _ _ x => x))))) fun _ _ x => x)
 cases t with
 | false => exact wpP_pure h₂
 | true => exact h₂
theorem wpP_isTrue_Compare1 {l op r pos whole} {Q : Bool → Shared → Prop} (h : wpP P M A (eval l env) (fun a s₁ => wpP P M A (eval r env) (fun b s₂ => wpP P M A (compareOp op a b) (fun c s₃ => wpP P M A (truthy c) Q E s₃) E s₂) E s₁) E s)
  (hm : behindInMarks op r = false := by with_unfolding_all rfl) : wpP P M A (isTrue (.Compare l [op] [r] pos) env whole) Q E s := fun Γ p hΓ hC => by
 simp only [isTrue_Compare1, markedBehindIn_of_false hm, Sem.wp_bind', Sem.wp_holding, Sem.wp_cmd_standAt, Sem.wp_operate]
 exact Sem.wp_mono M Γ _ (fun a p₁ s₁ h₁ => Sem.wp_mono M Γ _ (fun b _ s₂ h₂ => Sem.wp_mono M Γ _ (fun c p₃ s₃ h₃ => h₃ Γ p₃ hΓ hC) (fun _ _ _ h' => h') _ _ (h₂ Γ _ hΓ hC)) (fun _ _ _ h' => h') _ _ (h₁ Γ p₁ hΓ hC)) (fun _ _ _ h' => h') _ _ (h Γ p hΓ hC)
theorem wpP_isTrue_Not {x : Expr} {pos : Pos} {whole : Sem Value} {Q : Bool → Shared → Prop} (h : wpP P M A (isTrue x env (eval x env)) (fun b s₁ => Q (!b) s₁) E s) : wpP P M A (isTrue (.UnaryOp .Not x pos) env whole) Q E s := by
 rw [arm_isTrue_UnaryOp]
 exact wpP_bind (wpP_mono h (fun b s₁ h₁ => wpP_pure h₁) fun _ _ x => x)
theorem wpP_isTrue_value {e : Expr} {whole : Sem Value} {Q : Bool → Shared → Prop} (h : wpP P M A whole (fun v s₁ => wpP P M A (truthy v) Q E s₁) E s) (he : isTrue e env whole = (do let v ← whole; standAt e.pos; holding [v] (truthy v)) := by rfl) :
  wpP P M A (isTrue e env whole) Q E s := by
 rw [he]
 exact wpP_bind (wpP_mono h (fun v s₁ h₁ => wpP_bind (wpP_standAt (wpP_holding h₁))) fun _ _ x => x)
theorem wpP_isTrue_BoolOp {op : BoolOp} {values : List Expr} {pos : Pos} {whole : Sem Value} {Q : Bool → Shared → Prop} (h : wpP P M A (allTrue op values env) Q E s) : wpP P M A (isTrue (.BoolOp op values pos) env whole) Q E s := by rw [arm_isTrue_BoolOp]; exact h
theorem wpP_allTrue_And_cons {x : Expr} {rest : List Expr} {Q : Bool → Shared → Prop} (h : wpP P M A (isTrue x env (eval x env)) (fun b s₁ => if b then wpP P M A (allTrue .And rest env) Q E s₁ else Q false s₁) E s) : wpP P M A (allTrue .And (x :: rest) env) Q E s := by
 show wpP P M A (do match BoolOp.And, ← isTrue x env (eval x env) with | .And, false => pure false | .Or, true => pure true | _, _ => allTrue .And rest env) Q E s
 refine wpP_bind (wpP_mono h (fun b s₁ h₁ => ?_) fun _ _ x => x)
 cases b
 ·exact wpP_pure h₁
 ·exact h₁
theorem wpP_allTrue_Or_cons {x : Expr} {rest : List Expr} {Q : Bool → Shared → Prop} (h : wpP P M A (isTrue x env (eval x env)) (fun b s₁ => if b then Q true s₁ else wpP P M A (allTrue .Or rest env) Q E s₁) E s) : wpP P M A (allTrue .Or (x :: rest) env) Q E s := by
 show wpP P M A (do match BoolOp.Or, ← isTrue x env (eval x env) with | .And, false => pure false | .Or, true => pure true | _, _ => allTrue .Or rest env) Q E s
 refine wpP_bind (wpP_mono h (fun b s₁ h₁ => ?_) fun _ _ x => x)
 cases b
 ·exact h₁
 ·exact wpP_pure h₁
theorem wpP_items_nil {pos : Pos} {Q : List Value → Shared → Prop} (h : Q [] s) : wpP P M A (spliced (backTo pos (starEach [] env))) Q E s := wpP_pure h
theorem wpP_items_cons {pos : Pos} {e : Expr} {rest : List Expr} {Q : List Value → Shared → Prop} (h : wpP P M A (eval e env) (fun v s₁ => wpP P M A (spliced (backTo pos (starEach rest env))) (fun vs s₂ => Q (v :: vs) s₂) E s₁) E s)
  (he : starEach (e :: rest) env = (false, eval e env) :: starEach rest env := by rfl) : wpP P M A (spliced (backTo pos (starEach (e :: rest) env))) Q E s := by
 rw [he]
 show wpP P M A (do
  let v ← eval e env
  let here ← (pure [v] : Sem (List Value))
  return here ++ (← holding here (spliced (backTo pos (starEach rest env))))) Q E s
 exact wpP_bind (wpP_mono h (fun v s₁ h₁ => wpP_bind (wpP_pure (wpP_bind (wpP_holding (wpP_mono h₁ (fun vs s₂ h₂ => wpP_pure h₂) fun _ _ x => x))))) fun _ _ x => x)
theorem wpP_execs_cons {st rest} {Q : Flow → Shared → Prop} (h : wpP P M A (exec st env) (fun f s' => match f with | .next => wpP P M A (execs rest env) Q E s' | f => Q f s') E s) : wpP P M A (execs (st :: rest) env) Q E s := fun Γ p hΓ hC => by
 rw [execs_cons, Sem.wp_bind']
 refine Sem.wp_mono M Γ _ (fun f p' s' h' => ?_) (fun _ _ _ h' => h') _ _ (h Γ p hΓ hC)
 cases f <;> first | exact h' Γ p' hΓ hC | exact h'
theorem wpP_If {test body orelse pos} {Q : Flow → Shared → Prop} (h : wpP P M A (isTrue test env (eval test env)) (fun b s₂ => if b then wpP P M A (execs body env) Q E s₂ else wpP P M A (execs orelse env) Q E s₂) E s) :
  wpP P M A (exec (.If test body orelse pos) env) Q E s := fun Γ p hΓ hC => by
 simp only [exec_If, Sem.wp_bind', Sem.wp_cmd_standAt]
 refine Sem.wp_mono M Γ _ (fun b p₂ s₂ h₂ => ?_) (fun _ _ _ h' => h') _ _ (h Γ _ hΓ hC)
 cases b <;> exact h₂ Γ p₂ hΓ hC
theorem wpP_Return_some {e pos} {Q : Flow → Shared → Prop} (h : wpP P M A (eval e env) (fun v => Q (.ret v)) E s) : wpP P M A (exec (.Return (some e) pos) env) Q E s := fun Γ p hΓ hC => by
 simp only [exec_Return_some, Sem.wp_bind', Sem.wp_cmd_standAt, Sem.wp_pure']; exact h Γ _ hΓ hC
theorem wpP_Assign_Name {x pos' value pos} {Q : Flow → Shared → Prop} (h : wpP P M A (eval value env) (fun v s₁ => wpP P M A (storeName env x v) (fun _ => Q .next) E s₁) E s)
  (hs : swapsWith value (some (.Name x pos')) pos.line env = pure false := by rfl) : wpP P M A (exec (.Assign [.Name x pos'] value pos) env) Q E s := fun Γ p hΓ hC => by
 simp only [exec_Assign_Name env x pos' value pos hs, Sem.wp_bind', Sem.wp_cmd_standAt, Sem.wp_bindName, Sem.wp_pure']
 exact Sem.wp_mono M Γ _ (fun v _ s₁ h₁ => h₁ Γ _ hΓ hC) (fun _ _ _ h' => h') _ _ (h Γ _ hΓ hC)
theorem wpP_Expr {e pos} {Q : Flow → Shared → Prop} (h : wpP P M A (eval e env) (fun v s' => match v with | .ref _ => False | _ => Q .next s') E s) (hi : interactive env = false := by rfl) (hs : swapsWith e none pos.line env = pure false := by rfl) :
  wpP P M A (exec (.Expr e pos) env) Q E s := by
 rw [exec_Expr env e pos hi hs]
 refine wpP_bind (wpP_standAt (wpP_bind (wpP_mono h (fun v s' h' => ?_) fun _ _ x => x)))
 have hv : ∀ a, v ≠ .ref a := fun a hva => by subst hva; exact h'
 rw [dropValue_plain hv]
 refine wpP_pure ?_
 cases v <;> first | exact h' | exact (hv _ rfl).elim
theorem wpP_Assign_Attribute {o attr pos' value pos} {Q : Flow → Shared → Prop} (h : wpP P M A (eval value env) (fun v s₁ => wpP P M A (eval o env) (fun ov s₂ => wpP P M A (setAttr ov attr v) (fun _ => Q .next) E s₂) E s₁) E s)
  (hs : swapsWith value (some (.Attribute o attr pos')) pos.line env = pure false := by rfl) : wpP P M A (exec (.Assign [.Attribute o attr pos'] value pos) env) Q E s := fun Γ p hΓ hC => by
 simp only [plainObj_exec_Assign_Attribute o attr pos' value pos hs, assign_Attribute, Sem.wp_bind', Sem.wp_holding, Sem.wp_cmd_standAt, Sem.wp_release, Sem.wp_pure']
 exact Sem.wp_mono M Γ _ (fun v p₁ s₁ h₁ => Sem.wp_mono M Γ _ (fun ov _ s₂ h₂ => h₂ Γ _ hΓ hC) (fun _ _ _ h' => h') _ _ (h₁ Γ p₁ hΓ hC)) (fun _ _ _ h' => h') _ _ (h Γ _ hΓ hC)
theorem wpP_Assign_Subscript {o i pos' value pos} {Q : Flow → Shared → Prop} (h : wpP P M A (eval value env) (fun v s₁ => wpP P M A (eval o env) (fun ov s₂ => wpP P M A (eval i env) (fun iv s₃ => wpP P M A (setItem ov iv v) (fun _ => Q .next) E s₃) E s₂) E s₁) E s)
  (hs : swapsWith value (some (.Subscript o i pos')) pos.line env = pure false := by rfl) : wpP P M A (exec (.Assign [.Subscript o i pos'] value pos) env) Q E s := fun Γ p hΓ hC => by
 simp only [exec_Assign_Subscript o i pos' value pos hs, assign_Subscript, Sem.wp_bind', Sem.wp_holding, Sem.wp_cmd_standAt, Sem.wp_release, Sem.wp_pure']
 exact Sem.wp_mono M Γ _ (fun v p₁ s₁ h₁ => Sem.wp_mono M Γ _ (fun ov p₂ s₂ h₂ => Sem.wp_mono M Γ _ (fun iv _ s₃ h₃ => h₃ Γ _ hΓ hC) (fun _ _ _ h' => h') _ _ (h₂ Γ p₂ hΓ hC)) (fun _ _ _ h' => h') _ _ (h₁ Γ p₁ hΓ hC)) (fun _ _ _ h' => h') _ _ (h Γ _ hΓ hC)
theorem wpP_Assign_Tuple {elts k tpos value pos} {Q : Flow → Shared → Prop} (h : wpP P M A (eval value env) (fun v s₁ => wpP P M A (assign (.Tuple elts k tpos) env v) (fun _ => Q .next) E s₁) E s)
  (hs : swapsWithSole [.Tuple elts k tpos] value pos.line env = pure false := by rfl) (hw : swappedStores [.Tuple elts k tpos] value env = pure none := by rfl) : wpP P M A (exec (.Assign [.Tuple elts k tpos] value pos) env) Q E s := by
 rw [exec_Assign]
 refine wpP_bind (wpP_standAt ?_)
 rw [hs]
 refine wpP_bind (wpP_pure ?_)
 rw [if_neg (by decide)]
 refine wpP_bind (wpP_mono h (fun v s₁ h₁ => ?_) fun _ _ x => x)
 rw [hw]
 refine wpP_bind (wpP_pure ?_)
 show wpP P M A (do assignAll v [assign (.Tuple elts k tpos) env]; pure .next) Q E s₁
 exact wpP_bind (wpP_mono h₁ (fun _ _ x => wpP_pure x) fun _ _ x => x)
theorem wpP_Assign_Tuple_swapped {elts k tpos value pos} {names : List Str} {Q : Flow → Shared → Prop} (h : wpP P M A (eval value env) (fun v s₁ => wpP P M A (unpackItems v names.length none) (fun items s₂ => wpP P M A (assignInOrder (names.reverse.map fun n => bindName env n) items.reverse) (fun _ => Q .next) E s₂) E s₁) E s)
  (hs : swapsWithSole [.Tuple elts k tpos] value pos.line env = pure false := by rfl) (hw : swappedStores [.Tuple elts k tpos] value env = pure (some names) := by rfl) : wpP P M A (exec (.Assign [.Tuple elts k tpos] value pos) env) Q E s := by
 rw [exec_Assign]
 refine wpP_bind (wpP_standAt ?_)
 rw [hs]
 refine wpP_bind (wpP_pure ?_)
 rw [if_neg (by decide)]
 refine wpP_bind (wpP_mono h (fun v s₁ h₁ => ?_) fun _ _ x => x)
 rw [hw]
 refine wpP_bind (wpP_pure ?_)
 show wpP P M A (do rule "assign.swapped-stores"; let items ← unpackItems v names.length none; assignInOrder (names.reverse.map fun n => bindName env n) items.reverse; pure .next) Q E s₁
 exact wpP_bind (wpP_rule (wpP_bind (wpP_mono h₁ (fun items s₂ h₂ => wpP_bind (wpP_mono h₂ (fun _ _ x => wpP_pure x) fun _ _ x => x)) fun _ _ x => x)))
theorem wpP_Call {func : Expr} {args : List Expr} {pos : Pos} {Q : Value → Shared → Prop} (h : wpP P M A (eval func env) (fun f s₁ => wpP P M A (callWith pos f [] (backTo pos (starEach args env)) []) Q E s₁) E s)
  (he : eval (.Call func args [] pos) env = (do callWith pos (← eval func env) [] (backTo pos (starEach args env)) (backToKw pos (keywordEach [] env))) := by rfl) : wpP P M A (eval (.Call func args [] pos) env) Q E s := by
 rw [he]; exact wpP_bind h
theorem wpP_MethodCall {o : Expr} {name : Str} {apos pos : Pos} {args : List Expr} {pl : Sem Bool} {Q : Value → Shared → Prop}
  (h : wpP P M A (eval o env) (fun ov s₁ => wpP P M A (getMethod ov name pl) (fun fx s₂ => wpP P M A (callWith pos fx.1 fx.2 (backTo pos (starEach args env)) []) Q E s₂) E s₁) E s)
  (he : eval (.Call (.Attribute o name apos) args [] pos) env = (do
   let ov ← eval o env
   standAt apos.atName
   let (f, first) ← holding [ov] (getMethod ov name pl)
   callWith pos f first (backTo pos (starEach args env)) []) := by rfl) : wpP P M A (eval (.Call (.Attribute o name apos) args [] pos) env) Q E s := by
 rw [he]
 refine wpP_bind (wpP_mono h (fun ov s₁ h₁ => wpP_bind (wpP_standAt (wpP_bind (wpP_holding (wpP_mono h₁ (fun fx s₂ h₂ => ?_) fun _ _ x => x))))) fun _ _ x => x)
 exact h₂
theorem callWith_plainP {pos : Pos} {f : Value} {first : List Value} {args : List (Bool × Sem Value)} {Q : Value → Shared → Prop} (hplain : args.any (·.1) = false)
  (h : wpP P M A (evalArgs f true args []) (fun a s₁ => (∃ k, (k = Keeper.frame ∨ k = Keeper.machine ∨ k = Keeper.boundFrame) ∧ Looks M s₁.heap (keeperOf f) k) ∧ wpP P M A (call f (first ++ a.pos) a.kw) Q E s₁) E s) : wpP P M A (callWith pos f first args []) Q E s := by
 unfold callWith
 refine wpP_bind (wpP_holding (wpP_mono h (fun a s₁ h₁ => wpP_bind (wpP_standAt ?_)) fun _ _ x => x))
 simp only [hplain, List.any_nil, Bool.or_false]
 obtain ⟨⟨k, hk, L⟩, h₂⟩ := h₁
 refine wpP_bind (wpP_looks L (fun _ _ e => e) ?_)
 have tail : ∀ {t : Sem Value}, wpP P M A t Q E s₁ → wpP P M A (t >>= fun r => holding [r] point >>= fun _ => pure r) Q E s₁ :=
  fun ht => wpP_bind (wpP_mono ht (fun r s₂ hr => wpP_bind (wpP_holding (wpP_point (wpP_pure hr)))) fun _ _ x => x)
 have marked (mk : Value) : wpP P M A (callMarked mk f (first ++ a.pos) a.kw) Q E s₁ := by
  unfold callMarked
  exact fun Γ p hΓ hC => by rw [Sem.wp_keep]; exact h₂ Γ p hΓ hC
 rcases hk with rfl | rfl | rfl <;> dsimp only <;> first | exact tail h₂ | (split <;> first | exact tail h₂ | exact tail (marked _))
theorem evalArgs_plainP {f : Value} {x : Sem Value} {rest : List (Bool × Sem Value)} {Q : Args → Shared → Prop} (h : wpP P M A (spliced ((false, x) :: rest)) (fun vs s' => Q ⟨vs, []⟩ s') E s) : wpP P M A (evalArgs f true ((false, x) :: rest) []) Q E s := by
 unfold evalArgs
 show wpP P M A (spliced ((false, x) :: rest) >>= _) Q E s
 refine wpP_bind (wpP_mono h (fun vs s' h' => ?_) fun _ _ x => x)
 refine wpP_holding ?_
 exact wpP_bind (wpP_pure (wpP_bind (wpP_pure (wpP_pure h'))))
theorem evalArgs_nilP {f : Value} {Q : Args → Shared → Prop} (h : Q ⟨[], []⟩ s) : wpP P M A (evalArgs f true [] []) Q E s := .of (evalArgs_nil3 h)
theorem keep_ty {T : String} {h : Heap} : Looks M h (keeperOf (.type T)) .machine := Looks.of_pure rfl
theorem keep_bi {T : String} {h : Heap} : Looks M h (keeperOf (.builtin T)) .machine := Looks.of_pure rfl
theorem wpP_Subscript {value slice pos} {Q : Value → Shared → Prop} (h : wpP P M A (eval value env) (fun o s₁ => wpP P M A (eval slice env) (fun i s₂ => wpP P M A (subscriptTail value slice o i) Q E s₂) E s₁) E s) : wpP P M A (eval (.Subscript value slice pos) env) Q E s := by
 rw [eval_Subscript]
 exact wpP_bind (wpP_mono h (fun o s₁ h₁ => wpP_bind (wpP_holding (wpP_mono h₁ (fun i s₂ h₂ => wpP_bind (wpP_standAt h₂)) fun _ _ x => x))) fun _ _ x => x)
theorem wpP_Slice {lower upper step : Option Expr} {p : Pos} {Q : Value → Shared → Prop} (h : wpP P M A (evalPart lower env) (fun l s₁ => wpP P M A (evalPart upper env) (fun u s₂ => wpP P M A (evalPart step env) (fun st s₃ =>
   Q (.ref s₃.heap.objs.size) { s₃ with heap := s₃.heap.push { cls := .type "slice", data := .fields #[l, u, st] } }) E s₂) E s₁) E s) : wpP P M A (eval (.Slice lower upper step p) env) Q E s := by
 rw [arm_eval_Slice]
 refine wpP_bind (wpP_mono h (fun l s₁ h₁ => wpP_bind (wpP_holding (wpP_mono h₁ (fun u s₂ h₂ => wpP_bind (wpP_holding (wpP_mono h₂ (fun st s₃ h₃ => ?_) fun _ _ x => x))) fun _ _ x => x))) fun _ _ x => x)
 exact .of (wpAny_newObj_type h₃)
theorem wpP_List {elts : List Expr} {pos : Pos} {Q : Value → Shared → Prop} (h : wpP P M A (spliced (backTo pos (starEach elts env))) (fun vs s₁ => vs.length ≤ sizeLine ∧ Q (.ref s₁.heap.objs.size) { s₁ with heap := s₁.heap.push { cls := .type "list", data := .seq vs.toArray } }) E s) :
  wpP P M A (eval (.List elts pos) env) Q E s := by
 rw [arm_eval_List]
 exact wpP_bind (wpP_standAt (wpP_bind (wpP_mono h (fun vs s₁ h₁ => .of (wpAny_newList h₁.2 h₁.1)) fun _ _ e => e)))
theorem wpP_Tuple {elts : List Expr} {k : Nat} {pos : Pos} {Q : Value → Shared → Prop} (h : wpP P M A (spliced (backTo pos (starEach elts env))) (fun vs s₁ => wpP P M A (newTuple vs) Q E s₁) E s) : wpP P M A (eval (.Tuple elts k pos) env) Q E s := by
 show wpP P M A (do standAt pos; newTuple (← spliced (backTo pos (starEach elts env)))) Q E s
 exact wpP_bind (wpP_standAt (wpP_bind h))
theorem wpP_While {test body orelse pos} {Q : Flow → Shared → Prop} (h : codeP P M A (.whileLoop test body orelse env) (fun r s' => match r with | .ok f => Q f s' | .error e => cameBackBy M A env E e s') s) : wpP P M A (exec (.While test body orelse pos) env) Q E s := by
 rw [exec_While]; exact wpP_bind (wpP_standAt (wpP_runOwn h rfl))
theorem wpP_For {target iter body orelse pos} {Q : Flow → Shared → Prop} (h : wpP P M A (eval iter env) (fun x s₁ => wpP P M A (pyIter x) (fun it s₂ => codeP P M A (.forLoop target it body orelse env) (fun r s' => match r with | .ok f => Q f s' | .error e => cameBackBy M A env E e s') s₂) E s₁) E s)
  (hs : ∀ x, foldedSetIterable iter env x = pure x := by intro _; rfl) : wpP P M A (exec (.For target iter body orelse pos) env) Q E s := by
 rw [exec_For]
 exact wpP_bind (wpP_standAt (wpP_bind (wpP_mono h (fun x s₁ h₁ => wpP_bind (wpP_of_eq (hs x) (wpP_bind (wpP_standAt (wpP_bind (wpP_holding (wpP_mono h₁ (fun it s₂ h₂ => wpP_runOwn h₂ rfl) fun _ _ h' => h'))))))) fun _ _ h' => h')))
end
section
variable {P : CP} {prog : Program} {w : World} {A : Around} {E : Value → Shared → Prop} {s : Shared} {env : Env} {R : Result → Shared → Prop}
theorem wpP_Attribute {value : Expr} {attr : Str} {pos : Pos} {Q : Value → Shared → Prop} (h : wpP P (model prog w) A (eval value env) (fun o s₁ => wpP P (model prog w) A (getAttr o attr true) Q E s₁) E s)
  (he : eval (.Attribute value attr pos) env = (do
   let o ← eval value env
   standAt pos.atName
   let r ← holding [o] (getAttr o attr true)
   letTemporaryGo value o r
   pure r) := by with_unfolding_all rfl) : wpP P (model prog w) A (eval (.Attribute value attr pos) env) Q E s := by
 rw [he]
 refine wpP_bind (wpP_mono h (fun o s₁ h₁ => wpP_bind (wpP_standAt (wpP_bind (wpP_holding (wpP_mono h₁ (fun r s₂ h₂ => ?_) fun _ _ x => x))))) fun _ _ x => x)
 exact wpP_bind (.of (wpAny_letTemporaryGo (wpP_pure h₂)))
theorem codeP_whileLoop {test body} (I : Nat → Shared → Prop)
  (turn : ∀ n s, I n s → wpP P (model prog w) A (isTrue test env (eval test env)) (fun b s₂ =>
    if b then wpP P (model prog w) A (execs body env) (fun f s₃ => match f with
      | .next | .cont => ∃ m, m < n ∧ I m s₃
      | .brk => R (.ok .next) s₃
      | .ret v => R (.ok (.ret v)) s₃) (notedBy (model prog w) A env fun e s' => R (.error e) s') s₂
    else R (.ok .next) s₂) (notedBy (model prog w) A env fun e s' => R (.error e) s') s)
  (n : Nat) (h : I n s) : codeP P (model prog w) A (.whileLoop test body [] env) R s := by
 refine codeP_loop rfl rfl I (fun n s hI => ?_) n h
 show wpP P _ A ((whileTurn test body [] env).onRaise (fun x => do noteFrame x env; theTreesLotGoes x)) _ _ s
 refine wpP_noted ?_
 simp only [whileTurn]
 refine wpP_bind (wpP_mono (turn n s hI) (fun b s₂ h₂ => ?_) fun _ _ h' => h')
 cases b with
 | false =>
  simp only [Bool.false_eq_true, if_false] at h₂ ⊢
  exact .of (wpAny_bind (wpAny_execs_nil (wpAny_pure h₂)))
 | true =>
  simp only [if_true] at h₂ ⊢
  refine wpP_bind (wpP_mono h₂ (fun f s₃ h₃ => ?_) fun _ _ h' => h')
  cases f with
  | next => exact wpP_pure (.inl ⟨rfl, h₃⟩)
  | cont => exact wpP_pure (.inl ⟨rfl, h₃⟩)
  | brk => exact wpP_pure h₃
  | ret v => exact wpP_pure h₃
theorem codeP_block0 (h : R (.ok .next) s) : codeP P (model prog w) A (.block [] env) R s := .of (codeAny_block (wpAny_execs_nil h))
theorem codeP_forLoop {target it body} (I : Nat → Shared → Prop)
  (turn : ∀ n s, I n s → wpP P (model prog w) A (pyNext it) (fun r s₁ => match r with
   | none => R (.ok .next) s₁
   | some v => wpP P (model prog w) A (letOwnedTupleGo target it v) (fun _ s₁' =>
     wpP P (model prog w) A (assign target env v) (fun _ s₂ => wpP P (model prog w) A (execs body env) (fun f s₃ => match f with
      | .next | .cont => ∃ m, m < n ∧ I m s₃
      | .brk => R (.ok .next) s₃
      | .ret v => R (.ok (.ret v)) s₃) (notedBy (model prog w) A env fun e s' => R (.error e) s') s₂) (notedBy (model prog w) A env fun e s' => R (.error e) s') s₁') (notedBy (model prog w) A env fun e s' => R (.error e) s') s₁) (notedBy (model prog w) A env fun e s' => R (.error e) s') s)
  (n : Nat) (h : I n s) : codeP P (model prog w) A (.forLoop target it body [] env) R s := by
 refine codeP_loop rfl rfl I (fun n s hI => ?_) n h
 show wpP P _ A ((forTurn target it body [] env).onRaise (fun x => do noteFrame x env; theTreesLotGoes x)) _ _ s
 refine wpP_noted ?_
 simp only [forTurn]
 refine wpP_bind (wpP_standAt (wpP_bind (wpP_onRaise (wpP_mono (turn n s hI) (fun r s₁ h₁ => ?_) fun _ _ h' => wpP_standAt h'))))
 cases r with
 | none => exact wpP_pure (.inr ⟨rfl, rfl, codeP_block0 h₁⟩)
 | some v =>
  refine wpP_bind (wpP_mono h₁ (fun _ s₁' h₁' => ?_) fun _ _ h' => h')
  refine wpP_bind (wpP_mono h₁' (fun _ s₂ h₂ => wpP_bind (wpP_mono h₂ (fun f s₃ h₃ => ?_) fun _ _ h' => h')) fun _ _ h' => h')
  cases f with
  | next => exact wpP_pure (.inl ⟨rfl, h₃⟩)
  | cont => exact wpP_pure (.inl ⟨rfl, h₃⟩)
  | brk => exact wpP_pure h₃
  | ret v => exact wpP_pure h₃
theorem codeP_func {body} (h : wpP P (model prog w) (A.deeper env) (execs body env) (fun f s' => R (.ok (.ret (match f with | .ret v => v | _ => .none))) s')
   (fun e s' => wpAny (model prog w) (A.deeper env) (leaving env e) (fun _ s'' => R (.error e) s'') (fun e' s'' => R (.error e') s'') s') s) : codeP P (model prog w) A (.func body env) R s := by
 refine codeP_of_tree ?_
 show wpP P _ (A.deeper env) (do point; match ← (execs body env).onRaise (leaving env) with | .ret v => ret v | _ => ret .none) _ _ s
 refine wpP_bind (wpP_point (wpP_bind (wpP_onRaise (wpP_mono h (fun f s' h' => ?_) fun _ _ h' => .of h'))))
 cases f <;> exact wpP_pure h'
theorem codeP_call_def {a : Addr} {o : Obj} {fd : FuncData} {body : List Stmt} {args : Args} {binds : List (Str × Value)}
  (hroom : A.depth < recursionLimit) (ho : s.heap.get? a = some o) (hdata : o.data = .func fd) (hlim : s.heap.NoLimit) (hcd : s.heap.CodeRec fd.code fd.qualname)
  (hbody : fd.body = .stmts body) (hbind : BindsTo s fd args binds) (hcell : ∀ x ∈ fd.scope.names, x.2 ≠ .cell) (hloc : ∀ x ∈ binds, fd.scope.names.lookup x.1 = some .local)
  (h : ∀ h₀, h₀.Ns s.heap.objs.size (fun x => binds.reverse.lookup x) → (∀ b o, s.heap.get? b = some o → h₀.get? b = some o) →
   wpP P (model prog w) (A.deeper (callEnv fd s.heap.objs.size a)) (execs body (callEnv fd s.heap.objs.size a)) (fun f s' => R (.ok (.ret (match f with | .ret v => v | _ => .none))) s')
    (fun e s' => wpAny (model prog w) (A.deeper (callEnv fd s.heap.objs.size a)) (leaving (callEnv fd s.heap.objs.size a) e) (fun _ s'' => R (.error e) s'') (fun e' s'' => R (.error e') s'') s')
    {s with heap := h₀, toks := s.toks + binds.length })
  (hco : fd.scope.isCoroutine = false) (hgen : fd.scope.isGenerator = false) (hk : fd.scope.kind = .function) : codeP P (model prog w) A (.call (.ref a) args) R s := by
 refine codeP_of_tree ?_
 show wpP P _ A.in1 (callAny (.ref a) args) _ _ s
 obtain ⟨c, oc, vs, tq, hc, hoc, hdc, hq⟩ := hcd
 have L : wpAny (model prog w) A.in1 (callAny (.ref a) args) (fun fin s' => ∃ h₀, fin = .again (.func body (callEnv fd s.heap.objs.size a)) ∧ s' = { s with heap := h₀, toks := s.toks + binds.length } ∧
   h₀.Ns s.heap.objs.size (fun x => binds.reverse.lookup x) ∧ ∀ b o, s.heap.get? b = some o → h₀.get? b = some o) (fun _ _ => False) s := by
  simp only [callAny]
  refine wpAny_bind (wpAny_load ho ?_)
  simp only [hdata, callFunction, hco, hgen, hbody, hc]
  refine wpAny_bind (m := field (.ref c) 1) (wpAny_field hoc hdc hq (wpAny_bind (wpAny_pure ?_)))
  refine wpAny_bind (hbind _ _ _ _ (wpAny_bind (wpAny_newFunctionEnv hcell hloc (fun h₀ hns₀ hsb₀ => wpAny_bind (wpAny_enterFrame (hlim.fresh _ hsb₀) hroom (wpAny_pure ⟨h₀, ?_, rfl, hns₀, fun b o e => ?_⟩))) hk)))
  ·show Fin.again (.func body _) = _
   unfold callEnv
   rw [hc]
  ·exact hsb₀.extBut b o (Nat.ne_of_lt (Heap.lt_size e)) (Heap.get?_push_of_some _ e)
 refine wpP_mono (.of L) (fun fin s' ⟨h₀, e1, e2, h1, h2⟩ => ?_) fun _ _ z => z.elim
 subst e1 e2
 exact ⟨rfl, rfl, codeP_func (h h₀ h1 h2)⟩
end
end
section
mutual
noncomputable def AV.lt (n : Nat) : AV → Prop
 | .obj k => k < n
 | .tup vs => ltL n vs
 | .lst vs => ltL n vs
 | .ins _ _ vs => ltL n vs
 | _ => True
noncomputable def ltL (n : Nat) : List AV → Prop
 | [] => True
 | v :: vs => v.lt n ∧ ltL n vs
end
noncomputable def AO.lt (n : Nat) : AO → Prop
 | .inst _ _ vs => ltL n vs
 | .list vs => ltL n vs
 | .sdict _ _ vs => ltL n vs
 | _ => True
mutual
theorem AV.lt_mono {n k : Nat} (hk : n ≤ k) : ∀ v : AV, v.lt n → v.lt k
 | .obj _, h => Nat.lt_of_lt_of_le h hk
 | .tup vs, h => ltL_mono hk vs h
 | .lst vs, h => ltL_mono hk vs h
 | .ins _ _ vs, h => ltL_mono hk vs h
 | .un, _ | .none, _ | .bool _, _ | .int _, _ | .str _, _ | .bytes _, _ | .val _, _ => trivial
theorem ltL_mono {n k : Nat} (hk : n ≤ k) : ∀ vs : List AV, ltL n vs → ltL k vs
 | [], _ => trivial
 | v :: vs, h => ⟨AV.lt_mono hk v h.1, ltL_mono hk vs h.2⟩
end
theorem AO.lt_mono {n k : Nat} (hk : n ≤ k) : ∀ o : AO, o.lt n → o.lt k
 | .inst _ _ vs, h => ltL_mono hk vs h
 | .list vs, h => ltL_mono hk vs h
 | .sdict _ _ vs, h => ltL_mono hk vs h
 | .barr _, _ | .idict _, _ | .raw _, _ | .gone, _ => trivial
mutual
theorem CV.isLt {E : Own} {F : Led} : ∀ (v : AV) (c : Value), CV E F v c → v.lt E.length
 | .obj k, _, h => by
  simp only [CV] at h
  obtain ⟨a, r, e, _⟩ := h
  exact (List.getElem?_eq_some_iff.mp e).1
 | .tup vs, _, h => by
  simp only [CV] at h
  obtain ⟨a, cs, n, _, _, hc⟩ := h
  exact CVs.isLt vs cs hc
 | .lst vs, _, h => by
  simp only [CV] at h
  obtain ⟨a, cs, n, _, _, _, hc⟩ := h
  exact CVs.isLt vs cs hc
 | .ins C ns vs, _, h => by
  simp only [CV] at h
  obtain ⟨a, d, od, m, _, _, _, _, _, hc⟩ := h
  exact CVf.isLt m ns vs hc
 | .un, _, _ | .none, _, _ | .bool _, _, _ | .int _, _, _ | .str _, _, _ | .bytes _, _, _ | .val _, _, _ => trivial
theorem CVs.isLt {E : Own} {F : Led} : ∀ (vs : List AV) (cs : List Value), CVs E F vs cs → ltL E.length vs
 | [], _, _ => trivial
 | v :: vs, _, h => by
  simp only [CVs] at h
  obtain ⟨c, r, rfl, h1, h2⟩ := h
  exact ⟨CV.isLt v c h1, CVs.isLt vs r h2⟩
theorem CVf.isLt {E : Own} {F : Led} (m : Str → Option Value) : ∀ (ns : List Str) (vs : List AV), CVf E F m ns vs → ltL E.length vs
 | _, [], _ => trivial
 | _, v :: vs, h => by
  simp only [CVf] at h
  obtain ⟨x, r, c, rfl, _, h1, h2⟩ := h
  exact ⟨CV.isLt v c h1, CVf.isLt m r vs h2⟩
end
theorem RepO.isLt {E : Own} {F : Led} {h : Heap} : ∀ {o : AO} {as : List Addr}, RepO E F h o as → o.lt E.length
 | .inst .., _, ⟨_, _, _, _, _, _, _, _, _, _, _, h4⟩ => CVf.isLt _ _ _ h4
 | .list _, _, ⟨_, _, _, _, _, h2⟩ => CVs.isLt _ _ h2
 | .sdict .., _, ⟨_, _, _, _, _, _, _, h4⟩ => CVs.isLt _ _ h4
 | .barr _, _, _ | .idict _, _, _ | .raw _, _, _ | .gone, _, _ => trivial
mutual
theorem CV.cut {E : Own} {F : Led} (n : Nat) : ∀ (v : AV) (c : Value), CV E F v c → v.lt n → CV (E.take n) F v c
 | .obj k, _, h, l => by
  simp only [CV] at h ⊢
  obtain ⟨a, r, e, rfl⟩ := h
  exact ⟨a, r, by rw [List.getElem?_take_of_lt l]; exact e, rfl⟩
 | .tup vs, _, h, l => by
  simp only [CV] at h ⊢
  obtain ⟨a, cs, k, rfl, hm, hc⟩ := h
  exact ⟨a, cs, k, rfl, hm, CVs.cut n vs cs hc l⟩
 | .lst vs, _, h, l => by
  simp only [CV] at h ⊢
  obtain ⟨a, cs, k, rfl, hm, hl, hc⟩ := h
  exact ⟨a, cs, k, rfl, hm, hl, CVs.cut n vs cs hc l⟩
 | .ins C ns vs, _, h, l => by
  simp only [CV] at h ⊢
  obtain ⟨a, d, od, m, rfl, h1, h2, h3, h4, h5⟩ := h
  exact ⟨a, d, od, m, rfl, h1, h2, h3, h4, CVf.cut n m ns vs h5 l⟩
 | .un, _, h, _ => by simp [CV] at h
 | .none, _, h, _ | .bool _, _, h, _ | .int _, _, h, _ | .str _, _, h, _ | .bytes _, _, h, _ | .val _, _, h, _ => by simpa [CV] using h
theorem CVs.cut {E : Own} {F : Led} (n : Nat) : ∀ (vs : List AV) (cs : List Value), CVs E F vs cs → ltL n vs → CVs (E.take n) F vs cs
 | [], _, h, _ => by simpa [CVs] using h
 | v :: vs, _, h, l => by
  simp only [CVs] at h ⊢
  obtain ⟨c, r, rfl, h1, h2⟩ := h
  exact ⟨c, r, rfl, CV.cut n v c h1 l.1, CVs.cut n vs r h2 l.2⟩
theorem CVf.cut {E : Own} {F : Led} (n : Nat) (m : Str → Option Value) : ∀ (ns : List Str) (vs : List AV), CVf E F m ns vs → ltL n vs → CVf (E.take n) F m ns vs
 | _, [], h, _ => by simpa [CVf] using h
 | _, v :: vs, h, l => by
  simp only [CVf] at h ⊢
  obtain ⟨x, r, c, rfl, hm, h1, h2⟩ := h
  exact ⟨x, r, c, rfl, hm, CV.cut n v c h1 l.1, CVf.cut n m r vs h2 l.2⟩
end
theorem RepO.cut {E : Own} {F : Led} {h : Heap} (n : Nat) : ∀ {o : AO} {as : List Addr}, RepO E F h o as → o.lt n → RepO (E.take n) F h o as
 | .inst .., _, ⟨a, d, es, k, m, e, h1, h2, h3, hz, h4, h5⟩, l => ⟨a, d, es, k, m, e, h1, h2, h3, hz, h4, CVf.cut n _ _ _ h5 l⟩
 | .list _, _, ⟨a, k, cs, e, h1, h2⟩, l => ⟨a, k, cs, e, h1, CVs.cut n _ _ h2 l⟩
 | .sdict .., _, ⟨a, o, m, e, h1, h2, h3, h4⟩, l => ⟨a, o, m, e, h1, h2, h3, CVs.cut n _ _ h4 l⟩
 | .barr _, _, x, _ => x
 | .idict _, _, x, _ => x
 | .raw _, _, x, _ => x
 | .gone, _, x, _ => x
theorem HpOK.cut {fs : List Addr} {E : Own} {F : Led} {H1 X : List AO} {h : Heap} (x : HpOK fs E F (H1 ++ X) h) (l : ∀ (i : Nat) (o : AO), H1[i]? = some o → o.lt H1.length) : HpOK fs (E.take H1.length) F H1 h where
 len := by rw [List.length_take, x.len]; simp
 nd := by
  have := x.nd
  rw [← List.take_append_drop H1.length E, List.flatten_append, List.nodup_append] at this
  exact this.1
 offE a ha := x.offE a (by
  rw [← List.take_append_drop H1.length E, List.flatten_append]
  exact List.mem_append_left _ ha)
 offF p hp := ⟨fun i as e1 e2 => by
  have hi : i < H1.length := by
   have := (List.getElem?_eq_some_iff.mp e1).1
   simp at this; omega
  rw [List.getElem?_take_of_lt hi] at e1
  have := (x.offF p hp).1 i as e1 e2
  rwa [List.getElem?_append_left hi] at this, (x.offF p hp).2⟩
 froz := x.froz
 ltf := x.ltf
 rep i o as e1 e2 := by
  have hi := (List.getElem?_eq_some_iff.mp e1).1
  rw [List.getElem?_take_of_lt hi] at e2
  exact (x.rep i o as (by rw [List.getElem?_append_left hi]; exact e1) e2).cut _ (l i o e1)
inductive Fl where
 | next
 | ret (v : AV)
noncomputable def FlOK (E : Own) (F : Led) : Fl → Flow → Prop
 | .next, f => f = .next
 | .ret v, f => ∃ c, f = .ret c ∧ CV E F v c
structure Gl where
 P : CP
 prog : Program
 w : World
 K : Frag
 PE : Addr
section
variable (G : Gl) (c : FnC) (r : Rt) (E : Own) (F : Led)
inductive Post (Q : AV → St → Prop) (v : Value) (s' : Shared) : Prop
 | mk (E' : Own) (F' : Led) (st' : St) (av : AV) (g : Grow E F E' F') (a : Abs G.K c r E' F' st' s') (h : CV E' F' av v) (q : Q av st') : Post Q v s'
inductive PostB (Q : Bool → St → Prop) (b : Bool) (s' : Shared) : Prop
 | mk (E' : Own) (F' : Led) (st' : St) (g : Grow E F E' F') (a : Abs G.K c r E' F' st' s') (q : Q b st') : PostB Q b s'
inductive PostU (Q : St → Prop) (b : Unit) (s' : Shared) : Prop
 | mk (E' : Own) (F' : Led) (st' : St) (g : Grow E F E' F') (a : Abs G.K c r E' F' st' s') (q : Q st') : PostU Q b s'
inductive PostL (Q : List AV → St → Prop) (vs : List Value) (s' : Shared) : Prop
 | mk (E' : Own) (F' : Led) (st' : St) (avs : List AV) (g : Grow E F E' F') (a : Abs G.K c r E' F' st' s') (h : CVs E' F' avs vs) (q : Q avs st') : PostL Q vs s'
inductive PostF (Q : Fl → St → Prop) (f : Flow) (s' : Shared) : Prop
 | mk (E' : Own) (F' : Led) (st' : St) (fl : Fl) (g : Grow E F E' F') (a : Abs G.K c r E' F' st' s') (h : FlOK E' F' fl f) (q : Q fl st') : PostF Q f s'
inductive Err (R : List UInt8 → St → Prop) (e : Value) (s' : Shared) : Prop
 | mk (E' : Own) (F' : Led) (st' : St) (b : List UInt8) (a : Addr) (h : e = .ref a) (g : Grow E F E' F') (x : Abs G.K c r E' F' st' s') (k : ExcAt G.PE (Prot r E' F') a b s'.heap) (q : R b st') : Err R e s'
end
section
variable (G : Gl) (c : FnC) (bud : Nat)
noncomputable def Ev (e : Expr) (Q : AV → St → Prop) (R : List UInt8 → St → Prop) (st : St) : Prop :=
 ∀ r E F s, RtOk G.K r bud → Abs G.K c r E F st s → wpP G.P (model G.prog G.w) (r.A c) (eval e (c.env r.L)) (Post G c r E F Q) (Err G c r E F R) s
noncomputable def Et (e : Expr) (Q : Bool → St → Prop) (R : List UInt8 → St → Prop) (st : St) : Prop :=
 ∀ r E F s, RtOk G.K r bud → Abs G.K c r E F st s → wpP G.P (model G.prog G.w) (r.A c) (isTrue e (c.env r.L) (eval e (c.env r.L))) (PostB G c r E F Q) (Err G c r E F R) s
noncomputable def Ea (es : List Expr) (pos : Pos) (Q : List AV → St → Prop) (R : List UInt8 → St → Prop) (st : St) : Prop :=
 ∀ r E F s, RtOk G.K r bud → Abs G.K c r E F st s → wpP G.P (model G.prog G.w) (r.A c) (spliced (backTo pos (starEach es (c.env r.L)))) (PostL G c r E F Q) (Err G c r E F R) s
noncomputable def Es (x : Stmt) (Q : Fl → St → Prop) (R : List UInt8 → St → Prop) (st : St) : Prop :=
 ∀ r E F s, RtOk G.K r bud → Abs G.K c r E F st s → wpP G.P (model G.prog G.w) (r.A c) (exec x (c.env r.L)) (PostF G c r E F Q) (Err G c r E F R) s
noncomputable def Ex (xs : List Stmt) (Q : Fl → St → Prop) (R : List UInt8 → St → Prop) (st : St) : Prop :=
 ∀ r E F s, RtOk G.K r bud → Abs G.K c r E F st s → wpP G.P (model G.prog G.w) (r.A c) (execs xs (c.env r.L)) (PostF G c r E F Q) (Err G c r E F R) s
end
section
variable {G : Gl} {c : FnC} {r : Rt} {E E' : Own} {F F' : Led}
theorem Post.back {Q : AV → St → Prop} (g : Grow E F E' F') {v : Value} {s : Shared} (h : Post G c r E' F' Q v s) : Post G c r E F Q v s :=
 let ⟨E2, F2, st, av, g2, a, b, q⟩ := h; ⟨E2, F2, st, av, g.trans g2, a, b, q⟩
theorem PostB.back {Q : Bool → St → Prop} (g : Grow E F E' F') {v : Bool} {s : Shared} (h : PostB G c r E' F' Q v s) : PostB G c r E F Q v s :=
 let ⟨E2, F2, st, g2, a, q⟩ := h; ⟨E2, F2, st, g.trans g2, a, q⟩
theorem PostF.back {Q : Fl → St → Prop} (g : Grow E F E' F') {v : Flow} {s : Shared} (h : PostF G c r E' F' Q v s) : PostF G c r E F Q v s :=
 let ⟨E2, F2, st, av, g2, a, b, q⟩ := h; ⟨E2, F2, st, av, g.trans g2, a, b, q⟩
theorem Err.back {R : List UInt8 → St → Prop} (g : Grow E F E' F') {v : Value} {s : Shared} (h : Err G c r E' F' R v s) : Err G c r E F R v s :=
 let ⟨E2, F2, st, b, a, e, g2, x, y, q⟩ := h; ⟨E2, F2, st, b, a, e, g.trans g2, x, y, q⟩
end
end
section
section
variable (G : Gl) (c : FnC) (bud : Nat)
noncomputable def Bin (op : Operator) (a b : AV) (Q : AV → St → Prop) (R : List UInt8 → St → Prop) (st : St) : Prop :=
 ∀ r E F s ca cb, RtOk G.K r bud → Abs G.K c r E F st s → CV E F a ca → CV E F b cb → wpP G.P (model G.prog G.w) (r.A c) (binaryOp op ca cb) (Post G c r E F Q) (Err G c r E F R) s
noncomputable def Cmp (op : CmpOp) (a b : AV) (Q : AV → St → Prop) (R : List UInt8 → St → Prop) (st : St) : Prop :=
 ∀ r E F s ca cb, RtOk G.K r bud → Abs G.K c r E F st s → CV E F a ca → CV E F b cb → wpP G.P (model G.prog G.w) (r.A c) (compareOp op ca cb) (Post G c r E F Q) (Err G c r E F R) s
noncomputable def Una (op : UnaryOp) (a : AV) (Q : AV → St → Prop) (R : List UInt8 → St → Prop) (st : St) : Prop :=
 ∀ r E F s ca, RtOk G.K r bud → Abs G.K c r E F st s → CV E F a ca → wpP G.P (model G.prog G.w) (r.A c) (unaryOp op ca) (Post G c r E F Q) (Err G c r E F R) s
noncomputable def Tru (a : AV) (Q : Bool → St → Prop) (R : List UInt8 → St → Prop) (st : St) : Prop :=
 ∀ r E F s ca, RtOk G.K r bud → Abs G.K c r E F st s → CV E F a ca → wpP G.P (model G.prog G.w) (r.A c) (truthy ca) (PostB G c r E F Q) (Err G c r E F R) s
noncomputable def Cal (f : AV) (as : List AV) (Q : AV → St → Prop) (R : List UInt8 → St → Prop) (st : St) : Prop :=
 ∀ r E F s cf cs, RtOk G.K r bud → Abs G.K c r E F st s → CV E F f cf → CVs E F as cs → wpP G.P (model G.prog G.w) (r.A c) (call cf cs) (Post G c r E F Q) (Err G c r E F R) s
noncomputable def Get (o : AV) (x : Str) (Q : AV → St → Prop) (R : List UInt8 → St → Prop) (st : St) : Prop :=
 ∀ r E F s co ex, RtOk G.K r bud → Abs G.K c r E F st s → CV E F o co → wpP G.P (model G.prog G.w) (r.A c) (getAttr co x ex) (Post G c r E F Q) (Err G c r E F R) s
end
section
variable {G : Gl} {c : FnC} {bud : Nat} {Q : AV → St → Prop} {R : List UInt8 → St → Prop} {st : St} {r : Rt} {E E' : Own} {F F' : Led} {s : Shared}
theorem Ev.up {e : Expr} (h : Ev G c bud e Q R st) (ok : RtOk G.K r bud) (g : Grow E F E' F') (a : Abs G.K c r E' F' st s) :
  wpP G.P (model G.prog G.w) (r.A c) (eval e (c.env r.L)) (Post G c r E F Q) (Err G c r E F R) s :=
 wpP_mono (h r E' F' s ok a) (fun _ _ => Post.back g) fun _ _ => Err.back g
theorem Ex.up {xs : List Stmt} {Q : Fl → St → Prop} (h : Ex G c bud xs Q R st) (ok : RtOk G.K r bud) (g : Grow E F E' F') (a : Abs G.K c r E' F' st s) :
  wpP G.P (model G.prog G.w) (r.A c) (execs xs (c.env r.L)) (PostF G c r E F Q) (Err G c r E F R) s :=
 wpP_mono (h r E' F' s ok a) (fun _ _ => PostF.back g) fun _ _ => Err.back g
theorem Bin.up {op : Operator} {a b : AV} {ca cb : Value} (h : Bin G c bud op a b Q R st) (ok : RtOk G.K r bud) (g : Grow E F E' F') (x : Abs G.K c r E' F' st s) (ha : CV E' F' a ca) (hb : CV E' F' b cb) :
  wpP G.P (model G.prog G.w) (r.A c) (binaryOp op ca cb) (Post G c r E F Q) (Err G c r E F R) s :=
 wpP_mono (h r E' F' s ca cb ok x ha hb) (fun _ _ => Post.back g) fun _ _ => Err.back g
theorem Cmp.up {op : CmpOp} {a b : AV} {ca cb : Value} (h : Cmp G c bud op a b Q R st) (ok : RtOk G.K r bud) (g : Grow E F E' F') (x : Abs G.K c r E' F' st s) (ha : CV E' F' a ca) (hb : CV E' F' b cb) :
  wpP G.P (model G.prog G.w) (r.A c) (compareOp op ca cb) (Post G c r E F Q) (Err G c r E F R) s :=
 wpP_mono (h r E' F' s ca cb ok x ha hb) (fun _ _ => Post.back g) fun _ _ => Err.back g
theorem Una.up {op : UnaryOp} {a : AV} {ca : Value} (h : Una G c bud op a Q R st) (ok : RtOk G.K r bud) (g : Grow E F E' F') (x : Abs G.K c r E' F' st s) (ha : CV E' F' a ca) :
  wpP G.P (model G.prog G.w) (r.A c) (unaryOp op ca) (Post G c r E F Q) (Err G c r E F R) s :=
 wpP_mono (h r E' F' s ca ok x ha) (fun _ _ => Post.back g) fun _ _ => Err.back g
theorem Tru.up {a : AV} {ca : Value} {Q : Bool → St → Prop} (h : Tru G c bud a Q R st) (ok : RtOk G.K r bud) (g : Grow E F E' F') (x : Abs G.K c r E' F' st s) (ha : CV E' F' a ca) :
  wpP G.P (model G.prog G.w) (r.A c) (truthy ca) (PostB G c r E F Q) (Err G c r E F R) s :=
 wpP_mono (h r E' F' s ca ok x ha) (fun _ _ => PostB.back g) fun _ _ => Err.back g
theorem Cal.up {f : AV} {as : List AV} {cf : Value} {cs : List Value} (h : Cal G c bud f as Q R st) (ok : RtOk G.K r bud) (g : Grow E F E' F') (x : Abs G.K c r E' F' st s) (ha : CV E' F' f cf) (hb : CVs E' F' as cs) :
  wpP G.P (model G.prog G.w) (r.A c) (call cf cs) (Post G c r E F Q) (Err G c r E F R) s :=
 wpP_mono (h r E' F' s cf cs ok x ha hb) (fun _ _ => Post.back g) fun _ _ => Err.back g
theorem Get.up {o : AV} {x : Str} {co : Value} {ex : Bool} (h : Get G c bud o x Q R st) (ok : RtOk G.K r bud) (g : Grow E F E' F') (a : Abs G.K c r E' F' st s) (ho : CV E' F' o co) :
  wpP G.P (model G.prog G.w) (r.A c) (getAttr co x ex) (Post G c r E F Q) (Err G c r E F R) s :=
 wpP_mono (h r E' F' s co ex ok a ho) (fun _ _ => Post.back g) fun _ _ => Err.back g
theorem post_mk {v : Value} {av : AV} {tk : Nat} (x : Abs G.K c r E F st s) (hv : CV E F av v) (q : Q av st) : Post G c r E F Q v { s with toks := tk } :=
 ⟨E, F, st, av, Grow.refl _ _, x.toks, hv, q⟩
theorem post_mk0 {v : Value} {av : AV} (x : Abs G.K c r E F st s) (hv : CV E F av v) (q : Q av st) : Post G c r E F Q v s :=
 ⟨E, F, st, av, Grow.refl _ _, x, hv, q⟩
theorem Ev_none {k : Nat} {pos : Pos} (q : Q .none st) : Ev G c bud (.Constant .none k pos) Q R st := fun _ _ _ _ _ x => .of (wpAny_Constant_none (post_mk0 x (by simp [CV]) q))
theorem Ev_bool {b : Bool} {k : Nat} {pos : Pos} (q : Q (.bool b) st) : Ev G c bud (.Constant (.bool b) k pos) Q R st := fun _ _ _ _ _ x => .of (wpAny_Constant_bool (post_mk0 x (by simp [CV]) q))
theorem Ev_int {i : Int} {k : Nat} {pos : Pos} (q : Q (.int i) st) : Ev G c bud (.Constant (.int i) k pos) Q R st := fun _ _ _ _ _ x => .of (wpAny_Constant_int (post_mk x (by simp [CV]) q))
theorem Ev_str {i : Str} {k : Nat} {pos : Pos} (q : Q (.str i) st) : Ev G c bud (.Constant (.str i) k pos) Q R st := fun _ _ _ _ _ x => .of (wpAny_Constant_str (post_mk x (by simp [CV]) q))
theorem Ev_bytes {i : List UInt8} {k : Nat} {pos : Pos} (q : Q (.bytes i) st) : Ev G c bud (.Constant (.bytes i) k pos) Q R st := fun _ _ _ _ _ x => .of (Constant_bytes (post_mk x (by simp [CV]) q))
theorem Ev_loc (i : Nat) {x : Str} {av : AV} {pos : Pos} (ok : c.Ok) (hx : Nth c.ns i x) (hv : Nth st.vs i av) (hu : av ≠ .un) (q : Q av st) : Ev G c bud (.Name x pos) Q R st := fun r E F s _ a => by
 obtain ⟨m, hn, hl⟩ := a.ns
 have hm : x ∈ c.ns := List.mem_of_getElem? hx.get
 rcases hl.2 i x av hx hv with e | ⟨v, hv', hc⟩
 ·exact absurd e hu
 ·exact .of (wpAny_Name (wpAny_loadName_local ok.kind (ok.loc x hm).1 hn hv' (post_mk0 a hc q)) (ok.loc x hm).2)
theorem Ev_glob {x : Str} {v : Value} {av : AV} {pos : Pos} (ok : c.Ok) (hx : c.scope.names.lookup x = some .globalImplicit) (hd : (x == ("__debug__" : Str)) = false) (hv : nsIn G.K mainGlobals x = some (some v)) (hc : ∀ E F, CV E F av v) (q : Q av st) :
  Ev G c bud (.Name x pos) Q R st := fun r E F s rk a => by
 have S := a.sta rk
 obtain ⟨mg, mb, h1, h2, h3⟩ := S.tops
 exact .of (Name_function_global (env := c.env r.L) ok.kind hx (loadGlobal_global (env := c.env r.L) h1 (mg_of S.k h1 hv) (post_mk0 a (hc E F) q)) hd)
theorem Ev_built {x : Str} {v : Value} {pos : Pos} (ok : c.Ok) (hx : c.scope.names.lookup x = some .globalImplicit) (hd : (x == ("__debug__" : Str)) = false) (hv : nsIn G.K mainGlobals x = some none) (hb : bootBuiltins x = some v) (hn : x ≠ "__name__") (q : Q (.val v) st) :
  Ev G c bud (.Name x pos) Q R st := fun r E F s rk a => by
 have S := a.sta rk
 obtain ⟨mg, mb, h1, h2, h3⟩ := S.tops
 exact .of (Name_function_global (env := c.env r.L) ok.kind hx (loadGlobal_builtin (env := c.env r.L) h1 (mg_none_of S.k h1 hv) h2 ((h3 x hn).trans hb) (post_mk0 a (by simp [CV]) q)) hd)
theorem Ev_bin {l e : Expr} {op : Operator} {pos : Pos} (h : Ev G c bud l (fun a st1 => Ev G c bud e (fun b st2 => Bin G c bud op a b Q R st2) R st1) R st) : Ev G c bud (.BinOp l op e pos) Q R st := fun r E F s rk a =>
 wpP_BinOp (wpP_mono (h r E F s rk a) (fun ca s1 ⟨E1, F1, st1, av, g1, a1, c1, q1⟩ => wpP_mono (q1 r E1 F1 s1 rk a1) (fun cb s2 ⟨E2, F2, st2, bv, g2, a2, c2, q2⟩ =>
  q2.up rk (g1.trans g2) a2 (CV.grow g2 _ _ c1) c2) fun _ _ => Err.back g1) fun _ _ z => z)
theorem Ev_cmp {l e : Expr} {op : CmpOp} {pos : Pos} (h : Ev G c bud l (fun a st1 => Ev G c bud e (fun b st2 => Cmp G c bud op a b Q R st2) R st1) R st) (hm : behindInMarks op e = false := by with_unfolding_all rfl) :
  Ev G c bud (.Compare l [op] [e] pos) Q R st := fun r E F s rk a =>
 wpP_Compare1 (hm := hm) (wpP_mono (h r E F s rk a) (fun ca s1 ⟨E1, F1, st1, av, g1, a1, c1, q1⟩ => wpP_mono (q1 r E1 F1 s1 rk a1) (fun cb s2 ⟨E2, F2, st2, bv, g2, a2, c2, q2⟩ =>
  q2.up rk (g1.trans g2) a2 (CV.grow g2 _ _ c1) c2) fun _ _ => Err.back g1) fun _ _ z => z)
theorem Ev_una {x : Expr} {op : UnaryOp} {pos : Pos} (h : Ev G c bud x (fun a st1 => Una G c bud op a Q R st1) R st) : Ev G c bud (.UnaryOp op x pos) Q R st := fun r E F s rk a =>
 wpP_UnaryOp (wpP_mono (h r E F s rk a) (fun ca s1 ⟨E1, F1, st1, av, g1, a1, c1, q1⟩ => q1.up rk g1 a1 c1) fun _ _ z => z)
theorem Ev_ife {t x y : Expr} {pos : Pos} (h : Et G c bud t (fun b st1 => (b = true → Ev G c bud x Q R st1) ∧ (b = false → Ev G c bud y Q R st1)) R st) : Ev G c bud (.IfExp t x y pos) Q R st := fun r E F s rk a =>
 wpP_IfExp (wpP_mono (h r E F s rk a) (fun b s1 ⟨E1, F1, st1, g1, a1, q1⟩ => by
  cases b with
  | true => exact (q1.1 rfl).up rk g1 a1
  | false => exact (q1.2 rfl).up rk g1 a1) fun _ _ z => z)
theorem Ev_or2 {x y : Expr} {pos : Pos} (h : Ev G c bud x (fun a st1 => Tru G c bud a (fun b st2 => (b = true → Q a st2) ∧ (b = false → Ev G c bud y Q R st2)) R st1) R st) : Ev G c bud (.BoolOp .Or [x, y] pos) Q R st := fun r E F s rk a =>
 wpP_Or2 (wpP_mono (h r E F s rk a) (fun ca s1 ⟨E1, F1, st1, av, g1, a1, c1, q1⟩ => wpP_mono (q1 r E1 F1 s1 ca rk a1 c1) (fun b s2 ⟨E2, F2, st2, g2, a2, q2⟩ => by
  cases b with
  | true => exact ⟨E2, F2, st2, av, g1.trans g2, a2, CV.grow g2 _ _ c1, q2.1 rfl⟩
  | false => exact (q2.2 rfl).up rk (g1.trans g2) a2) fun _ _ => Err.back g1) fun _ _ z => z)
theorem Ev_and2 {x y : Expr} {pos : Pos} (h : Ev G c bud x (fun a st1 => Tru G c bud a (fun b st2 => (b = true → Ev G c bud y Q R st2) ∧ (b = false → Q a st2)) R st1) R st) : Ev G c bud (.BoolOp .And [x, y] pos) Q R st := fun r E F s rk a =>
 wpP_And2 (wpP_mono (h r E F s rk a) (fun ca s1 ⟨E1, F1, st1, av, g1, a1, c1, q1⟩ => wpP_mono (q1 r E1 F1 s1 ca rk a1 c1) (fun b s2 ⟨E2, F2, st2, g2, a2, q2⟩ => by
  cases b with
  | true => exact (q2.1 rfl).up rk (g1.trans g2) a2
  | false => exact ⟨E2, F2, st2, av, g1.trans g2, a2, CV.grow g2 _ _ c1, q2.2 rfl⟩) fun _ _ => Err.back g1) fun _ _ z => z)
section
variable {Q : Bool → St → Prop}
theorem Et_cmp {l e : Expr} {op : CmpOp} {pos : Pos} (h : Ev G c bud l (fun a st1 => Ev G c bud e (fun b st2 => Cmp G c bud op a b (fun v st3 => ∃ b, v = .bool b ∧ Q b st3) R st2) R st1) R st) (hm : behindInMarks op e = false := by with_unfolding_all rfl) :
  Et G c bud (.Compare l [op] [e] pos) Q R st := fun r E F s rk a =>
 wpP_isTrue_Compare1 (hm := hm) (wpP_mono (h r E F s rk a) (fun ca s1 ⟨E1, F1, st1, av, g1, a1, c1, q1⟩ => wpP_mono (q1 r E1 F1 s1 rk a1) (fun cb s2 ⟨E2, F2, st2, bv, g2, a2, c2, q2⟩ =>
  wpP_mono (q2 r E2 F2 s2 ca cb rk a2 (CV.grow g2 _ _ c1) c2) (fun v s3 ⟨E3, F3, st3, cv, g3, a3, c3, b, e3, q3⟩ => by
   subst e3
   simp only [CV] at c3
   subst c3
   exact .of (wpAny_truthy_bool ⟨E3, F3, st3, (g1.trans g2).trans g3, a3, q3⟩)) fun _ _ => Err.back (g1.trans g2)) fun _ _ => Err.back g1) fun _ _ z => z)
theorem Et_not {x : Expr} {pos : Pos} (h : Et G c bud x (fun b st1 => Q (!b) st1) R st) : Et G c bud (.UnaryOp .Not x pos) Q R st := fun r E F s rk a =>
 wpP_isTrue_Not (wpP_mono (h r E F s rk a) (fun b s1 ⟨E1, F1, st1, g1, a1, q1⟩ => ⟨E1, F1, st1, g1, a1, q1⟩) fun _ _ z => z)
theorem Et_val {x : Expr} (h : Ev G c bud x (fun a st1 => Tru G c bud a Q R st1) R st) (he : ∀ env whole, isTrue x env whole = (do let v ← whole; standAt x.pos; holding [v] (truthy v)) := by intro _ _; rfl) : Et G c bud x Q R st := fun r E F s rk a =>
 wpP_isTrue_value (he := he _ _) (wpP_mono (h r E F s rk a) (fun ca s1 ⟨E1, F1, st1, av, g1, a1, c1, q1⟩ => q1.up rk g1 a1 c1) fun _ _ z => z)
variable (G c bud) in
noncomputable def Eall (op : BoolOp) (xs : List Expr) (Q : Bool → St → Prop) (R : List UInt8 → St → Prop) (st : St) : Prop :=
 ∀ r E F s, RtOk G.K r bud → Abs G.K c r E F st s → wpP G.P (model G.prog G.w) (r.A c) (allTrue op xs (c.env r.L)) (PostB G c r E F Q) (Err G c r E F R) s
theorem Et_bool {op : BoolOp} {xs : List Expr} {pos : Pos} (h : Eall G c bud op xs Q R st) : Et G c bud (.BoolOp op xs pos) Q R st := fun r E F s rk a => wpP_isTrue_BoolOp (h r E F s rk a)
theorem Eall_and0 (q : Q true st) : Eall G c bud .And [] Q R st := fun _ E F _ _ a => .of (wpAny_allTrue_And_nil ⟨E, F, st, Grow.refl _ _, a, q⟩)
theorem Eall_or0 (q : Q false st) : Eall G c bud .Or [] Q R st := fun _ E F _ _ a => .of (wpAny_allTrue_Or_nil ⟨E, F, st, Grow.refl _ _, a, q⟩)
theorem Eall.up {op : BoolOp} {xs : List Expr} (h : Eall G c bud op xs Q R st) (ok : RtOk G.K r bud) (g : Grow E F E' F') (a : Abs G.K c r E' F' st s) :
  wpP G.P (model G.prog G.w) (r.A c) (allTrue op xs (c.env r.L)) (PostB G c r E F Q) (Err G c r E F R) s := wpP_mono (h r E' F' s ok a) (fun _ _ => PostB.back g) fun _ _ => Err.back g
theorem Eall_and {x : Expr} {xs : List Expr} (h : Et G c bud x (fun b st1 => (b = true → Eall G c bud .And xs Q R st1) ∧ (b = false → Q false st1)) R st) : Eall G c bud .And (x :: xs) Q R st := fun r E F s rk a =>
 wpP_allTrue_And_cons (wpP_mono (h r E F s rk a) (fun b s1 ⟨E1, F1, st1, g1, a1, q1⟩ => by
  cases b with
  | true => exact (q1.1 rfl).up rk g1 a1
  | false => exact ⟨E1, F1, st1, g1, a1, q1.2 rfl⟩) fun _ _ z => z)
theorem Eall_or {x : Expr} {xs : List Expr} (h : Et G c bud x (fun b st1 => (b = true → Q true st1) ∧ (b = false → Eall G c bud .Or xs Q R st1)) R st) : Eall G c bud .Or (x :: xs) Q R st := fun r E F s rk a =>
 wpP_allTrue_Or_cons (wpP_mono (h r E F s rk a) (fun b s1 ⟨E1, F1, st1, g1, a1, q1⟩ => by
  cases b with
  | true => exact ⟨E1, F1, st1, g1, a1, q1.1 rfl⟩
  | false => exact (q1.2 rfl).up rk g1 a1) fun _ _ z => z)
end
section
variable {Q : List AV → St → Prop}
theorem Ea_nil {pos : Pos} (q : Q [] st) : Ea G c bud [] pos Q R st := fun _ E F _ _ a => wpP_items_nil ⟨E, F, st, [], Grow.refl _ _, a, CVs.nil, q⟩
theorem Ea_cons {e : Expr} {es : List Expr} {pos : Pos} (h : Ev G c bud e (fun v st1 => Ea G c bud es pos (fun vs st2 => Q (v :: vs) st2) R st1) R st) (he : ∀ env, starEach (e :: es) env = (false, eval e env) :: starEach es env := by intro _; rfl) :
  Ea G c bud (e :: es) pos Q R st := fun r E F s rk a =>
 wpP_items_cons (he := he _) (wpP_mono (h r E F s rk a) (fun ca s1 ⟨E1, F1, st1, av, g1, a1, c1, q1⟩ => wpP_mono (q1 r E1 F1 s1 rk a1) (fun cs s2 ⟨E2, F2, st2, avs, g2, a2, c2, q2⟩ =>
  ⟨E2, F2, st2, av :: avs, g1.trans g2, a2, CVs.cons (CV.grow g2 _ _ c1) c2, q2⟩) fun _ _ => Err.back g1) fun _ _ z => z)
end
section
variable {Q : Fl → St → Prop}
theorem Ex_nil (q : Q .next st) : Ex G c bud [] Q R st := fun _ E F _ _ a => .of (wpAny_execs_nil ⟨E, F, st, .next, Grow.refl _ _, a, rfl, q⟩)
theorem Ex_cons {x : Stmt} {xs : List Stmt} (h : Es G c bud x (fun f st1 => match f with | .next => Ex G c bud xs Q R st1 | .ret v => Q (.ret v) st1) R st) : Ex G c bud (x :: xs) Q R st := fun r E F s rk a =>
 wpP_execs_cons (wpP_mono (h r E F s rk a) (fun f s1 ⟨E1, F1, st1, fl, g1, a1, c1, q1⟩ => by
  cases fl with
  | next => cases c1; exact q1.up rk g1 a1
  | ret v =>
   obtain ⟨cv, rfl, hc⟩ := c1
   exact ⟨E1, F1, st1, .ret v, g1, a1, ⟨cv, rfl, hc⟩, q1⟩) fun _ _ z => z)
theorem Es_ret {e : Expr} {pos : Pos} (h : Ev G c bud e (fun v st1 => Q (.ret v) st1) R st) : Es G c bud (.Return (some e) pos) Q R st := fun r E F s rk a =>
 wpP_Return_some (wpP_mono (h r E F s rk a) (fun ca s1 ⟨E1, F1, st1, av, g1, a1, c1, q1⟩ => ⟨E1, F1, st1, .ret av, g1, a1, ⟨ca, rfl, c1⟩, q1⟩) fun _ _ z => z)
theorem Es_if {t : Expr} {xs ys : List Stmt} {pos : Pos} (h : Et G c bud t (fun b st1 => (b = true → Ex G c bud xs Q R st1) ∧ (b = false → Ex G c bud ys Q R st1)) R st) : Es G c bud (.If t xs ys pos) Q R st := fun r E F s rk a =>
 wpP_If (wpP_mono (h r E F s rk a) (fun b s1 ⟨E1, F1, st1, g1, a1, q1⟩ => by
  cases b with
  | true => exact (q1.1 rfl).up rk g1 a1
  | false => exact (q1.2 rfl).up rk g1 a1) fun _ _ z => z)
theorem store_l {x : Str} {i : Nat} {u : AV} {cv : Value} {QU : St → Prop} (ok : c.Ok) (hx : Nth c.ns i x) (a : Abs G.K c r E F st s) (hu : CV E F u cv) (q : QU { st with vs := st.vs.set i u }) :
  wpAny (model G.prog G.w) (r.A c) (storeName (c.env r.L) x cv) (PostU G c r E F QU) (Err G c r E F R) s := by
 obtain ⟨m, hn, hl⟩ := a.ns
 have hm : x ∈ c.ns := List.mem_of_getElem? hx.get
 refine wpAny_storeName_local (ok.loc x hm).1 hn (fun h' hn' hs => ⟨E, F, _, Grow.refl _ _, a.store ok.nd hl hs hn' hx hu, q⟩) ?_
 show (c.scope.kind == .class || (c.scope.kind == .module && r.L != mainGlobals)) = false
 rw [ok.kind]; rfl
theorem Es_set {x : Str} {e : Expr} {p pos : Pos} (i : Nat) (ok : c.Ok) (hx : Nth c.ns i x) (h : Ev G c bud e (fun v st1 => Q .next { st1 with vs := st1.vs.set i v }) R st) (hs : ∀ env, swapsWith e (some (.Name x p)) pos.line env = pure false := by intro _; rfl) :
  Es G c bud (.Assign [.Name x p] e pos) Q R st := fun r E F s rk a =>
 wpP_Assign_Name (hs := hs _) (wpP_mono (h r E F s rk a) (fun ca s1 ⟨E1, F1, st1, av, g1, a1, c1, q1⟩ => wpP_mono (.of (store_l (R := R) (QU := fun st2 => Q .next st2) ok hx a1 c1 q1)) (fun _ s2 ⟨E2, F2, st2, g2, a2, q2⟩ =>
  ⟨E2, F2, st2, .next, g1.trans g2, a2, rfl, q2⟩) fun _ _ => Err.back g1) fun _ _ z => z)
theorem Es_expr {e : Expr} {pos : Pos} (ok : c.Ok) (h : Ev G c bud e (fun v st1 => v = .none ∧ Q .next st1) R st) (hs : ∀ env, swapsWith e none pos.line env = pure false := by intro _; rfl) : Es G c bud (.Expr e pos) Q R st := fun r E F s rk a =>
 wpP_Expr (hs := hs _) (hi := by show (c.scope.kind == .module && _) = false; rw [ok.kind]; rfl) (wpP_mono (h r E F s rk a) (fun ca s1 ⟨E1, F1, st1, av, g1, a1, c1, q0, q1⟩ => by
  subst q0
  simp only [CV] at c1
  subst c1
  exact ⟨E1, F1, st1, .next, g1, a1, rfl, q1⟩) fun _ _ z => z)
end
end
end
section
noncomputable abbrev Sem' := Nat → List AV → List AO → (QT) → (RT) → Prop
structure After (outer : List Env) (E : Own) (s : Shared) (E' : Own) (F' : Led) (H' : List AO) (s' : Shared) : Prop where
 hp : HpOK (frs outer) E' F' H' s'.heap
 keep : ∀ b o, s.heap.get? b = some o → b ∉ E.flatten → b ∉ frs outer → s'.heap.get? b = some o
 frm : ∀ a ∈ frs outer, ∀ o, s.heap.get? a = some o → ∃ sl, s'.heap.get? a = some { o with slots := sl }
 fresh : ∀ a ∈ E'.flatten, a ∈ E.flatten ∨ s.heap.get? a = none
 sz : s.heap.objs.size ≤ s'.heap.objs.size
 gens : s'.gens = s.gens
 drawn : s'.drawn = s.drawn
 os : s'.os = s.os
noncomputable def PO (outer : List Env) (s : Shared) (E' : Own) (F' : Led) (a : Addr) : Prop := a ∈ frs outer ∨ a ∈ E'.flatten ∨ (∃ p ∈ F', p.1 = a) ∨ (s.heap.get? a).isSome = true
inductive RetV (outer : List Env) (E : Own) (F : Led) (s : Shared) (Q : QT) (v : Value) (s' : Shared) : Prop
 | mk (E' : Own) (F' : Led) (H' : List AO) (av : AV) (g : Grow E F E' F') (a : After outer E s E' F' H' s') (h : CV E' F' av v) (q : Q av H') : RetV outer E F s Q v s'
inductive RetE (PE : Addr) (outer : List Env) (E : Own) (F : Led) (s : Shared) (R : RT) (e : Value) (s' : Shared) : Prop
 | mk (E' : Own) (F' : Led) (H' : List AO) (b : List UInt8) (a : Addr) (h : e = .ref a) (g : Grow E F E' F') (x : After outer E s E' F' H' s') (k : ExcTb PE (PO outer s E' F') a b s'.heap) (q : R b H') : RetE PE outer E F s R e s'
noncomputable def RetOK (PE : Addr) (outer : List Env) (E : Own) (F : Led) (s : Shared) (Q : QT) (R : RT) : Result → Shared → Prop
 | .ok (.ret v), s' => RetV outer E F s Q v s'
 | .ok _, _ => False
 | .error e, s' => RetE PE outer E F s R e s'
noncomputable def OK (G : Gl) (fa : Addr) (sem : Sem') : Prop :=
 ∀ (A : Around) (outer : List Env) (E : Own) (F : Led) (H : List AO) (args : List AV) (vs : List Value) (s : Shared) (bud : Nat) (Q : QT) (R : RT),
  A.frames = some outer → A.handled = none → A.depth + bud ≤ 900 → A.units + 8 * bud ≤ 9000 →
  HpOK (frs outer) E F H s.heap → Sta G.K (hideAll s.heap (E.flatten ++ frs outer)) → s.heap.FunFrames {} outer → CVs E F args vs → sem bud args H Q R →
  codeP G.P (model G.prog G.w) A (.call (.ref fa) ⟨vs, []⟩) (RetOK G.PE outer E F s Q R) s
section
variable {G : Gl} {c : FnC} {bud : Nat} {Q : AV → St → Prop} {R : List UInt8 → St → Prop} {st : St} {r : Rt} {E E' : Own} {F F' : Led} {s s' : Shared}
theorem frs_env (c : FnC) (r : Rt) : frs (c.env r.L :: r.outer) = r.fs := rfl
theorem Abs.toSta (x : Abs G.K c r E F st s) (rk : RtOk G.K r bud) : Sta G.K (hideAll s.heap (E.flatten ++ r.fs)) :=
 rk.sta.keeps fun b o e => hideAll_get _ (x.keep b o e) fun q => by
  rcases List.mem_append.mp q with q | q
  ·rw [Rt.g_own (x.fresh b q)] at e; cases e
  ·rcases List.mem_cons.mp q with q | q
   ·rw [q, r.g_L] at e; cases e
   ·rw [Rt.g_frs q] at e; cases e
theorem Abs.toFF (x : Abs G.K c r E F st s) (rk : RtOk G.K r bud) (ok : c.Ok) : s.heap.FunFrames {} (c.env r.L :: r.outer) := by
 obtain ⟨m, hn, _⟩ := x.ns
 obtain ⟨o, es, ep, h1, h2, _⟩ := hn
 refine ⟨by show c.scope.kind ≠ .module; rw [ok.kind]; decide, ⟨r.L, o, rfl, ?_, h1, fun vs q => by rw [h2] at q; cases q⟩, x.ff rk⟩
 cases q : Heap.get? {} r.L with
 | none => rfl
 | some o => exact absurd (Heap.lt_size q) (Nat.not_lt_zero _)
theorem Abs.after (x : Abs G.K c r E F st s) {H' : List AO} (g : Grow E F E' F') (y : After (c.env r.L :: r.outer) E s E' F' H' s') : Abs G.K c r E' F' { st with H := H' } s' where
 ns := by
  obtain ⟨m, hn, hl⟩ := x.ns
  obtain ⟨o, es, ep, h1, h2, h3⟩ := hn
  obtain ⟨sl, q⟩ := y.frm r.L (by rw [frs_env]; simp [Rt.fs]) o h1
  exact ⟨m, ⟨_, es, ep, q, h2, h3⟩, hl.grow g⟩
 hp := y.hp
 keep b o e := y.keep b o (x.keep b o e) (fun q => by rw [Rt.g_own (x.fresh b q)] at e; cases e) fun q => by
  rw [frs_env] at q
  rcases List.mem_cons.mp q with q | q
  ·rw [q, r.g_L] at e; cases e
  ·rw [Rt.g_frs q] at e; cases e
 frm a ha o e := by
  obtain ⟨sl, q⟩ := x.frm a ha o e
  obtain ⟨sl', z⟩ := y.frm a (by rw [frs_env]; simp [Rt.fs, ha]) _ q
  exact ⟨sl', z⟩
 fresh a ha := by
  rcases y.fresh a ha with q | q
  ·exact x.fresh a q
  ·by_cases h1 : a ∈ r.own₀
   ·exact .inl h1
   ·refine .inr ?_
    cases z : r.s₀.heap.get? a with
    | none => rfl
    | some o =>
     by_cases h2 : a ∈ frs r.outer
     ·obtain ⟨sl, w⟩ := x.frm a h2 o z
      rw [q] at w; cases w
     ·have : r.g.get? a = some o := hideAll_get _ z fun y => (List.mem_append.mp y).elim h1 h2
      have := x.keep _ _ this
      rw [q] at this; cases this
 sz := Nat.le_trans x.sz y.sz
 gens := y.gens.trans x.gens
 drawn := y.drawn.trans x.drawn
 os := y.os.trans x.os
theorem Cal_fn {fa : Addr} {sem : Sem'} {b : Nat} {as : List AV} (ok : c.Ok) (h : OK G fa sem) (hs : sem b as st.H (fun v H' => Q v { st with H := H' }) (fun t H' => R t { st with H := H' })) : Cal G c (b + 1) (.val (.ref fa)) as Q R st := by
 intro r E F s cf cs rk x hf hc
 simp only [CV] at hf
 subst hf
 refine wpP_call (codeP_mono (h (r.A c) (c.env r.L :: r.outer) E F st.H as cs s b _ _ (Around.frames_deeper rk.fr) rk.hd ?_ ?_ x.hp (x.toSta rk) (x.toFF rk ok) hc hs) fun res s' hr => ?_)
 ·have := rk.dep
  show r.A₀.depth + 1 + b ≤ 900
  omega
 ·have := rk.un
  show r.A₀.units + 3 + 8 * b ≤ 9000
  omega
 ·rcases res with e | (v | _ | _ | _)
  ·obtain ⟨E', F', H', t, a, rfl, g, af, ex, q⟩ := hr
   refine ⟨E', F', _, t, a, rfl, g, x.after g af, ?_, q⟩
   refine ex.at.sub fun y hy => ?_
   rcases hy with hy | hy | hy | hy
   ·exact .inl hy
   ·exact .inr (.inl hy)
   ·exact .inr (.inr (.inl hy))
   ·obtain ⟨o, e⟩ := Option.isSome_iff_exists.mp hy
    exact .inr (.inr (.inr (by rw [x.keep _ _ e]; rfl)))
  ·exact hr.elim
  ·exact hr.elim
  ·exact hr.elim
  ·obtain ⟨E', F', H', av, g, af, hv, q⟩ := hr
   exact ⟨E', F', _, av, g, x.after g af, hv, q⟩
end
inductive Fin (H : List AO) (Q : QT) (av : AV) (H' : List AO) : Prop
 | mk (H1 X : List AO) (h1 : H' = H1 ++ X) (h2 : H.length ≤ H1.length) (h3 : av.lt H1.length) (h4 : ∀ (i : Nat) (o : AO), H1[i]? = some o → H[i]? = some o ∨ o.lt H1.length) (q : Q av H1) : Fin H Q av H'
theorem Fin.same {H : List AO} {Q : QT} {av : AV} {X : List AO} (l : av.lt H.length) (q : Q av H) : Fin H Q av (H ++ X) := ⟨H, X, rfl, Nat.le_refl _, l, fun _ _ e => .inl e, q⟩
structure FnAt (K : Frag) (c : FnC) (fd : FuncData) (body : List Stmt) : Prop where
 look : ∃ oc od osl, K.lookup c.fa = some ⟨oc, od, .func fd, osl⟩
 body : fd.body = .stmts body
 env : ∀ L, callEnv fd L c.fa = c.env L
 scope : fd.scope = c.scope
 code : codeIn K fd.code fd.qualname = true
theorem locOK_binds {E : Own} {F : Led} : ∀ {ps : List Str} {vs : List AV} {cs : List Value} (rest : List Str), ps.length = vs.length → ps.Nodup → CVs E F vs cs →
  LocOK E F (fun x => (ps.zip cs).reverse.lookup x) (ps ++ rest) (vs ++ List.replicate rest.length .un) := by
 intro ps vs cs rest hl nd hc
 refine ⟨by simp [hl], fun i x v a b => ?_⟩
 by_cases hi : i < ps.length
 ·have hx : ps[i]? = some x := by have := a.get; rwa [List.getElem?_append_left hi] at this
  have hv : vs[i]? = some v := by have := b.get; rwa [List.getElem?_append_left (by omega)] at this
  obtain ⟨cv, h1, h2⟩ := hc.get hv
  refine .inr ⟨cv, ?_, h2⟩
  have hcl := hc.len
  have : ∀ (ps : List Str) (cs : List Value) (i : Nat), ps.Nodup → ps[i]? = some x → cs[i]? = some cv → (ps.zip cs).reverse.lookup x = some cv := by
   intro ps
   induction ps with
   | nil => intro cs i _ h; simp at h
   | cons p ps ih =>
    intro cs i nd h1 h2
    cases cs with
    | nil => simp at h2
    | cons d cs =>
     cases i with
     | zero =>
      simp at h1 h2
      subst h1 h2
      rw [List.zip_cons_cons, List.reverse_cons, List.lookup_append]
      have : (ps.zip cs).reverse.lookup p = none := by
       rw [List.lookup_eq_none_iff]
       intro q hq
       rw [List.mem_reverse] at hq
       simp only [beq_eq_false_iff_ne, ne_eq, bne_iff_ne, Bool.not_eq_true]
       intro e
       have := (List.of_mem_zip (a := q.1) (b := q.2) hq).1
       rw [← e] at this
       exact (List.nodup_cons.mp nd).1 this
      rw [this]; simp
     | succ i =>
      simp at h1 h2
      rw [List.zip_cons_cons, List.reverse_cons, List.lookup_append, ih cs i (List.nodup_cons.mp nd).2 h1 h2]
      rfl
  exact this ps cs i nd hx h1
 ·left
  have := b.get
  rw [List.getElem?_append_right (by omega)] at this
  exact (List.eq_of_mem_replicate (List.mem_of_getElem? this))
end
section
inductive FinE (H : List AO) (R : RT) (b : List UInt8) (H' : List AO) : Prop
 | mk (H1 X : List AO) (h1 : H' = H1 ++ X) (h2 : H.length ≤ H1.length) (h4 : ∀ (i : Nat) (o : AO), H1[i]? = some o → H[i]? = some o ∨ o.lt H1.length) (q : R b H1) : FinE H R b H'
theorem FinE.same {H : List AO} {R : RT} {b : List UInt8} {X : List AO} (q : R b H) : FinE H R b (H ++ X) := ⟨H, X, rfl, Nat.le_refl _, fun _ _ e => .inl e, q⟩
noncomputable def Fl.val : Fl → AV
 | .next => .none
 | .ret v => v
section
variable {G : Gl} {c : FnC} {bud : Nat} {r : Rt} {E E' : Own} {F F' : Led} {s s' : Shared} {st : St}
theorem abs_after {H H1 X : List AO} (hl : E.length = H.length) (hr : ∀ (k : Nat) (o : AO), H[k]? = some o → o.lt E.length) (g : Grow E F E' F') (x : Abs G.K c r E' F' st s') (hE : r.own₀ = E.flatten) (e : st.H = H1 ++ X) (hle : H.length ≤ H1.length)
  (h1 : ∀ (i : Nat) (o : AO), H1[i]? = some o → H[i]? = some o ∨ o.lt H1.length) : Grow E F (E'.take H1.length) F' ∧ After r.outer E r.s₀ (E'.take H1.length) F' H1 s' := by
 refine ⟨?_, ?_, fun b o q n1 n2 => ?_, x.frm, fun a ha => ?_, x.sz, x.gens, x.drawn, x.os⟩
 ·obtain ⟨⟨Y, rfl⟩, k⟩ := g
  exact ⟨⟨Y.take (H1.length - E.length), by rw [List.take_append, List.take_of_length_le (by omega)]⟩, k⟩
 ·have hp := x.hp
  rw [e] at hp
  exact (hp.cut fun i o q => (h1 i o q).elim (fun z => AO.lt_mono (by omega) _ (hr i o z)) id).frame fun a ha => List.mem_cons_of_mem _ ha
 ·exact x.keep b o (hideAll_get _ q fun z => (List.mem_append.mp z).elim (fun y => n1 (hE ▸ y)) n2)
 ·have : a ∈ E'.flatten := by
   rw [← List.take_append_drop H1.length E', List.flatten_append]
   exact List.mem_append_left _ ha
  exact (x.fresh a this).imp (fun y => hE ▸ y) id
theorem fn_ok {sem : Sem'} {fd : FuncData} {body : List Stmt} (ok : c.Ok) (hf : FnAt G.K c fd body) (ps rest : List Str) (hns : c.ns = ps ++ rest) (n : Nat) (das : List AV) (dvs : List Value) (hda : ∀ E F, CVs E F das dvs) (hps : ps.length = n + dvs.length)
  (hb : ∀ (s : Shared) (vs : List Value), Sta G.K s.heap → vs.length = n → BindsTo s fd ⟨vs, []⟩ (ps.zip (vs ++ dvs)))
  (hs : ∀ bud args H Q R, sem bud args H Q R → ltL H.length args → args.length = n ∧ Ex G c bud body (fun fl st1 => Fin H Q fl.val st1.H) (fun b st1 => FinE H R b st1.H) ⟨args ++ das ++ List.replicate rest.length .un, H⟩) : OK G c.fa sem := by
 intro A outer E F H args vs s bud Q R hfr hhd hdep hun hp hsta hff hcv hsem
 obtain ⟨hn, hx⟩ := hs bud args H Q R hsem (by rw [← hp.len]; exact CVs.isLt _ _ hcv)
 obtain ⟨oc, od, osl, hlook⟩ := hf.look
 have S : Sta G.K s.heap := hsta.keeps fun b o e => of_hideAll _ e
 have hvl : vs.length = n := by rw [hcv.len, hn]
 have nd : ps.Nodup := by have := ok.nd; rw [hns, List.nodup_append] at this; exact this.1
 refine codeP_call_def (fd := fd) (body := body) (by show A.depth < 1000; omega) (S.k _ _ hlook) rfl S.nolim (codeRec_of S.k hf.code) hf.body (hb s vs S hvl) (by rw [hf.scope]; exact ok.cell) (fun x hx => ?_) (fun h₁ hn₁ hk₁ => ?_) (by rw [hf.scope]; exact ok.co) (by rw [hf.scope]; exact ok.gen) (by rw [hf.scope]; exact ok.kind)
 ·rw [hf.scope]
  exact (ok.loc x.1 (by rw [hns]; exact List.mem_append_left _ (List.of_mem_zip (a := x.1) (b := x.2) hx).1)).1
 rw [hf.env]
 let r : Rt := ⟨outer, A, E.flatten, s⟩
 have rk : RtOk G.K r bud := ⟨hfr, hhd, hdep, hun, hsta, hff⟩
 have kb : KB [] s.heap h₁ := ⟨Nat.le_of_lt hn₁.lt, fun b o _ e => hk₁ b o e⟩
 have lo : LocOK E F (fun x => (ps.zip (vs ++ dvs)).reverse.lookup x) c.ns (args ++ das ++ List.replicate rest.length .un) := by
  rw [hns]
  exact locOK_binds rest (by rw [hps, List.length_append, hn, ← (hda E F).len]) nd (hcv.app (hda E F))
 have x₀ : Abs G.K c r E F ⟨args ++ das ++ List.replicate rest.length .un, H⟩ { s with heap := h₁, toks := s.toks + (ps.zip (vs ++ dvs)).length } :=
  {ns := ⟨_, hn₁, lo⟩
   hp := hp.enter kb ⟨Nat.le_refl _, hn₁.lt⟩
   keep := fun b o e => hk₁ _ _ (of_hideAll _ e)
   frm := fun a ha o e => ⟨o.slots, hk₁ _ _ e⟩
   fresh := fun a ha => .inl ha
   sz := kb.1
   gens := rfl
   drawn := rfl
   os := rfl }
 have hr : ∀ (k : Nat) (o : AO), H[k]? = some o → o.lt E.length := fun k o e => let ⟨as, _, z⟩ := hp.at e; z.isLt
 refine wpP_mono (hx r E F _ rk x₀) (fun f s' hq => ?_) fun e s' he => ?_
 ·obtain ⟨E', F', st', fl, g, x, hfl, H1, X, eH, hle, hav, h1, q⟩ := hq
  obtain ⟨g', af⟩ := abs_after (G := G) hp.len hr g x rfl eH hle h1
  cases fl with
  | next =>
   cases hfl
   exact ⟨_, F', H1, .none, g', af, by simp [CV], q⟩
  | ret v =>
   obtain ⟨cv, rfl, hc⟩ := hfl
   exact ⟨_, F', H1, v, g', af, CV.cut _ _ _ hc hav, q⟩
 ·obtain ⟨E', F', st', b, a, rfl, g, x, ex, H1, X, eH, hle, h1, q⟩ := he
  unfold leaving
  have hP : ∀ y ∈ frs (c.env r.L :: outer), Prot r E' F' y := fun y hy => .inl hy
  refine wpAny_bind (noteFrame_x (Around.frames_deeper hfr) (x.toFF rk ok) rfl ex hP (fun y => x.prot_lt) fun h2 ex2 k2 => ?_)
  refine setFlight_x (fs := r.fs) ex2 hP fun h3 ex3 k3 => ?_
  have x3 := (x.ex (tk := s'.toks) k2).ex (tk := s'.toks) k3
  obtain ⟨g', af⟩ := abs_after (G := G) hp.len hr g x3 rfl eH hle h1
  refine ⟨_, F', H1, b, a, rfl, g', af, ex3.sub fun y hy => ?_, q⟩
  rcases hy with hy | hy | hy | hy
  ·exact .inl (List.mem_cons_of_mem _ hy)
  ·refine .inr (.inl ?_)
   rw [← List.take_append_drop H1.length E', List.flatten_append]
   exact List.mem_append_left _ hy
  ·exact .inr (.inr (.inl hy))
  ·obtain ⟨o, e⟩ := Option.isSome_iff_exists.mp hy
   by_cases q1 : y ∈ E.flatten
   ·obtain ⟨⟨Y, rfl⟩, _⟩ := g
    exact .inr (.inl (by rw [List.flatten_append]; exact List.mem_append_left _ q1))
   ·by_cases q2 : y ∈ frs outer
    ·exact .inl (List.mem_cons_of_mem _ q2)
    ·exact .inr (.inr (.inr (by
      have : r.g.get? y = some o := hideAll_get _ e fun z => (List.mem_append.mp z).elim q1 q2
      rw [this]; rfl)))
theorem Err.passes {R : List UInt8 → St → Prop} (ok : c.Ok) (rk : RtOk G.K r bud) : PassesOwn (model G.prog G.w) (r.A c) (c.env r.L) (Err G c r E F R) := by
 rintro e s' ⟨E', F', st', b, a, rfl, g, x, ex, q⟩
 have hP : ∀ y ∈ frs (c.env r.L :: r.outer), Prot r E' F' y := fun y hy => .inl hy
 refine noteFrame_x (Around.frames_deeper rk.fr) (x.toFF rk ok) rfl ex hP (fun y => x.prot_lt) fun h2 ex2 k2 => ?_
 have x2 := x.ex (tk := s'.toks) k2
 have ex2' := ex2
 obtain ⟨d, fs', sl, t, m, a1, a2, a3, a4, a5, a6, T, b1, b2, b3, b4⟩ := ex2'
 refine wpAny_bind (wpAny_field a1 rfl b1 ?_)
 rw [if_neg (show ¬ ((Value.ref T == Value.none) = true) from by simp)]
 exact setFlight_x (fs := r.fs) ex2 hP fun h3 ex3 k3 => ⟨E', F', st', b, a, rfl, g, x2.ex k3, ex3.at, q⟩
end
end
section
section
variable {G : Gl} {c : FnC} {bud : Nat} {Q : AV → St → Prop} {R : List UInt8 → St → Prop} {st : St}
section
variable {i j : Int}
theorem Bin_add (q : Q (.int (i + j)) st) : Bin G c bud .Add (.int i) (.int j) Q R st := fun r E F s ca cb rk x ha hb => by
 simp only [CV] at ha hb
 obtain ⟨t, rfl⟩ := ha
 obtain ⟨u, rfl⟩ := hb
 exact .of (PyProof.Rows.add_int (post_mk x (by simp [CV]) q))
theorem Bin_sub (q : Q (.int (i - j)) st) : Bin G c bud .Sub (.int i) (.int j) Q R st := fun r E F s ca cb rk x ha hb => by
 simp only [CV] at ha hb
 obtain ⟨t, rfl⟩ := ha
 obtain ⟨u, rfl⟩ := hb
 exact .of (PyProof.Rows.sub_int (post_mk x (by simp [CV]) q))
theorem Bin_mul (hm : IntMulOk i j) (q : Q (.int (i * j)) st) : Bin G c bud .Mult (.int i) (.int j) Q R st := fun r E F s ca cb rk x ha hb => by
 simp only [CV] at ha hb
 obtain ⟨t, rfl⟩ := ha
 obtain ⟨u, rfl⟩ := hb
 exact .of (PyProof.Rows.mul_int (hm := hm) (post_mk x (by simp [CV]) q))
theorem Bin_mod (hj : j ≠ 0) (q : Q (.int (i.fmod j)) st) : Bin G c bud .Mod (.int i) (.int j) Q R st := fun r E F s ca cb rk x ha hb => by
 simp only [CV] at ha hb
 obtain ⟨t, rfl⟩ := ha
 obtain ⟨u, rfl⟩ := hb
 exact .of (PyProof.Rows.mod_int hj (post_mk x (by simp [CV]) q))
theorem Bin_div (hj : j ≠ 0) (hp : Builtin.divisionGoesByPylong i j = false) (q : Q (.int (i.fdiv j)) st) : Bin G c bud .FloorDiv (.int i) (.int j) Q R st := fun r E F s ca cb rk x ha hb => by
 simp only [CV] at ha hb
 obtain ⟨t, rfl⟩ := ha
 obtain ⟨u, rfl⟩ := hb
 exact .of (PyProof.Rows.floordiv_int (hp := .inl hp) hj (post_mk x (by simp [CV]) q))
theorem Bin_pow (h0 : 0 ≤ j) (h1 : j ≤ 1000000) (h2 : i.natAbs < 2 ^ 24) (hs : (Builtin.Int.intBits i : Int) * j ≤ 2 ^ 27) (q : Q (.int (i ^ j.toNat)) st) : Bin G c bud .Pow (.int i) (.int j) Q R st := fun r E F s ca cb rk x ha hb => by
 simp only [CV] at ha hb
 obtain ⟨t, rfl⟩ := ha
 obtain ⟨u, rfl⟩ := hb
 exact .of (PyProof.Rows.pow_int h0 hs (post_mk x (by simp [CV]) q))
theorem Cmp_eq_int (q : Q (.bool (i == j)) st) : Cmp G c bud .Eq (.int i) (.int j) Q R st := fun r E F s ca cb rk x ha hb => by
 simp only [CV] at ha hb
 obtain ⟨t, rfl⟩ := ha
 obtain ⟨u, rfl⟩ := hb
 exact .of (PyProof.Rows.eq_int (post_mk0 x (by simp [CV]) q))
theorem Cmp_ne_int (q : Q (.bool (i != j)) st) : Cmp G c bud .NotEq (.int i) (.int j) Q R st := fun r E F s ca cb rk x ha hb => by
 simp only [CV] at ha hb
 obtain ⟨t, rfl⟩ := ha
 obtain ⟨u, rfl⟩ := hb
 exact .of (PyProof.Rows.ne_int (post_mk0 x (by simp [CV]) q))
theorem Cmp_lt_int (q : Q (.bool (decide (i < j))) st) : Cmp G c bud .Lt (.int i) (.int j) Q R st := fun r E F s ca cb rk x ha hb => by
 simp only [CV] at ha hb
 obtain ⟨t, rfl⟩ := ha
 obtain ⟨u, rfl⟩ := hb
 exact .of (PyProof.Rows.lt_int (post_mk0 x (by simp [CV]) q))
theorem Cmp_le_int (q : Q (.bool (decide (i ≤ j))) st) : Cmp G c bud .LtE (.int i) (.int j) Q R st := fun r E F s ca cb rk x ha hb => by
 simp only [CV] at ha hb
 obtain ⟨t, rfl⟩ := ha
 obtain ⟨u, rfl⟩ := hb
 exact .of (PyProof.Rows.le_int (post_mk0 x (by simp [CV]) q))
theorem Cmp_gt_int (q : Q (.bool (decide (j < i))) st) : Cmp G c bud .Gt (.int i) (.int j) Q R st := fun r E F s ca cb rk x ha hb => by
 simp only [CV] at ha hb
 obtain ⟨t, rfl⟩ := ha
 obtain ⟨u, rfl⟩ := hb
 exact .of (PyProof.Rows.gt_int (post_mk0 x (by simp [CV]) q))
theorem Cmp_ge_int (q : Q (.bool (decide (j ≤ i))) st) : Cmp G c bud .GtE (.int i) (.int j) Q R st := fun r E F s ca cb rk x ha hb => by
 simp only [CV] at ha hb
 obtain ⟨t, rfl⟩ := ha
 obtain ⟨u, rfl⟩ := hb
 exact .of (PyProof.Rows.ge_int (post_mk0 x (by simp [CV]) q))
theorem Una_neg (q : Q (.int (-i)) st) : Una G c bud .USub (.int i) Q R st := fun r E F s ca rk x ha => by
 simp only [CV] at ha
 obtain ⟨t, rfl⟩ := ha
 exact .of (PyProof.Rows.neg_int (post_mk x (by simp [CV]) q))
theorem Cmp_ne_none_int (q : Q (.bool true) st) : Cmp G c bud .NotEq .none (.int j) Q R st := fun r E F s ca cb rk x ha hb => by
 simp only [CV] at ha hb
 subst ha
 obtain ⟨u, rfl⟩ := hb
 exact .of (PySem.EqNone.ne_none_int (post_mk0 x (by simp [CV]) q))
end
noncomputable def AV.isNone : AV → Bool
 | .none => true
 | .val .none => true
 | _ => false
theorem CV.beq_none {E : Own} {F : Led} : ∀ {a : AV} {v : Value}, CV E F a v → (v == .none) = a.isNone
 | .un, _, h => by simp [CV] at h
 | .none, _, h => by simp only [CV] at h; subst h; rfl
 | .bool _, _, h => by simp only [CV] at h; subst h; rfl
 | .int _, _, h => by simp only [CV] at h; obtain ⟨t, rfl⟩ := h; rfl
 | .str _, _, h => by simp only [CV] at h; obtain ⟨t, rfl⟩ := h; rfl
 | .bytes _, _, h => by simp only [CV] at h; obtain ⟨t, rfl⟩ := h; rfl
 | .val u, v, h => by
  simp only [CV] at h
  rw [h]
  cases u <;> first | rfl | (simp [AV.isNone])
 | .obj _, _, h => by simp only [CV] at h; obtain ⟨a, r, _, rfl⟩ := h; rfl
 | .tup _, _, h => by simp only [CV] at h; obtain ⟨a, cs, n, rfl, _⟩ := h; rfl
 | .lst _, _, h => by simp only [CV] at h; obtain ⟨a, cs, n, rfl, _⟩ := h; rfl
 | .ins .., _, h => by simp only [CV] at h; obtain ⟨a, d, od, m, rfl, _⟩ := h; rfl
theorem Cmp_is_none {a : AV} (q : Q (.bool a.isNone) st) : Cmp G c bud .Is a .none Q R st := fun r E F s ca cb rk x ha hb => by
 simp only [CV] at hb
 subst hb
 exact .of (is_none (post_mk0 x (by simp [CV, ha.beq_none]) q))
theorem Cmp_isnt_none {a : AV} (q : Q (.bool (!a.isNone)) st) : Cmp G c bud .IsNot a .none Q R st := fun r E F s ca cb rk x ha hb => by
 simp only [CV] at hb
 subst hb
 exact .of (isNot_none (post_mk0 x (by simp [CV, ha.beq_none]) q))
theorem Cmp_eq_bytes {a b : List UInt8} (q : Q (.bool (a == b)) st) : Cmp G c bud .Eq (.bytes a) (.bytes b) Q R st := fun r E F s ca cb rk x ha hb => by
 simp only [CV] at ha hb
 obtain ⟨t, rfl⟩ := ha
 obtain ⟨u, rfl⟩ := hb
 exact .of (PySem.W.eq_bytes (post_mk0 x (by simp [CV]) q))
theorem Cmp_eq_str {a b : Str} (q : Q (.bool (a == b)) st) : Cmp G c bud .Eq (.str a) (.str b) Q R st := fun r E F s ca cb rk x ha hb => by
 simp only [CV] at ha hb
 obtain ⟨t, rfl⟩ := ha
 obtain ⟨u, rfl⟩ := hb
 exact .of (PyProof.Rows.eq_str (post_mk0 x (by simp [CV]) q))
theorem Cmp_eq_bool {a b : Bool} (q : Q (.bool (a == b)) st) : Cmp G c bud .Eq (.bool a) (.bool b) Q R st := fun r E F s ca cb rk x ha hb => by
 simp only [CV] at ha hb
 subst ha hb
 exact .of (PyProof.Rows.eq_bool (post_mk0 x (by simp [CV]) q))
theorem Tru_bool {b : Bool} {Q : Bool → St → Prop} (q : Q b st) : Tru G c bud (.bool b) Q R st := fun r E F s ca rk x ha => by
 simp only [CV] at ha
 subst ha
 exact .of (wpAny_truthy_bool ⟨E, F, st, Grow.refl _ _, x, q⟩)
theorem Bin_add_bytes {a b : List UInt8} (hz : a.length + b.length ≤ 16777216) (q : Q (.bytes (a ++ b)) st) : Bin G c bud .Add (.bytes a) (.bytes b) Q R st := fun r E F s ca cb rk x ha hb => by
 simp only [CV] at ha hb
 obtain ⟨t, rfl⟩ := ha
 obtain ⟨u, rfl⟩ := hb
 exact .of (PySem.W.KBy.add_bytes (by simpa using hz) fun t' k => post_mk x (by simp [CV]) q)
theorem Cal_len_bytes {a : List UInt8} (hz : a.length ≤ 1099511627776) (q : Q (.int a.length) st) : Cal G c bud (.val (.builtin "len")) [.bytes a] Q R st := fun r E F s cf cs rk x hf hc => by
 simp only [CV, CVs] at hf hc
 obtain ⟨_, _, rfl, ⟨t, rfl⟩, rfl⟩ := hc
 subst hf
 exact .of (PySem.W.len_bytes (by simpa using hz) (post_mk x (by simp [CV]) q))
end
end
section
theorem lookIn_ns {od : Obj} {m : Str → Option Value} (h : IsNs od m) (x : Str) : lookIn x od = some (m x) := by
 obtain ⟨es, ep, hd, hk, hm⟩ := h
 unfold lookIn
 rw [hd]
 have e := hm x
 unfold nsFind findBy at e
 rw [← Array.find?_toList] at e
 have hr : es.toList.any (·.refKey) = false := by
  rw [List.any_eq_false]
  intro d hd' q
  obtain ⟨n, t, z⟩ := hk d (Array.mem_toList_iff.mp hd')
  simp [DictEntry.refKey, z] at q
 dsimp only
 cases q : es.toList.find? (·.key.isStr x) with
 | some d => rw [q] at e; simpa using e
 | none => rw [q] at e; simp only [Option.map_none] at e; simp [hr, e]
structure ClsOK (K : Frag) (C : Addr) : Prop where
 ga : findIn K (.ref C) "__getattribute__" = some (some (.builtin "object.__getattribute__"))
 gt : findIn K (.ref C) "__getattr__" = some none
 hd : hasDictIn K C = true
 over : plainOver K C = true
 sa : findIn K (.ref C) "__setattr__" = some (some (.builtin "object.__setattr__"))
theorem inst_at {h : Heap} {a C d : Addr} {od : Obj} (h1 : h.get? a = some (instObj C d)) (h2 : h.get? d = some od) : InstAt h a (instObj C d) C (some od) := ⟨h1, rfl, rfl, h2⟩
section
variable {G : Gl} {c : FnC} {bud : Nat} {Q : AV → St → Prop} {R : List UInt8 → St → Prop} {st : St} {r : Rt} {E E' : Own} {F F' : Led} {s : Shared}
theorem handed_cv : ∀ {v : AV} {cv : Value}, CV E F v cv → (∀ u, v ≠ .val u) → handedIn cv = true
 | .un, _, h, _ => by simp [CV] at h
 | .none, _, h, _ => by simp only [CV] at h; subst h; rfl
 | .bool _, _, h, _ => by simp only [CV] at h; subst h; rfl
 | .int _, _, h, _ => by simp only [CV] at h; obtain ⟨t, rfl⟩ := h; rfl
 | .str _, _, h, _ => by simp only [CV] at h; obtain ⟨t, rfl⟩ := h; rfl
 | .bytes _, _, h, _ => by simp only [CV] at h; obtain ⟨t, rfl⟩ := h; rfl
 | .val u, _, _, n => absurd rfl (n u)
 | .obj _, _, h, _ => by simp only [CV] at h; obtain ⟨a, r, _, rfl⟩ := h; rfl
 | .tup _, _, h, _ => by simp only [CV] at h; obtain ⟨a, cs, n, rfl, _⟩ := h; rfl
 | .lst _, _, h, _ => by simp only [CV] at h; obtain ⟨a, cs, n, rfl, _⟩ := h; rfl
 | .ins .., _, h, _ => by simp only [CV] at h; obtain ⟨a, d, od, m, rfl, _⟩ := h; rfl
theorem Get_own {k : Nat} {C : Addr} {ns : List Str} {vs : List AV} {i : Nat} {x : Str} {v : AV} {attr : Option Value} (co : ClsOK G.K C) (ho : st.H[k]? = some (.inst C ns vs)) (hx : Nth ns i x) (hv : Nth vs i v)
  (ha : findIn G.K (.ref C) x = some attr) (hn : noGet G.K attr = true) (hh : ∀ u, v ≠ .val u) (q : Q v st) : Get G c bud (.obj k) x Q R st := fun r E F s cv ex rk a hc => by
 simp only [CV] at hc
 obtain ⟨b, rr, he, rfl⟩ := hc
 obtain ⟨as, e2, d, d2, es, n, m, e3, h1, h5, h6, hz, h3, h4⟩ := a.hp.at ho
 rw [he] at e2; cases e2; cases e3
 obtain ⟨cv, hm, hcv⟩ := h4.get hx hv
 exact .of (get_value (a.sta rk).k (inst_at h1 h5) co.ga (findObj_own co.hd ha hn (by rw [lookIn_ns h6, hm])) (handed_cv hcv hh) (post_mk a hcv q))
theorem Get_ins {C : Addr} {ns : List Str} {vs : List AV} {i : Nat} {x : Str} {v : AV} {attr : Option Value} (co : ClsOK G.K C) (hx : Nth ns i x) (hv : Nth vs i v)
  (ha : findIn G.K (.ref C) x = some attr) (hn : noGet G.K attr = true) (hh : ∀ u, v ≠ .val u) (q : Q v st) : Get G c bud (.ins C ns vs) x Q R st := fun r E F s cv ex rk a hc => by
 simp only [CV] at hc
 obtain ⟨b, d, od, m, rfl, m1, m2, h6, h3, h4⟩ := hc
 obtain ⟨cv, hm, hcv⟩ := h4.get hx hv
 exact .of (get_value (a.sta rk).k (inst_at (a.hp.froz _ m1) (a.hp.froz _ m2)) co.ga (findObj_own co.hd ha hn (by rw [lookIn_ns h6, hm])) (handed_cv hcv hh) (post_mk a hcv q))
theorem Ev_attr {e : Expr} {x : Str} {pos : Pos} (h : Ev G c bud e (fun o st1 => Get G c bud o x Q R st1) R st)
  (he : ∀ env, eval (.Attribute e x pos) env = (do
   let o ← eval e env
   standAt pos.atName
   let r ← holding [o] (getAttr o x true)
   letTemporaryGo e o r
   pure r) := by intro _; with_unfolding_all rfl) : Ev G c bud (.Attribute e x pos) Q R st := fun r E F s rk a =>
 wpP_Attribute (he := he _) (wpP_mono (h r E F s rk a) (fun co s1 ⟨E1, F1, st1, av, g1, a1, c1, q1⟩ => q1.up rk g1 a1 c1) fun _ _ z => z)
variable (G c bud) in
noncomputable def Cw (pos : Pos) (f : AV) (first : List AV) (es : List Expr) (Q : AV → St → Prop) (R : List UInt8 → St → Prop) (st : St) : Prop :=
 ∀ r E F s cf cs, RtOk G.K r bud → Abs G.K c r E F st s → CV E F f cf → CVs E F first cs → wpP G.P (model G.prog G.w) (r.A c) (callWith pos cf cs (backTo pos (starEach es (c.env r.L))) []) (Post G c r E F Q) (Err G c r E F R) s
inductive PostM (G : Gl) (c : FnC) (r : Rt) (E : Own) (F : Led) (QM : AV → List AV → St → Prop) (fx : Value × List Value) (s' : Shared) : Prop
 | mk (E' : Own) (F' : Led) (st' : St) (f : AV) (first : List AV) (h1 : Grow E F E' F') (h2 : Abs G.K c r E' F' st' s') (h3 : CV E' F' f fx.1) (h4 : CVs E' F' first fx.2) (q : QM f first st') : PostM G c r E F QM fx s'
variable (G c bud) in
noncomputable def Meth (o : AV) (x : Str) (QM : AV → List AV → St → Prop) (R : List UInt8 → St → Prop) (st : St) : Prop :=
 ∀ r E F s co pl, RtOk G.K r bud → Abs G.K c r E F st s → CV E F o co → wpP G.P (model G.prog G.w) (r.A c) (getMethod co x pl)
  (PostM G c r E F QM) (Err G c r E F R) s
theorem Cw.up {pos : Pos} {f : AV} {first : List AV} {es : List Expr} {cf : Value} {cs : List Value} (h : Cw G c bud pos f first es Q R st) (ok : RtOk G.K r bud) (g : Grow E F E' F') (a : Abs G.K c r E' F' st s) (hf : CV E' F' f cf) (hs : CVs E' F' first cs) :
  wpP G.P (model G.prog G.w) (r.A c) (callWith pos cf cs (backTo pos (starEach es (c.env r.L))) []) (Post G c r E F Q) (Err G c r E F R) s :=
 wpP_mono (h r E' F' s cf cs ok a hf hs) (fun _ _ => Post.back g) fun _ _ => Err.back g
theorem Ev_call {e : Expr} {es : List Expr} {pos : Pos} (h : Ev G c bud e (fun f st1 => Cw G c bud pos f [] es Q R st1) R st)
  (he : ∀ env, eval (.Call e es [] pos) env = (do callWith pos (← eval e env) [] (backTo pos (starEach es env)) (backToKw pos (keywordEach [] env))) := by intro _; rfl) : Ev G c bud (.Call e es [] pos) Q R st := fun r E F s rk a =>
 wpP_Call (he := he _) (wpP_mono (h r E F s rk a) (fun cf s1 ⟨E1, F1, st1, av, g1, a1, c1, q1⟩ => q1.up rk g1 a1 c1 CVs.nil) fun _ _ z => z)
theorem Ev_meth {o : Expr} {x : Str} {es : List Expr} {apos pos : Pos} (h : Ev G c bud o (fun ov st1 => Meth G c bud ov x (fun f first st2 => Cw G c bud pos f first es Q R st2) R st1) R st)
  (he : ∀ env, ∃ pl, eval (.Call (.Attribute o x apos) es [] pos) env = (do
   let ov ← eval o env
   standAt apos.atName
   let (f, first) ← holding [ov] (getMethod ov x pl)
   callWith pos f first (backTo pos (starEach es env)) []) := by intro _; exact ⟨_, rfl⟩) : Ev G c bud (.Call (.Attribute o x apos) es [] pos) Q R st := fun r E F s rk a => by
 obtain ⟨pl, he'⟩ := he (c.env r.L)
 refine wpP_MethodCall (he := he') (wpP_mono (h r E F s rk a) (fun co s1 ⟨E1, F1, st1, av, g1, a1, c1, q1⟩ => wpP_mono (q1 r E1 F1 s1 co pl rk a1 c1) (fun fx s2 ⟨E2, F2, st2, f, first, g2, a2, hf, hs, q2⟩ => ?_) fun _ _ => Err.back g1) fun _ _ z => z)
 exact q2.up rk (g1.trans g2) a2 hf hs
theorem Meth_own {k : Nat} {C : Addr} {ns : List Str} {vs : List AV} {x : Str} {f : Addr} {QM : AV → List AV → St → Prop} (co : ClsOK G.K C) (ho : st.H[k]? = some (.inst C ns vs)) (hx : x ∉ ns) (hf : findIn G.K (.ref C) x = some (some (.ref f))) (ht : typeIn G.K (.ref f) = some (.type "function"))
  (q : QM (.val (.ref f)) [.obj k] st) : Meth G c bud (.obj k) x QM R st := fun r E F s cv pl rk a hc => by
 have hc0 := hc
 simp only [CV] at hc
 obtain ⟨b, rr, he, rfl⟩ := hc
 obtain ⟨as, e2, d, d2, es, n, m, e3, h1, h5, h6, hz, h3, h4⟩ := a.hp.at ho
 rw [he] at e2; cases e2; cases e3
 exact .of (method_fn (a.sta rk).k (inst_at h1 h5) co.ga co.gt hf ht (by unfold shadowIn; dsimp only; rw [lookIn_ns h6, h3 x hx]; rfl) ⟨E, F, st, _, _, Grow.refl _ _, a, by simp [CV], CVs.one hc0, q⟩)
theorem Cw_zero {pos : Pos} {f : AV} {first : List AV} (hk : ∀ E F cf, CV E F f cf → ∀ h, G.K.In h → ∃ k, (k = Keeper.frame ∨ k = Keeper.machine ∨ k = Keeper.boundFrame) ∧ Looks (model G.prog G.w) h (keeperOf cf) k)
  (h : Cal G c bud f first Q R st) : Cw G c bud pos f first [] Q R st := fun r E F s cf cs rk a hf hs =>
 callWith_plainP rfl (evalArgs_nilP ⟨hk _ _ _ hf _ (a.sta rk).k, by
  have := h r E F s cf cs rk a hf hs
  rw [List.append_nil]; exact this⟩)
theorem Cw_some {pos : Pos} {f : AV} {first : List AV} {e : Expr} {es : List Expr} (hk : ∀ E F cf, CV E F f cf → ∀ h, G.K.In h → ∃ k, (k = Keeper.frame ∨ k = Keeper.machine ∨ k = Keeper.boundFrame) ∧ Looks (model G.prog G.w) h (keeperOf cf) k)
  (h : Ea G c bud (e :: es) pos (fun vs st1 => Cal G c bud f (first ++ vs) Q R st1) R st)
  (h1 : ∀ env, starEach (e :: es) env = (false, eval e env) :: starEach es env) (h2 : ∀ env, (backTo pos (starEach es env)).any (·.1) = false) :
  Cw G c bud pos f first (e :: es) Q R st := fun r E F s cf cs rk a hf hs => by
 have k := h r E F s rk a
 rw [h1] at k ⊢
 refine callWith_plainP (by show (false || (backTo pos (starEach es (c.env r.L))).any (·.1)) = false; rw [h2]; rfl) (evalArgs_plainP (wpP_mono k (fun vs s1 p => ?_) fun _ _ z => z))
 obtain ⟨E1, F1, st1, avs, g1, a1, c1, q1⟩ := p
 exact ⟨hk _ _ _ hf _ (a1.sta rk).k, q1.up rk g1 a1 (CV.grow g1 _ _ hf) ((CVs.grow g1 _ _ hs).app c1)⟩
theorem keep_fn {fa : Addr} (hk : keepIn G.K (.ref fa) = true) : ∀ E F cf, CV E F (.val (.ref fa)) cf → ∀ h, G.K.In h → ∃ k, (k = Keeper.frame ∨ k = Keeper.machine ∨ k = Keeper.boundFrame) ∧ Looks (model G.prog G.w) h (keeperOf cf) k := fun E F cf hf h X => by
 simp only [CV] at hf
 subst hf
 exact keeps_K hk h X
theorem keep_bi' {id : String} : ∀ E F cf, CV E F (.val (.builtin id)) cf → ∀ h, G.K.In h → ∃ k, (k = Keeper.frame ∨ k = Keeper.machine ∨ k = Keeper.boundFrame) ∧ Looks (model G.prog G.w) h (keeperOf cf) k := fun E F cf hf h X => by
 simp only [CV] at hf
 subst hf
 exact ⟨_, .inr (.inl rfl), keep_bi⟩
theorem keep_ty' {T : String} : ∀ E F cf, CV E F (.val (.type T)) cf → ∀ h, G.K.In h → ∃ k, (k = Keeper.frame ∨ k = Keeper.machine ∨ k = Keeper.boundFrame) ∧ Looks (model G.prog G.w) h (keeperOf cf) k := fun E F cf hf h X => by
 simp only [CV] at hf
 subst hf
 exact ⟨_, .inr (.inl rfl), keep_ty⟩
theorem Cw_fn0 {pos : Pos} {fa : Addr} {first : List AV} (hk : keepIn G.K (.ref fa) = true) (h : Cal G c bud (.val (.ref fa)) first Q R st) : Cw G c bud pos (.val (.ref fa)) first [] Q R st := Cw_zero (keep_fn hk) h
theorem Cw_fn {pos : Pos} {fa : Addr} {first : List AV} {e : Expr} {es : List Expr} (hk : keepIn G.K (.ref fa) = true) (h : Ea G c bud (e :: es) pos (fun vs st1 => Cal G c bud (.val (.ref fa)) (first ++ vs) Q R st1) R st)
  (h1 : ∀ env, starEach (e :: es) env = (false, eval e env) :: starEach es env := by intro _; rfl) (h2 : ∀ env, (backTo pos (starEach es env)).any (·.1) = false := by intro _; rfl) :
  Cw G c bud pos (.val (.ref fa)) first (e :: es) Q R st := Cw_some (keep_fn hk) h h1 h2
theorem Cw_bi0 {pos : Pos} {id : String} {first : List AV} (h : Cal G c bud (.val (.builtin id)) first Q R st) : Cw G c bud pos (.val (.builtin id)) first [] Q R st := Cw_zero keep_bi' h
theorem Cw_bi {pos : Pos} {id : String} {first : List AV} {e : Expr} {es : List Expr} (h : Ea G c bud (e :: es) pos (fun vs st1 => Cal G c bud (.val (.builtin id)) (first ++ vs) Q R st1) R st)
  (h1 : ∀ env, starEach (e :: es) env = (false, eval e env) :: starEach es env := by intro _; rfl) (h2 : ∀ env, (backTo pos (starEach es env)).any (·.1) = false := by intro _; rfl) :
  Cw G c bud pos (.val (.builtin id)) first (e :: es) Q R st := Cw_some keep_bi' h h1 h2
theorem Cw_ty0 {pos : Pos} {T : String} (h : Cal G c bud (.val (.type T)) [] Q R st) : Cw G c bud pos (.val (.type T)) [] [] Q R st := Cw_zero keep_ty' h
theorem Cw_ty {pos : Pos} {T : String} {e : Expr} {es : List Expr} (h : Ea G c bud (e :: es) pos (fun vs st1 => Cal G c bud (.val (.type T)) vs Q R st1) R st)
  (h1 : ∀ env, starEach (e :: es) env = (false, eval e env) :: starEach es env := by intro _; rfl) (h2 : ∀ env, (backTo pos (starEach es env)).any (·.1) = false := by intro _; rfl) :
  Cw G c bud pos (.val (.type T)) [] (e :: es) Q R st := Cw_some keep_ty' h h1 h2
end
end
section
open PySem PySem.W PySem.Calls PyProof.Rows Builtin
theorem find_isStr {es : List DictEntry} {x : Str} : nsFind es.toArray x = (es.find? (·.key.isStr x)).map (·.val) := by
 unfold nsFind findBy
 rw [List.find?_toArray]
theorem isStr_str {x y : Str} {t : Tok} : (Value.str x t).isStr y = (x == y) := rfl
theorem putL_keys {name : Str} {hsh : Int} {t : Tok} {v : Value} : ∀ {es : List DictEntry}, StrKeys es.toArray → StrKeys (putL name hsh (.str name t) v es).toArray := by
 intro es
 induction es with
 | nil => intro _ e he; simp [putL] at he; exact ⟨name, t, by rw [he]⟩
 | cons d r ih =>
  intro hk e he
  have hr : StrKeys r.toArray := fun e he => hk e (by simp at he ⊢; exact .inr he)
  simp only [putL] at he
  split at he
  ·simp only [List.mem_toArray, List.mem_cons] at he
   rcases he with rfl | he
   ·exact hk d (by simp)
   ·exact hk e (by simp [he])
  ·simp only [List.mem_toArray, List.mem_cons] at he
   rcases he with rfl | he
   ·exact hk _ (by simp)
   ·exact ih hr e (by simpa using he)
theorem putL_find' {name : Str} {hsh : Int} {t : Tok} {v : Value} {x : Str} : ∀ {es : List DictEntry}, StrKeys es.toArray → ((putL name hsh (.str name t) v es).find? (·.key.isStr x)).map (·.val) = if x = name then some v else (es.find? (·.key.isStr x)).map (·.val) := by
 intro es
 induction es with
 | nil =>
  intro _
  by_cases h : x = name
  ·subst h; simp [putL, isStr_str]
  ·have : (name == x) = false := by simpa using Ne.symm h
   simp [putL, isStr_str, h, this]
 | cons d r ih =>
  intro hk
  have hr : StrKeys r.toArray := fun e he => hk e (by simp at he ⊢; exact .inr he)
  obtain ⟨n, u, hn⟩ := hk d (by simp)
  simp only [putL]
  by_cases hd : d.key.isStr name = true
  ·rw [if_pos hd]
   have e1 : n = name := by rw [hn] at hd; simpa [isStr_str] using hd
   by_cases h : x = name
   ·subst h
    simp [hd]
   ·have : d.key.isStr x = false := by rw [hn, isStr_str, e1]; simpa using Ne.symm h
    simp [this, h]
  ·rw [if_neg hd]
   by_cases hx : d.key.isStr x = true
   ·have hne : x ≠ name := fun q => hd (q ▸ hx)
    simp [hx, hne]
   ·simp only [Bool.not_eq_true] at hx
    simp only [List.find?_cons, hx]
    exact ih hr
theorem putL_len {name : Str} {hsh : Int} {k v : Value} : ∀ {es : List DictEntry}, (putL name hsh k v es).length ≤ es.length + 1 ∧ ((es.find? (·.key.isStr name)).isSome = true → (putL name hsh k v es).length = es.length) := by
 intro es
 induction es with
 | nil => simp [putL]
 | cons d r ih =>
  simp only [putL]
  by_cases hd : d.key.isStr name = true
  ·simp [hd]
  ·simp only [Bool.not_eq_true] at hd
   simp only [hd, Bool.false_eq_true, if_false, List.length_cons, List.find?_cons]
   exact ⟨by omega, fun h => by rw [ih.2 h]⟩
theorem isNs_of {es : List DictEntry} {n : Nat} {m : Str → Option Value} : IsNs (dictOf es n) m ↔ StrKeys es.toArray ∧ ∀ x, nsFind es.toArray x = m x :=
 ⟨fun ⟨e, p, h, a, b⟩ => by cases h; exact ⟨a, b⟩, fun ⟨a, b⟩ => ⟨_, n, rfl, a, b⟩⟩
theorem isNs_put {es : List DictEntry} {n k : Nat} {m : Str → Option Value} {name : Str} {hsh : Int} {t : Tok} {v : Value} (h : IsNs (dictOf es n) m) : IsNs (dictOf (putL name hsh (.str name t) v es) k) (fun y => if y = name then some v else m y) := by
 obtain ⟨a, b⟩ := isNs_of.mp h
 refine isNs_of.mpr ⟨putL_keys a, fun x => ?_⟩
 rw [find_isStr, putL_find' a, ← find_isStr, b]
theorem upd_congr {h : Heap} {d : Addr} {o : Obj} {f g : Obj → Obj} (hd : h.get? d = some o) (e : f o = g o) : h.update d f = h.update d g := by
 obtain ⟨objs, life⟩ := h
 have hg := (Heap.get?_some_iff.mp hd).1
 show Heap.mk _ _ = Heap.mk _ _
 congr 1
 apply Array.ext_getElem?
 intro i
 rw [Array.getElem?_modify, Array.getElem?_modify]
 by_cases q : d = i
 ·subst q
  rw [if_pos rfl, if_pos rfl]
  dsimp only at hg
  rw [hg]; simp [e]
 ·rw [if_neg q, if_neg q]
section
variable {prog : Program} {w : World} {A : Around} {E : Value → Shared → Prop} {s : Shared} {K : Frag}
theorem store_own {x C d : Addr} {es : List DictEntry} {n : Nat} {name : Str} {tk : Tok} {v : Value} {b : Bool} {Q : PySem.Fin → Shared → Prop} (X : K.In s.heap) (hc : hasDictIn K C = true) (hx : s.heap.get? x = some (instObj C d)) (hd : s.heap.get? d = some (dictOf es n))
  (hk : StrKeys es.toArray) (hz : es.length ≤ 1000) (hq : ∀ hsh t, Q (.done (.ret .none)) { s with heap := s.heap.update d fun _ => dictOf (putL name hsh (.str name t) v es) (putN name es n), toks := s.toks + 1 }) :
  wpAny (model prog w) A (Builtin.ObjectAttr.storeInOwnDict (.ref x) (.ref C) (.str name tk) name v b) Q E s := by
 obtain ⟨cd, h1, h2⟩ := any_some hc
 have hno : es.any (·.refKey) = false := by
  rw [List.any_eq_false]
  intro e he q
  obtain ⟨y, t, z⟩ := hk e (by simpa using he)
  simp [DictEntry.refKey, z] at q
 have hl : ∀ hsh : Int, (putL name hsh (.str name s.toks) v es).length ≤ es.length + 1 := fun _ => putL_len.1
 have hu : ∀ hsh : Int, s.heap.update d (Obj.putName name hsh (.str name s.toks) v) = s.heap.update d fun _ => dictOf (putL name hsh (.str name s.toks) v es) (putN name es n) := fun hsh => by
  have he : Obj.putName name hsh (.str name s.toks) v (dictOf es n) = dictOf (putL name hsh (.str name s.toks) v es) (putN name es n) := putName_dict ..
  exact upd_congr hd he
 unfold Builtin.ObjectAttr.storeInOwnDict
 refine wpAny_bind (wpAny_pure (wpAny_bind ?_))
 unfold Builtin.ObjectAttr.ownDictForStores instanceDict
 refine wpAny_bind (wpAny_loadPart hx (wpAny_bind ((looks_clsIn X h1).here ?_)))
 rw [h2]
 refine wpAny_pure (a := some d) ?_
 unfold Builtin.ObjectAttr.storeInDict nsSet
 refine wpAny_bind (wpAny_pure (wpAny_bind (wpAny_bind (wpAny_bind (wpAny_askSetting (wpAny_pure ?_))))))
 refine wpAny_bind (wpAny_mkText (wpAny_bind (wpAny_loadPart hd ?_)))
 dsimp only
 rw [aRefKeyMayBeTheName_at, ← Array.any_toList, ← Array.any_toList, show es.toArray.toList.any (·.refKey) = false from hno, Bool.and_false]
 refine wpAny_updatePart hd ?_
 generalize (if name.cps.isEmpty = true then (0 : Int) else _) = hsh
 rw [hu]
 refine wpAny_bind (wpAny_lookBehind (o := dictOf (putL name hsh (.str name s.toks) v es) (putN name es n)) (Heap.get?_update_self _ hd rfl) (pastItsLine_dict (by have := hl hsh; rw [List.size_toArray, sizeLine_eq]; omega)) ?_)
 exact wpAny_pure (hq _ _)
end
end
noncomputable def chk (K : Frag) (fd : FuncData) (ns gl : List Str) : Bool :=
 fd.globals == mainGlobals && fd.builtins == builtinsNs && fd.closure.isEmpty && fd.scope.kind == .function && !fd.scope.isGenerator && !fd.scope.isCoroutine &&
 fd.scope.names.all (fun x => x.2 != .cell) && ns.all (fun x => fd.scope.names.lookup x == some .local && !(x == ("__debug__" : Str))) && decide ns.Nodup &&
 gl.all (fun x => fd.scope.names.lookup x == some .globalImplicit && !(x == ("__debug__" : Str))) && codeIn K fd.code fd.qualname
structure Glb (c : FnC) (gl : List Str) : Prop where
 of : ∀ x ∈ gl, c.scope.names.lookup x = some .globalImplicit ∧ (x == ("__debug__" : Str)) = false
theorem fn_ok' {G : Gl} {fa : Addr} {sem : Sem'} {fd : FuncData} {body : List Stmt} (gl ps rest : List Str) (n : Nat) (das : List AV) (dvs : List Value)
  (hl : ∃ oc od osl, G.K.lookup fa = some ⟨oc, od, .func fd, osl⟩) (hb : fd.body = .stmts body) (hc : chk G.K fd (ps ++ rest) gl = true) (hda : ∀ E F, CVs E F das dvs) (hps : ps.length = n + dvs.length)
  (hbi : ∀ (s : Shared) (vs : List Value), Sta G.K s.heap → vs.length = n → BindsTo s fd ⟨vs, []⟩ (ps.zip (vs ++ dvs)))
  (hs : ∀ c : FnC, c.Ok → c.ns = ps ++ rest → Glb c gl → ∀ bud args H Q R, sem bud args H Q R → ltL H.length args → args.length = n ∧ Ex G c bud body (fun fl st1 => Fin H Q fl.val st1.H) (fun b st1 => FinE H R b st1.H) ⟨args ++ das ++ List.replicate rest.length .un, H⟩) : OK G fa sem := by
 unfold chk at hc
 simp only [Bool.and_eq_true, beq_iff_eq, Bool.not_eq_true', List.all_eq_true, decide_eq_true_eq, bne_iff_ne, List.isEmpty_iff] at hc
 obtain ⟨⟨⟨⟨⟨⟨⟨⟨⟨⟨h1, h2⟩, h3⟩, h4⟩, h5⟩, h6⟩, h7⟩, h8⟩, h9⟩, h10⟩, h11⟩ := hc
 refine fn_ok (c := ⟨fd.qualname, fd.scope, ps ++ rest, fa, fd.code⟩) (fd := fd) (body := body) ⟨h4, h5, h6, h7, h8, h9⟩ ⟨hl, hb, fun L => ?_, rfl, h11⟩ ps rest rfl n das dvs hda hps hbi (hs _ ⟨h4, h5, h6, h7, h8, h9⟩ rfl ⟨h10⟩)
 unfold callEnv newEnv FnC.env envX
 rw [h1, h2, h3]
section
open PySem PySem.W PySem.Calls PyProof.Rows Builtin
section
variable (G : Gl) (c : FnC) (bud : Nat)
noncomputable def Seta (o : AV) (x : Str) (v : AV) (Q : St → Prop) (R : List UInt8 → St → Prop) (st : St) : Prop :=
 ∀ r E F s co cv, RtOk G.K r bud → Abs G.K c r E F st s → CV E F o co → CV E F v cv → wpP G.P (model G.prog G.w) (r.A c) (setAttr co x cv) (PostU G c r E F Q) (Err G c r E F R) s
end
section
variable {G : Gl} {c : FnC} {bud : Nat} {R : List UInt8 → St → Prop} {st : St} {r : Rt} {E E' : Own} {F F' : Led} {s : Shared}
theorem Es_seta {Q : Fl → St → Prop} {o e : Expr} {x : Str} {p pos : Pos} (h : Ev G c bud e (fun v st1 => Ev G c bud o (fun ov st2 => Seta G c bud ov x v (fun st3 => Q .next st3) R st2) R st1) R st)
  (hs : ∀ env, swapsWith e (some (.Attribute o x p)) pos.line env = pure false := by intro _; rfl) : Es G c bud (.Assign [.Attribute o x p] e pos) Q R st := fun r E F s rk a =>
 wpP_Assign_Attribute (hs := hs _) (wpP_mono (h r E F s rk a) (fun cv s1 ⟨E1, F1, st1, v, g1, a1, c1, q1⟩ => wpP_mono (q1 r E1 F1 s1 rk a1) (fun co s2 ⟨E2, F2, st2, ov, g2, a2, c2, q2⟩ =>
  wpP_mono (q2 r E2 F2 s2 co cv rk a2 c2 (CV.grow g2 _ _ c1)) (fun _ s3 ⟨E3, F3, st3, g3, a3, q3⟩ => ⟨E3, F3, st3, .next, (g1.trans g2).trans g3, a3, rfl, q3⟩)
   fun _ _ => Err.back (g1.trans g2)) fun _ _ => Err.back g1) fun _ _ z => z)
theorem seta_own {k : Nat} {C : Addr} {ns ns' : List Str} {vs vs' : List AV} {x : Str} {v : AV} {Q : St → Prop} (co : ClsOK G.K C) (ht : takerIn G.K C x = some none) (ho : st.H[k]? = some (.inst C ns vs)) (hl : ns.length ≤ 1000)
  (hro : ∀ E F es n m hsh t cv, IsNs (dictOf es n) m → es.length ≤ ns.length → (∀ y, y ∉ ns → m y = none) → CVf E F m ns vs → CV E F v cv →
   (putL x hsh (.str x t) cv es).length ≤ ns'.length ∧ (∀ y, y ∉ ns' → (if y = x then some cv else m y) = none) ∧ CVf E F (fun y => if y = x then some cv else m y) ns' vs')
  (q : Q { st with H := st.H.set k (.inst C ns' vs') }) : Seta G c bud (.obj k) x v Q R st := fun r E F s cov cv rk a hc hv => by
 simp only [CV] at hc
 obtain ⟨b, rr, he, rfl⟩ := hc
 obtain ⟨as, e2, d, d2, es, n, m, e3, h1, h5, h6, hz, h3, h4⟩ := a.hp.at ho
 rw [he] at e2; cases e2; cases e3
 have X := (a.sta rk).k
 refine .of (set_plain X (inst_at h1 h5) co.sa (osa_open (s := { s with toks := s.toks + 1 }) X (inst_at h1 h5) co.over ht fun bb => ?_))
 refine store_own (s := { s with toks := s.toks + 1 }) X co.hd h1 h5 (isNs_of.mp h6).1 (by omega) fun hsh t => ?_
 have hne : d2 ≠ b := fun q => by
  subst q
  rw [h1] at h5; cases h5
 obtain ⟨p1, p2, p3⟩ := hro E F es n m hsh t cv h6 hz h3 h4 hv
 refine ⟨E, F, _, Grow.refl _ _, a.set he (o' := .inst C ns' vs') (by rw [ho]; simp) ⟨?_, ?_⟩ ?_, q⟩
 ·exact Nat.le_of_eq (Heap.size_after_update ..).symm
 ·exact fun b o n q => (Heap.get?_update_other _ _ (fun z => n (by simp [z]))).trans q
 ·exact ⟨b, d2, _, _, _, rfl, (Heap.get?_update_other _ _ hne).trans h1, Heap.get?_update_self _ h5 rfl, isNs_put h6, p1, p2, p3⟩
theorem Seta_old {k : Nat} {C : Addr} {ns : List Str} {vs : List AV} {x : Str} {i : Nat} {v : AV} {Q : St → Prop} (co : ClsOK G.K C) (ht : takerIn G.K C x = some none) (ho : st.H[k]? = some (.inst C ns vs)) (hx : Nth ns i x) (nd : ns.Nodup) (hl : ns.length ≤ 1000)
  (q : Q { st with H := st.H.set k (.inst C ns (vs.set i v)) }) : Seta G c bud (.obj k) x v Q R st := by
 refine seta_own co ht ho hl (fun E F es n m hsh t cv h1 h2 h3 h4 h5 => ⟨?_, fun y hy => ?_, CVf.set h5 nd h4 hx⟩) q
 ·obtain ⟨w, hw⟩ : ∃ w, vs[i]? = some w := ⟨_, List.getElem?_eq_getElem (by rw [← h4.len]; exact hx.lt)⟩
  obtain ⟨cw, e, _⟩ := h4.get hx (Nth.of hw)
  have := (isNs_of.mp h1).2 x
  rw [find_isStr, e] at this
  rw [putL_len.2]
  ·exact h2
  ·cases z : es.find? (·.key.isStr x) with
   | none => rw [z] at this; cases this
   | some _ => rfl
 ·rw [if_neg]
  ·exact h3 y hy
  ·intro e; subst e; exact hy (List.mem_of_getElem? hx.get)
theorem Seta_new {k : Nat} {C : Addr} {ns : List Str} {vs : List AV} {x : Str} {v : AV} {Q : St → Prop} (co : ClsOK G.K C) (ht : takerIn G.K C x = some none) (ho : st.H[k]? = some (.inst C ns vs)) (hx : x ∉ ns) (hl : ns.length ≤ 1000)
  (q : Q { st with H := st.H.set k (.inst C (ns ++ [x]) (vs ++ [v])) }) : Seta G c bud (.obj k) x v Q R st := by
 refine seta_own co ht ho hl (fun E F es n m hsh t cv h1 h2 h3 h4 h5 => ⟨?_, fun y hy => ?_, CVf.snoc h5 hx h4⟩) q
 ·have : (putL x hsh (.str x t) cv es).length ≤ es.length + 1 := putL_len.1
  simp; omega
 ·simp only [List.mem_append, List.mem_singleton, not_or] at hy
  rw [if_neg hy.2]; exact h3 y hy.1
noncomputable def Gl.any (G : Gl) : Gl := { G with P := anyP }
theorem OK.lift {f : Addr} {sem : Sem'} (h : OK G.any f sem) : OK G f sem := fun A outer E F H args vs s bud Q R h1 h2 h3 h4 h5 h6 h7 h8 h9 =>
 .of (codeP.any (h A outer E F H args vs s bud Q R h1 h2 h3 h4 h5 h6 h7 h8 h9))
structure MakesOK (K : Frag) (C f : Addr) : Prop where
 makes : makesIn K C = true
 init : findIn K (.ref C) "__init__" = some (some (.ref f))
 fn : typeIn K (.ref f) = some (.type "function")
theorem under_tc (A : Around) (C : Addr) (cs : List Value) : (A.under (.builtin "type.__call__" ⟨.ref C :: cs, []⟩)).frames = A.frames ∧ (A.under (.builtin "type.__call__" ⟨.ref C :: cs, []⟩)).handled = A.handled ∧ (A.under (.builtin "type.__call__" ⟨.ref C :: cs, []⟩)).depth = A.depth + 1 ∧ (A.under (.builtin "type.__call__" ⟨.ref C :: cs, []⟩)).units = A.units + 1 :=
 ⟨by kernel_rfl, rfl, by kernel_rfl, by kernel_rfl⟩
theorem RepO_new {E : Own} {F : Led} {h : Heap} {C : Addr} (h1 : h.get? (h.objs.size) = none) : RepO E F ((h.push emptyDict).push (instObj C h.objs.size)) (.inst C [] []) [h.objs.size + 1, h.objs.size] :=
 ⟨h.objs.size + 1, h.objs.size, [], 0, fun _ => none, rfl, by
  have := Heap.get?_push_size (h.push emptyDict) (o := instObj C h.objs.size) rfl
  rwa [Heap.size_push] at this,
 Heap.get?_push_of_some _ (Heap.get?_push_size h (o := emptyDict) rfl), isNs_of.mpr ⟨fun e he => by simp at he, fun x => rfl⟩, by simp, fun _ _ => rfl, CVf.nil⟩
theorem Cal_new {C f : Addr} {sem : Sem'} {b : Nat} {as : List AV} {Q : AV → St → Prop} (ok : c.Ok) (mk : MakesOK G.K C f) (h : OK G.any f sem)
  (hs : sem b (.obj st.H.length :: as) (st.H ++ [.inst C [] []]) (fun v H' => v = .none ∧ Q (.obj st.H.length) { st with H := H' }) (fun t H' => R t { st with H := H' })) : Cal G c (b + 2) (.val (.ref C)) as Q R st := by
 intro r E F s cf cs rk x hf hc
 simp only [CV] at hf
 subst hf
 have X := (x.sta rk).k
 obtain ⟨hh, g, d, t, os⟩ := s
 refine .of (wpAny_call (make_core (makes_of X mk.makes) (looks_findIn X mk.init) (fun self => bind_fn X self mk.fn) (.inl rfl) ?_))
 obtain ⟨u1, u2, u3, u4⟩ := under_tc (r.A c) C cs
 have kb : KB [] hh ((hh.push emptyDict).push (instObj C hh.objs.size)) := (KB.push [] hh _).trans (KB.push [] _ _)
 have x1 := x.new (tk := t) (as := [hh.objs.size + 1, hh.objs.size]) (o := .inst C [] []) kb (by simp) (fun a ha => by
  simp only [List.mem_cons, List.not_mem_nil, or_false] at ha
  show hh.objs.size ≤ a ∧ a < ((hh.push emptyDict).push (instObj C hh.objs.size)).objs.size
  rw [Heap.size_push, Heap.size_push]
  rcases ha with rfl | rfl
  ·exact ⟨Nat.le_succ _, Nat.lt_succ_self _⟩
  ·exact ⟨Nat.le_refl _, Nat.lt_succ_of_lt (Nat.lt_succ_self _)⟩) (RepO_new (none_ge (Nat.le_refl _)))
 have cv1 : CV (E ++ [[hh.objs.size + 1, hh.objs.size]]) F (.obj st.H.length) (.ref (hh.objs.size + 1)) := by
  simp only [CV]
  exact ⟨hh.objs.size + 1, [hh.objs.size], by rw [← x.hp.len]; simp, rfl⟩
 have g1 := Grow.own E [[hh.objs.size + 1, hh.objs.size]] F
 have hc1 := CVs.cons cv1 (CVs.grow g1 _ _ hc)
 refine codeAny_mono (codeP.any (h _ (c.env r.L :: r.outer) _ F _ (.obj st.H.length :: as) (.ref (hh.objs.size + 1) :: cs) _ b _ _ (u1.trans (Around.frames_deeper rk.fr)) (u2.trans rk.hd) ?_ ?_ x1.hp (x1.toSta rk) (x1.toFF rk ok) hc1 hs)) fun res s' hr => ?_
 ·rw [u3]
  have := rk.dep
  show r.A₀.depth + 1 + 1 + b ≤ 900
  omega
 ·rw [u4]
  have := rk.un
  show r.A₀.units + 3 + 1 + 8 * b ≤ 9000
  omega
 ·rcases res with e | (v | _ | _ | _)
  ·obtain ⟨E', F', H', t, a, rfl, g, af, ex, q⟩ := hr
   refine ⟨E', F', _, t, a, rfl, g1.trans g, x1.after g af, ?_, q⟩
   refine ex.at.sub fun y hy => ?_
   rcases hy with hy | hy | hy | hy
   ·exact .inl hy
   ·exact .inr (.inl hy)
   ·exact .inr (.inr (.inl hy))
   ·obtain ⟨o, e⟩ := Option.isSome_iff_exists.mp hy
    exact .inr (.inr (.inr (by rw [x1.keep _ _ e]; rfl)))
  ·exact hr.elim
  ·exact hr.elim
  ·exact hr.elim
  ·obtain ⟨E', F', H', av, g, af, hv, e, q⟩ := hr
   subst e
   simp only [CV] at hv
   exact ⟨hv, E', F', _, _, g1.trans g, x1.after g af, CV.grow g _ _ cv1, q⟩
end
end
section
theorem ltg_bytes {v : Expr} {b : Array UInt8} {t : Tok} (r : Value) : letTemporaryGo v (.bytes b t) r = pure () := by cases v <;> rfl
noncomputable def cutL {α : Type} (lo hi : Option Nat) (l : List α) : List α := (l.drop (lo.getD 0)).take (hi.getD l.length - lo.getD 0)
inductive PartA : AV → Option Nat → Prop
 | none : PartA .none none
 | int {i : Int} {n : Nat} (e : i = (n : Int)) : PartA (.int i) (some n)
theorem PartA.is {E : Own} {F : Led} {a : AV} {n : Option Nat} {c : Value} (p : PartA a n) (h : CV E F a c) : IsPart c (n.map Int.ofNat) := by
 cases p with
 | none => simp only [CV] at h; subst h; exact .none
 | int e => simp only [CV] at h; obtain ⟨t, rfl⟩ := h; subst e; exact .int _ _
theorem lo_cl (lo : Option Nat) (n : Nat) : (lo.map Int.ofNat).elim 0 (clipAt n) = min (lo.getD 0) n := by cases lo <;> simp [clipAt_nat]
theorem hi_cl (hi : Option Nat) (n : Nat) : (hi.map Int.ofNat).elim n (clipAt n) = min (hi.getD n) n := by cases hi <;> simp [clipAt_nat]
theorem cut_min {α : Type} (l : List α) (a b : Nat) : (l.drop (min a l.length)).take (min b l.length - min a l.length) = (l.drop a).take (b - a) := by
 rw [kmk_drop_min]
 rcases Nat.le_total l.length a with h | h
 ·rw [List.drop_eq_nil_of_le h, List.take_nil, List.take_nil]
 ·rw [Nat.min_eq_left h]
  rcases Nat.le_total b l.length with k | k
  ·rw [Nat.min_eq_left k]
  ·rw [Nat.min_eq_right k, List.take_of_length_le (by rw [List.length_drop]; exact Nat.le_refl _), List.take_of_length_le (by rw [List.length_drop]; exact Nat.sub_le_sub_right k a)]
theorem picked_cut (b : List UInt8) (lo hi : Option Nat) : (KBy.picked b.toArray (lo.map Int.ofNat) (hi.map Int.ofNat)) = (cutL lo hi b).toArray := by
 rw [KBc.picked_eq, lo_cl, hi_cl]
 simp only [List.size_toArray]
 rw [cut_min]
 rfl
theorem pick_cut {α : List Value} (lo hi : Option Nat) : slicePick α.toArray (lo.map Int.ofNat) (hi.map Int.ofNat) none = (cutL lo hi α).toArray := by
 rw [kmk_pick_nat α.toArray (sliceBounds_plain _ _ _)]
 simp only [List.size_toArray]
 rw [lo_cl, hi_cl, cut_min]
 rfl
theorem CVs.cutL {E : Own} {F : Led} {vs : List AV} {cs : List Value} (lo hi : Option Nat) (h : CVs E F vs cs) : CVs E F (cutL lo hi vs) (cutL lo hi cs) := by
 unfold Mine.cutL
 rw [h.len]
 exact (h.drop _).take _
section
variable {G : Gl} {c : FnC} {bud : Nat} {Q : AV → St → Prop} {R : List UInt8 → St → Prop} {st : St} {r : Rt} {E E' : Own} {F F' : Led} {s : Shared}
theorem list_new {vs : List AV} {cs : List Value} (a : Abs G.K c r E F st s) (h : CVs E F vs cs) :
  Abs G.K c r (E ++ [[s.heap.objs.size]]) F { st with H := st.H ++ [.list vs] } { s with heap := s.heap.push { cls := .type "list", data := .seq cs.toArray } } ∧ CV (E ++ [[s.heap.objs.size]]) F (.obj st.H.length) (.ref s.heap.objs.size) := by
 refine ⟨a.new (tk := s.toks) (KB.push [] s.heap _) (by simp) (fun b hb => ?_) ⟨_, 0, cs, rfl, Heap.get?_push_size _ rfl, CVs.grow (Grow.own E _ F) _ _ h⟩, ?_⟩
 ·rw [List.mem_singleton] at hb
  subst hb
  rw [Heap.size_push]
  exact ⟨Nat.le_refl _, Nat.lt_succ_self _⟩
 ·simp only [CV]
  exact ⟨s.heap.objs.size, [], by rw [← a.hp.len]; simp, rfl⟩
theorem list_frz {vs : List AV} {cs : List Value} (a : Abs G.K c r E F st s) (h : CVs E F vs cs) :
  Abs G.K c r E ([(s.heap.objs.size, listOf cs.toArray 0)] ++ F) st { s with heap := s.heap.push (listOf cs.toArray 0) } ∧ CV E ([(s.heap.objs.size, listOf cs.toArray 0)] ++ F) (.lst vs) (.ref s.heap.objs.size) := by
 refine ⟨a.frz (tk := s.toks) (KB.push [] s.heap _) fun p hp => ?_, ?_⟩
 ·rw [List.mem_singleton] at hp
  subst hp
  exact ⟨Heap.get?_push_size _ rfl, Nat.le_refl _⟩
 ·simp only [CV]
  exact ⟨_, cs, listOf cs.toArray 0, rfl, by simp, ⟨rfl, 0, rfl⟩, CVs.grow (Grow.froz E F _) _ _ h⟩
theorem tup_frz {vs : List AV} {cs : List Value} (a : Abs G.K c r E F st s) (h : CVs E F vs cs) :
  Abs G.K c r E ([(s.heap.objs.size, tupObj cs 0)] ++ F) st { s with heap := s.heap.push (tupObj cs 0) } ∧ CV E ([(s.heap.objs.size, tupObj cs 0)] ++ F) (.tup vs) (.ref s.heap.objs.size) := by
 refine ⟨a.frz (tk := s.toks) (KB.push [] s.heap _) fun p hp => ?_, ?_⟩
 ·rw [List.mem_singleton] at hp
  subst hp
  exact ⟨Heap.get?_push_size _ rfl, Nat.le_refl _⟩
 ·simp only [CV]
  exact ⟨_, cs, 0, rfl, by simp, CVs.grow (Grow.froz E F _) _ _ h⟩
theorem Ev_list {es : List Expr} {pos : Pos} (h : Ea G c bud es pos (fun vs st1 => vs.length ≤ 1000 ∧ Q (.obj st1.H.length) { st1 with H := st1.H ++ [.list vs] }) R st) : Ev G c bud (.List es pos) Q R st := fun r E F s rk a =>
 wpP_List (wpP_mono (h r E F s rk a) (fun cs s1 ⟨E1, F1, st1, vs, g1, a1, c1, hz, q1⟩ =>
  ⟨by rw [c1.len, sizeLine_eq]; omega, let ⟨x, y⟩ := list_new a1 c1; ⟨_, _, _, _, g1.trans (Grow.own _ _ _), x, y, q1⟩⟩) fun _ _ z => z)
theorem Ev_listF {es : List Expr} {pos : Pos} (h : Ea G c bud es pos (fun vs st1 => vs.length ≤ 1000 ∧ Q (.lst vs) st1) R st) : Ev G c bud (.List es pos) Q R st := fun r E F s rk a =>
 wpP_List (wpP_mono (h r E F s rk a) (fun cs s1 ⟨E1, F1, st1, vs, g1, a1, c1, hz, q1⟩ =>
  ⟨by rw [c1.len, sizeLine_eq]; omega, let ⟨x, y⟩ := list_frz a1 c1; ⟨_, _, _, _, g1.trans (Grow.froz _ _ _), x, y, q1⟩⟩) fun _ _ z => z)
theorem Ev_tup {es : List Expr} {k : Nat} {pos : Pos} (h : Ea G c bud es pos (fun vs st1 => vs.length ≤ 1000 ∧ Q (.tup vs) st1) R st) : Ev G c bud (.Tuple es k pos) Q R st := fun r E F s rk a =>
 wpP_Tuple (wpP_mono (h r E F s rk a) (fun cs s1 ⟨E1, F1, st1, vs, g1, a1, c1, hz, q1⟩ =>
  .of (wpAny_newTuple (let ⟨x, y⟩ := tup_frz a1 c1; ⟨_, _, _, _, g1.trans (Grow.froz _ _ _), x, y, q1⟩) (by rw [c1.len, sizeLine_eq]; omega))) fun _ _ z => z)
variable (G c bud) in
noncomputable def Item (o i : AV) (Q : AV → St → Prop) (R : List UInt8 → St → Prop) (st : St) : Prop :=
 ∃ T id, typeLookup (.type T) "__getitem__" = pure (some (.builtin id)) ∧ ∀ r E F s co ci, RtOk G.K r bud → Abs G.K c r E F st s → CV E F o co → CV E F i ci →
  s.TypeIs co T ∧ wpAny (model G.prog G.w) (r.A c) (getItem co ci) (Post G c r E F Q) (Err G c r E F R) s
theorem Ev_sub {value slice : Expr} {pos : Pos} (h : Ev G c bud value (fun o st1 => Ev G c bud slice (fun i st2 => Item G c bud o i Q R st2) R st1) R st)
  (hs : ∀ o i, subscripted slice false o i = operate [o, i] (getItem o i) := by intro _ _; rfl) : Ev G c bud (.Subscript value slice pos) Q R st := fun r E F s rk a =>
 wpP_Subscript (wpP_mono (h r E F s rk a) (fun co s1 ⟨E1, F1, st1, o, g1, a1, c1, q1⟩ => wpP_mono (q1 r E1 F1 s1 rk a1) (fun ci s2 ⟨E2, F2, st2, i, g2, a2, c2, T, id, hl, q2⟩ =>
  let ⟨ty, w⟩ := q2 r E2 F2 s2 co ci rk a2 (CV.grow g2 _ _ c1) c2
  .of (tail_any ty hl (wpAny_mono w (fun _ _ => Post.back (g1.trans g2)) fun _ _ => Err.back (g1.trans g2)) (hs _ _))) fun _ _ => Err.back g1) fun _ _ z => z)
theorem Item_bytes {b : List UInt8} {i : Int} (n : Nat) {x : UInt8} (e : i = (n : Int)) (hb : b.length ≤ 1099511627776) (hx : b[n]? = some x) (q : Q (.int x.toNat) st) : Item G c bud (.bytes b) (.int i) Q R st :=
 ⟨"bytes", _, FB.slot_bytes_getitem.lookup, fun r E F s co ci rk a ho hi => by
  subst e
  simp only [CV] at ho hi
  obtain ⟨t, rfl⟩ := ho
  obtain ⟨u, rfl⟩ := hi
  have hn := (List.getElem?_eq_some_iff.mp hx).1
  refine ⟨typeIs_bytes _ _ _, getItem_bytes hb (by omega) (by omega) ?_⟩
  have : b.getD (n : Int).toNat 0 = x := by simp [List.getD, hx]
  rw [this]
  exact post_mk a (by simp [CV]) q⟩
theorem frz_list {vs : List AV} {co : Value} (a : Abs G.K c r E F st s) (h : CV E F (.lst vs) co) : ∃ l cs, co = .ref l ∧ s.heap.IsList l cs.toArray ∧ CVs E F vs cs := by
 simp only [CV] at h
 obtain ⟨l, cs, o, rfl, hm, ⟨h1, n, h2⟩, hc⟩ := h
 exact ⟨l, cs, rfl, ⟨o, a.hp.froz _ hm, h1, n, h2⟩, hc⟩
theorem own_list {k : Nat} {vs : List AV} {co : Value} (a : Abs G.K c r E F st s) (ho : st.H[k]? = some (.list vs)) (h : CV E F (.obj k) co) : ∃ l n cs, co = .ref l ∧ E[k]? = some [l] ∧ s.heap.get? l = some (listOf cs.toArray n) ∧ CVs E F vs cs := by
 simp only [CV] at h
 obtain ⟨b, rr, he, rfl⟩ := h
 obtain ⟨as, e2, l, n, cs, e3, h1, h2⟩ := a.hp.at ho
 rw [he] at e2; cases e2; cases e3
 exact ⟨b, n, cs, rfl, he, h1, h2⟩
theorem isList_of {h : Heap} {l : Addr} {cs : List Value} {n : Nat} (e : h.get? l = some (listOf cs.toArray n)) : h.IsList l cs.toArray := ⟨_, e, rfl, n, rfl⟩
theorem frz_tup {vs : List AV} {co : Value} (a : Abs G.K c r E F st s) (h : CV E F (.tup vs) co) : ∃ l cs, co = .ref l ∧ IsTup s.heap l cs.toArray ∧ CVs E F vs cs := by
 simp only [CV] at h
 obtain ⟨l, cs, n, rfl, hm, hc⟩ := h
 exact ⟨l, cs, rfl, ⟨_, a.hp.froz _ hm, rfl, n, rfl⟩, hc⟩
theorem Item_lst {vs : List AV} {i : Int} (n : Nat) {x : AV} (e : i = (n : Int)) (hn : n < 1000000) (hx : vs[n]? = some x) (q : Q x st) : Item G c bud (.lst vs) (.int i) Q R st :=
 ⟨"list", _, slot_list_getitem.lookup, fun r E F s co ci rk a ho hi => by
  subst e
  obtain ⟨l, cs, rfl, hl, hc⟩ := frz_list a ho
  simp only [CV] at hi
  obtain ⟨u, rfl⟩ := hi
  obtain ⟨cx, e1, h1⟩ := hc.get hx
  exact ⟨hl.typeIs, wpAny_getItem_list hl (by omega) (by omega) (by simpa using e1) (post_mk0 a h1 q)⟩⟩
theorem Item_list {k : Nat} {vs : List AV} {i : Int} (n : Nat) {x : AV} (ho : st.H[k]? = some (.list vs)) (e : i = (n : Int)) (hn : n < 1000000) (hx : vs[n]? = some x) (q : Q x st) : Item G c bud (.obj k) (.int i) Q R st :=
 ⟨"list", _, slot_list_getitem.lookup, fun r E F s co ci rk a hk hi => by
  subst e
  obtain ⟨l, m, cs, rfl, he, h2, hc⟩ := own_list a ho hk
  simp only [CV] at hi
  obtain ⟨u, rfl⟩ := hi
  obtain ⟨cx, e1, h1⟩ := hc.get hx
  exact ⟨(isList_of h2).typeIs, wpAny_getItem_list (isList_of h2) (by omega) (by omega) (by simpa using e1) (post_mk0 a h1 q)⟩⟩
theorem Item_last {k : Nat} {vs : List AV} {x : AV} (ho : st.H[k]? = some (.list vs)) (hx : vs.getLast? = some x) (q : Q x st) : Item G c bud (.obj k) (.int (-1)) Q R st :=
 ⟨"list", _, slot_list_getitem.lookup, fun r E F s co ci rk a hk hi => by
  obtain ⟨l, m, cs, rfl, he, h2, hc⟩ := own_list a ho hk
  simp only [CV] at hi
  obtain ⟨u, rfl⟩ := hi
  rw [List.getLast?_eq_getElem?] at hx
  have h0 := (List.getElem?_eq_some_iff.mp hx).1
  obtain ⟨cx, e1, h1⟩ := hc.get hx
  have hl := hc.len
  refine ⟨(isList_of h2).typeIs, wpAny_getItem_list_neg (isList_of h2) (by omega) (by simp only [List.size_toArray]; omega) (by omega) ?_ (post_mk0 a h1 q)⟩
  have : ((-1 : Int) + (cs.toArray.size : Int)).toNat = vs.length - 1 := by simp only [List.size_toArray]; omega
  rw [this]; simpa using e1⟩
theorem Item_tup {vs : List AV} {i : Int} (n : Nat) {x : AV} (e : i = (n : Int)) (hn : n < 1000000) (hx : vs[n]? = some x) (q : Q x st) : Item G c bud (.tup vs) (.int i) Q R st :=
 ⟨"tuple", _, slot_tuple_getitem.lookup, fun r E F s co ci rk a ho hi => by
  subst e
  obtain ⟨l, cs, rfl, hl, hc⟩ := frz_tup a ho
  simp only [CV] at hi
  obtain ⟨u, rfl⟩ := hi
  obtain ⟨cx, e1, h1⟩ := hc.get hx
  have hn' := (List.getElem?_eq_some_iff.mp e1).1
  exact ⟨hl.typeIs, getItem_tuple hl (by omega) (by omega) (by rw [seqIndex_of (by omega) (by simp only [List.size_toArray]; omega)]) (by simpa using e1) (post_mk0 a h1 q)⟩⟩
theorem Item_tupK {p : Addr} {cs : List Value} {o : Obj} {m : Nat} {i : Int} (n : Nat) {x : AV} {v : Value} (hp : G.K.lookup p = some o) (ht : o.cls = .type "tuple") (hd : o.data = .seq cs.toArray m) (e : i = (n : Int)) (hn : n < 1000000) (hx : cs[n]? = some v) (hv : ∀ E F, CV E F x v) (q : Q x st) :
  Item G c bud (.val (.ref p)) (.int i) Q R st :=
 ⟨"tuple", _, slot_tuple_getitem.lookup, fun r E F s co ci rk a ho hi => by
  subst e
  simp only [CV] at ho hi
  subst ho
  obtain ⟨u, rfl⟩ := hi
  have hl : IsTup s.heap p cs.toArray := ⟨o, (a.sta rk).k _ _ hp, ht, m, hd⟩
  have hn' := (List.getElem?_eq_some_iff.mp hx).1
  exact ⟨hl.typeIs, getItem_tuple hl (by omega) (by omega) (by rw [seqIndex_of (by omega) (by simp only [List.size_toArray]; omega)]) (by simpa using hx) (post_mk0 a (hv E F) q)⟩⟩
variable (G c bud) in
noncomputable def Eo (x : Option Expr) (Q : AV → St → Prop) (R : List UInt8 → St → Prop) (st : St) : Prop :=
 ∀ r E F s, RtOk G.K r bud → Abs G.K c r E F st s → wpP G.P (model G.prog G.w) (r.A c) (evalPart x (c.env r.L)) (Post G c r E F Q) (Err G c r E F R) s
theorem Eo_none (q : Q .none st) : Eo G c bud none Q R st := fun r E F s rk a => wpP_pure (post_mk0 a (by simp [CV]) q)
theorem Eo_some {e : Expr} (h : Ev G c bud e Q R st) : Eo G c bud (some e) Q R st := h
variable (G c bud) in
noncomputable def Cut (value : Expr) (o lo hi : AV) (Q : AV → St → Prop) (R : List UInt8 → St → Prop) (st : St) : Prop :=
 ∀ (l u : Option Expr) (p : Pos) r E F s co cl cu, RtOk G.K r bud → Abs G.K c r E F st s → CV E F o co → CV E F lo cl → CV E F hi cu →
  wpAny (model G.prog G.w) (r.A c) (subscriptTail value (.Slice l u none p) co (.ref s.heap.objs.size)) (Post G c r E F Q) (Err G c r E F R) { s with heap := s.heap.push { cls := .type "slice", data := .fields #[cl, cu, .none] } }
theorem Ev_cut {value : Expr} {lo hi : Option Expr} {p pos : Pos} (h : Ev G c bud value (fun o st1 => Eo G c bud lo (fun l st2 => Eo G c bud hi (fun u st3 => Cut G c bud value o l u Q R st3) R st2) R st1) R st) :
  Ev G c bud (.Subscript value (.Slice lo hi none p) pos) Q R st := fun r E F s rk a =>
 wpP_Subscript (wpP_mono (h r E F s rk a) (fun co s1 ⟨E1, F1, st1, o, g1, a1, c1, q1⟩ => wpP_Slice (wpP_mono (q1 r E1 F1 s1 rk a1) (fun cl s2 ⟨E2, F2, st2, l, g2, a2, c2, q2⟩ =>
  wpP_mono (q2 r E2 F2 s2 rk a2) (fun cu s3 ⟨E3, F3, st3, u, g3, a3, c3, q3⟩ => by
   show wpP _ _ _ (pure Value.none) _ _ _
   refine wpP_pure ?_
   exact .of (wpAny_mono (q3 lo hi p r E3 F3 s3 co cl cu rk a3 (CV.grow (g2.trans g3) _ _ c1) (CV.grow g3 _ _ c2) c3) (fun _ _ => Post.back ((g1.trans g2).trans g3)) fun _ _ => Err.back ((g1.trans g2).trans g3)))
   fun _ _ => Err.back (g1.trans g2)) fun _ _ => Err.back g1)) fun _ _ z => z)
theorem Cut_bytes {value : Expr} {b : List UInt8} {l u : AV} {lo hi : Option Nat} (hl : PartA l lo) (hu : PartA u hi) (hz : b.length ≤ 16777216) (q : Q (.bytes (cutL lo hi b)) st) : Cut G c bud value (.bytes b) l u Q R st := fun xl xu p r E F s co cl cu rk a ho h1 h2 => by
 simp only [CV] at ho
 obtain ⟨t, rfl⟩ := ho
 refine tail_of_ItemOn ⟨"bytes", _, FB.slot_bytes_getitem.lookup, typeIs_bytes _ _ _, getItem_meets (typeIs_bytes _ _ _) (by decide) FB.slot_bytes_getitem FB.entry_bytes_getitem (FB.args_bytes_getitem_2 _ _) (KBc.meets_slice2 b.toArray t _ (hl.is h1) (hu.is h2))
  ⟨Heap.IsSliceOf.new _ _ _ _, Nat.le_trans (KBc.size_picked_le _ _ _) (by rw [sizeLine_eq]; simpa using hz), fun t' k => ?_⟩⟩ rfl (fun r => ltg_bytes r)
 rw [picked_cut]
 have a1 := a.step0 (tk := k) (KB.push [] s.heap { cls := .type "slice", data := .fields #[cl, cu, .none] })
 exact post_mk0 a1 (by simp [CV]) q
theorem Cut_lst {value : Expr} {vs : List AV} {l u : AV} {lo hi : Option Nat} (hl : PartA l lo) (hu : PartA u hi) (hz : vs.length ≤ 16777216) (q : Q (.lst (cutL lo hi vs)) st) : Cut G c bud value (.lst vs) l u Q R st := fun xl xu p r E F s co cl cu rk a ho h1 h2 => by
 have a1 := a.step0 (tk := s.toks) (KB.push [] s.heap { cls := .type "slice", data := .fields #[cl, cu, .none] })
 obtain ⟨x, cs, rfl, hx, hc⟩ := frz_list a ho
 refine tail_any (Heap.IsList.typeIs (s := { s with heap := s.heap.push { cls := .type "slice", data := .fields #[cl, cu, .none] } }) (hx.push _)) slot_list_getitem.lookup
  (wpAny_getItem_list_slice (hx.push _) (Heap.IsSliceOf.new ..) (hl.is h1) (hu.is h2) .none (by simp) ?_ (by rw [List.size_toArray, hc.len, sizeLine_eq]; omega)) rfl
 rw [pick_cut]
 obtain ⟨y, z⟩ := list_frz a1 (hc.cutL lo hi)
 exact ⟨_, _, _, _, Grow.froz _ _ _, y, z, q⟩
end
end
section
structure Wk (prog : Program) (w : World) (A : Around) (target : Expr) (I : Addr) (wr : List Addr) (vals : List AV) (fz : Addr → Prop) (E₀ : Own) (F₀ : Led) (S : Nat → Heap → Prop) : Prop where
 frame : ∀ i h h', S i h → (∀ b, b ∈ wr ∨ fz b → ∀ o, h.get? b = some o → h'.get? b = some o) → S i h'
 live : ∀ i h, S i h → ∀ b ∈ wr, ∃ o, h.get? b = some o
 item : ∀ i v (s : Shared) (Q : Value → Shared → Prop) (E : Value → Shared → Prop), vals[i]? = some v → S i s.heap →
  (∀ cv h' tk X, S (i + 1) h' → (∀ b o, b ∉ wr → s.heap.get? b = some o → h'.get? b = some o) → (∀ p ∈ X, h'.get? p.1 = some p.2 ∧ s.heap.objs.size ≤ p.1) → CV E₀ (X ++ F₀) v cv → Q cv { s with heap := h', toks := tk }) →
  wpAny (model prog w) A (pyNext (.ref I)) (fun rv s1 => ∃ cv, rv = some cv ∧ wpAny (model prog w) A (letOwnedTupleGo target (.ref I) cv) (fun _ s2 => Q cv s2) E s1) E s
 done : ∀ (s : Shared) (Q : Option Value → Shared → Prop) (E : Value → Shared → Prop), S vals.length s.heap →
  (∀ h' tk, (∀ b o, b ∉ wr → s.heap.get? b = some o → h'.get? b = some o) → Q none { s with heap := h', toks := tk }) → wpAny (model prog w) A (pyNext (.ref I)) Q E s
theorem Wk.item' {prog : Program} {w : World} {A : Around} {target : Expr} {I : Addr} {wr : List Addr} {vals : List AV} {fz : Addr → Prop} {E₀ : Own} {F₀ : Led} {S : Nat → Heap → Prop} (W : Wk prog w A target I wr vals fz E₀ F₀ S)
  {i : Nat} {v : AV} {s : Shared} {PP : CP} {N : Shared → Prop} {P : Value → Shared → Prop} {Er : Value → Shared → Prop} (hv : vals[i]? = some v) (hS : S i s.heap)
  (h : ∀ cv h' tk X, S (i + 1) h' → (∀ b o, b ∉ wr → s.heap.get? b = some o → h'.get? b = some o) → (∀ p ∈ X, h'.get? p.1 = some p.2 ∧ s.heap.objs.size ≤ p.1) → CV E₀ (X ++ F₀) v cv → P cv { s with heap := h', toks := tk }) :
  wpP PP (model prog w) A (pyNext (.ref I)) (fun rv s1 => match rv with | none => N s1 | some cv => wpP PP (model prog w) A (letOwnedTupleGo target (.ref I) cv) (fun _ s2 => P cv s2) Er s1) Er s :=
 .of (wpAny_mono (W.item i v s P Er hv hS h) (fun rv s2 ⟨cv, e, q⟩ => by subst e; exact .of q) fun _ _ z => z)
theorem snap {h : Heap} : ∀ {wr : List Addr}, (∀ b ∈ wr, ∃ o, h.get? b = some o) → ∃ os : List Obj, wr.map h.get? = os.map some
 | [], _ => ⟨[], rfl⟩
 | b :: wr, k => by
  obtain ⟨o, e⟩ := k b (by simp)
  obtain ⟨os, q⟩ := snap (wr := wr) fun b hb => k b (by simp [hb])
  exact ⟨o :: os, by simp [e, q]⟩
theorem snap_eq {h h' : Heap} : ∀ {wr : List Addr} {os : List Obj}, wr.map h.get? = os.map some → wr.map h'.get? = os.map some → ∀ b ∈ wr, h.get? b = h'.get? b := fun {wr os} e1 e2 b hb => by
 have : wr.map h.get? = wr.map h'.get? := e1.trans e2.symm
 exact List.map_inj_left.mp this b hb
section
variable {K : Frag} {c : FnC} {r : Rt} {E : Own} {F : Led} {st : St} {s : Shared}
theorem Abs.led (x : Abs K c r E F st s) {X : Led} (hX : ∀ p ∈ X, s.heap.get? p.1 = some p.2 ∧ p.1 ∉ E.flatten ∧ p.1 ∉ r.fs) : Abs K c r E (X ++ F) st s :=
 {x with
  ns := let ⟨m, a, b⟩ := x.ns; ⟨m, a, b.grow (Grow.froz E F X)⟩
  hp := { x.hp with
   offF := fun p hp => by
    rcases List.mem_append.mp hp with hp | hp
    ·exact ⟨fun k as e1 e2 => ((hX p hp).2.1 (List.mem_flatten.mpr ⟨as, List.mem_of_getElem? e1, e2⟩)).elim, (hX p hp).2.2⟩
    ·exact x.hp.offF p hp
   froz := fun p hp => by
    rcases List.mem_append.mp hp with hp | hp
    ·exact (hX p hp).1
    ·exact x.hp.froz p hp
   rep := fun i o as e1 e2 => (x.hp.rep i o as e1 e2).grow (Grow.froz E F X) } }
theorem LocOK.cut {E : Own} {F : Led} {m : Str → Option Value} {ns : List Str} {n : Nat} : ∀ {vs : List AV}, LocOK E F m ns vs → ltL n vs → LocOK (E.take n) F m ns vs := by
 intro vs h l
 refine ⟨h.1, fun i x v a b => ?_⟩
 have : ∀ {vs : List AV} {i : Nat} {v : AV}, Nth vs i v → ltL n vs → v.lt n := by
  intro vs i v q
  induction q with
  | z => exact fun h => h.1
  | s _ ih => exact fun h => ih h.2
 exact (h.2 i x v a b).imp id fun ⟨cv, e, q⟩ => ⟨cv, e, CV.cut n v cv q (this b l)⟩
theorem Abs.drop1 {vs : List AV} {H1 : List AO} {os : List Obj} (x : Abs K c r E F ⟨vs, H1 ++ [.raw os]⟩ s) {bud : Nat} (rk : RtOk K r bud) {wr : List Addr} (e : E[H1.length]? = some wr) (hv : ltL H1.length vs) (hH : ∀ o ∈ H1, o.lt H1.length) {h' : Heap} {tk : Nat}
  (kb : ∀ b o, b ∉ wr → s.heap.get? b = some o → h'.get? b = some o) : Abs K c r (E.take H1.length) F ⟨vs, H1⟩ { s with heap := h', toks := tk } := by
 have off : ∀ a ∈ wr, a ∈ E.flatten := fun a ha => List.mem_flatten.mpr ⟨wr, List.mem_of_getElem? e, ha⟩
 have nf : ∀ a ∈ r.fs, a ∉ wr := fun a ha q => (x.hp.offE _ (off _ q)).1 ha
 obtain ⟨m, hn, hl⟩ := x.ns
 obtain ⟨oL, hoL, hns⟩ := ns_iff.mp hn
 have hL' := kb _ _ (nf _ (by simp [Rt.fs])) hoL
 have hf : ∀ a ∈ frs r.outer, ∃ o, r.s₀.heap.get? a = some o := fun a ha => let ⟨_, o, q, _⟩ := rk.ff.mem ha; ⟨o, q⟩
 have hc := x.hp.cut fun i o q => hH o (List.mem_of_getElem? q)
 have offT : ∀ a ∈ (E.take H1.length).flatten, a ∉ wr := fun a ha q => by
  obtain ⟨bs, h1, h2⟩ := List.mem_flatten.mp ha
  obtain ⟨k, hk⟩ := List.mem_iff_getElem?.mp h1
  have hk1 : k < H1.length := by
   have := (List.getElem?_eq_some_iff.mp hk).1
   simp at this; omega
  rw [List.getElem?_take_of_lt hk1] at hk
  exact flat_off x.hp.nd e hk (by omega) a h2 q
 have offW : ∀ p ∈ F, p.1 ∉ wr := fun p hp q => by
  have := (x.hp.offF p hp).1 _ _ e q
  simp at this
 refine ⟨⟨m, ns_iff.mpr ⟨oL, hL', hns⟩, hl.cut hv⟩, ?_, fun b o q => ?_, fun a ha o q => ?_, fun a ha => ?_, Nat.le_of_lt (Heap.lt_size hL'), x.gens, x.drawn, x.os⟩
 ·exact {
   len := hc.len
   nd := hc.nd
   offE := fun a ha => ⟨(hc.offE a ha).1, let ⟨o, z⟩ := hc.live ha; Heap.lt_size (kb _ _ (offT a ha) z)⟩
   offF := hc.offF
   froz := fun p hp => kb _ _ (offW p hp) (hc.froz p hp)
   ltf := fun a ha => by
    rcases List.mem_cons.mp ha with rfl | ha
    ·exact Heap.lt_size hL'
    ·obtain ⟨o, q⟩ := hf a ha
     obtain ⟨sl, z⟩ := x.frm a ha o q
     exact Heap.lt_size (kb _ _ (nf a (by simp [Rt.fs, ha])) z)
   rep := fun i o as e1 e2 => RepO.keep' kb (fun a ha => offT a (List.mem_flatten.mpr ⟨as, List.mem_of_getElem? e2, ha⟩)) (hc.rep i o as e1 e2) }
 ·exact kb _ _ (fun z => by rw [Rt.g_own (x.fresh _ (off _ z))] at q; cases q) (x.keep b o q)
 ·obtain ⟨sl, z⟩ := x.frm a ha o q
  exact ⟨sl, kb _ _ (nf a (by simp [Rt.fs, ha])) z⟩
 ·refine x.fresh a ?_
  rw [← List.take_append_drop H1.length E, List.flatten_append]
  exact List.mem_append_left _ ha
end
section
variable {G : Gl} {c : FnC} {bud : Nat} {Q : Fl → St → Prop} {R : List UInt8 → St → Prop} {st : St} {r : Rt} {E E' : Own} {F F' : Led} {s : Shared}
inductive ItPost (G : Gl) (c : FnC) (r : Rt) (E : Own) (F : Led) (target : Expr) (QI : List AV → St → Prop) (it : Value) (s2 : Shared) : Prop
 | mk (E1 : Own) (F1 : Led) (st1 : St) (vals : List AV) (It : Addr) (wr : List Addr) (S : Nat → Heap → Prop) (s1 : Shared) (h' : Heap) (tk : Nat) (h1 : it = .ref It) (g : Grow E F E1 F1) (x : Abs G.K c r E1 F1 st1 s1) (h2 : s2 = { s1 with heap := h', toks := tk }) (kb : KB [] s1.heap h') (h3 : wr.Nodup) (h4 : ∀ a ∈ wr, s1.heap.objs.size ≤ a ∧ a < h'.objs.size)
  (w : ∀ E' F', Grow E1 F1 E' F' → Wk G.prog G.w (r.A c) target It wr vals (fun b => ∃ p ∈ F1, p.1 = b) E' F' S) (h5 : S 0 h') (q : QI vals st1) : ItPost G c r E F target QI it s2
theorem ItPost.back {target : Expr} {QI : List AV → St → Prop} (g : Grow E F E' F') {v : Value} (h : ItPost G c r E' F' target QI v s) : ItPost G c r E F target QI v s :=
 let ⟨E1, F1, st1, vals, It, wr, S, s1, h', tk, e, g1, x, x1, x2, x3, x4, x5, x6, x7⟩ := h; ⟨E1, F1, st1, vals, It, wr, S, s1, h', tk, e, g.trans g1, x, x1, x2, x3, x4, x5, x6, x7⟩
noncomputable def Evi (G : Gl) (c : FnC) (bud : Nat) (target iter : Expr) (QI : List AV → St → Prop) (R : List UInt8 → St → Prop) (st : St) : Prop :=
 ∀ r E F s, RtOk G.K r bud → Abs G.K c r E F st s → wpP G.P (model G.prog G.w) (r.A c) (eval iter (c.env r.L)) (fun cx s1 => wpP G.P (model G.prog G.w) (r.A c) (pyIter cx) (ItPost G c r E F target QI) (Err G c r E F R) s1) (Err G c r E F R) s
noncomputable def Itr (G : Gl) (c : FnC) (bud : Nat) (target : Expr) (x : AV) (QI : List AV → St → Prop) (st : St) : Prop :=
 ∀ r E F s cx Er, RtOk G.K r bud → Abs G.K c r E F st s → CV E F x cx → wpAny (model G.prog G.w) (r.A c) (pyIter cx) (ItPost G c r E F target QI) Er s
theorem Evi_of {target iter : Expr} {QI : List AV → St → Prop} (h : Ev G c bud iter (fun xv st1 => Itr G c bud target xv QI st1) R st) : Evi G c bud target iter QI R st := fun r E F s rk a =>
 wpP_mono (h r E F s rk a) (fun cx s1 ⟨E1, F1, st1, xv, g1, a1, c1, q1⟩ => wpP.of (wpAny_mono (q1 r E1 F1 s1 cx _ rk a1 c1) (fun _ _ => ItPost.back g1) fun _ _ z => z)) fun _ _ z => z
variable (G c bud) in
noncomputable def Asg (target : Expr) (v : AV) (QU : St → Prop) (R : List UInt8 → St → Prop) (st : St) : Prop :=
 ∀ r E F s cv, RtOk G.K r bud → Abs G.K c r E F st s → CV E F v cv → wpP G.P (model G.prog G.w) (r.A c) (assign target (c.env r.L) cv) (PostU G c r E F QU) (Err G c r E F R) s
theorem Asg_name {x : Str} {p : Pos} {v : AV} {QU : St → Prop} (i : Nat) (ok : c.Ok) (hx : Nth c.ns i x) (q : QU { st with vs := st.vs.set i v }) : Asg G c bud (.Name x p) v QU R st := fun r E F s cv rk a hv =>
 .of (wpAny_assign_Name (store_l ok hx a hv q))
inductive EInv (G : Gl) (c : FnC) (r : Rt) (E : Own) (F : Led) (vals : List AV) (I : Nat → St → Prop) (S : Nat → Heap → Prop) (n : Nat) (s' : Shared) : Prop
 | mk (E2 : Own) (F2 : Led) (st2 : St) (i : Nat) (os : List Obj) (h1 : Grow E F E2 F2) (h2 : Abs G.K c r E2 F2 ⟨st2.vs, st2.H ++ [.raw os]⟩ s') (h3 : I i st2) (h4 : i + n = vals.length) (h5 : S i s'.heap) : EInv G c r E F vals I S n s'
theorem Es_for {target iter : Expr} {body : List Stmt} {pos : Pos} (I : Nat → St → Prop) (k : Nat) (ok : c.Ok)
  (h : Evi G c bud target iter (fun vals st1 => st1.H.length = k ∧ I 0 st1 ∧
   (∀ i st2, I i st2 → st2.H.length = k) ∧
   (∀ i v st2 os, vals[i]? = some v → I i st2 → Asg G c bud target v (fun st3 => Ex G c bud body (fun f st4 => match f with
    | .next => ∃ H4, st4.H = H4 ++ [.raw os] ∧ H4.length = k ∧ I (i + 1) ⟨st4.vs, H4⟩
    | .ret v => Q (.ret v) st4) R st3) R ⟨st2.vs, st2.H ++ [.raw os]⟩) ∧
   (∀ st2, I vals.length st2 → ltL k st2.vs ∧ (∀ o ∈ st2.H, o.lt k) ∧ Q .next st2)) R st)
  (hs : ∀ env x, foldedSetIterable iter env x = pure x := by intro _ _; rfl) : Es G c bud (.For target iter body [] pos) Q R st := fun r E F s rk a => by
 refine wpP_For (hs := hs _) (wpP_mono (h r E F s rk a) (fun cx s1 hq => wpP_mono hq (fun it s2 hp => ?_) fun _ _ z => z) fun _ _ z => z)
 obtain ⟨E1, F1, st1, vals, It, wr, S, s1, h', tk, rfl, g1, a1, rfl, kb, hnd, hwr, W, hS, hk, h0, hlen, turn, fin⟩ := hp
 obtain ⟨os, hos⟩ := snap ((W E1 F1 (Grow.refl _ _)).live 0 h' hS)
 have a2 := a1.new (tk := tk) (as := wr) (o := .raw os) kb hnd hwr hos
 have g2 : Grow E1 F1 (E1 ++ [wr]) F1 := Grow.own E1 [wr] F1
 have hE1 : E1.length = k := by rw [a1.hp.len, hk]
 refine codeP_forLoop (EInv G c r (E1 ++ [wr]) F1 vals I S) ?_ vals.length
  ⟨_, _, st1, 0, os, Grow.refl _ _, a2, h0, by simp, hS⟩
 rintro n s' ⟨E2, F2, st2, i, os2, g3, a3, hI, hin, hS2⟩
 have hk2 : E2[k]? = some wr := by
  have := g3.get (k := k) (as := wr) (by rw [← hE1]; simp)
  exact this
 have hl2 := hlen i st2 hI
 have hFz : ∀ b, (∃ p ∈ F1, p.1 = b) → ∀ {E3 F3 : _} {st3 : St} {s3 : Shared}, Grow (E1 ++ [wr]) F1 E3 F3 → Abs G.K c r E3 F3 st3 s3 → ∃ o, (b, o) ∈ F1 ∧ s3.heap.get? b = some o := by
  rintro b ⟨p, hp, rfl⟩ E3 F3 st3 s3 g y
  exact ⟨p.2, hp, y.hp.froz _ (g.2 _ hp)⟩
 cases hv : vals[i]? with
 | none =>
  have hiN : i = vals.length := by
   exact Nat.le_antisymm (hin ▸ Nat.le_add_right i n) (List.getElem?_eq_none_iff.mp hv)
  subst hiN
  obtain ⟨f1, f2, f3⟩ := fin st2 hI
  refine .of ((W E2 F2 (g2.trans g3)).done s' _ _ hS2 fun h3 tk3 kb3 => ?_)
  have a4 := a3.drop1 rk (wr := wr) (h' := h3) (tk := tk3) (by rw [hl2]; exact hk2) (by rw [hl2]; exact f1) (by rw [hl2]; exact f2) kb3
  refine ⟨_, F2, st2, .next, ?_, a4, rfl, f3⟩
  refine g1.trans ?_
  obtain ⟨⟨X, e⟩, k2⟩ := g3
  exact ⟨⟨[], by rw [hl2, e, List.append_assoc, ← hE1, List.take_left']; simp; rfl⟩, k2⟩
 | some v =>
  refine (W E2 F2 (g2.trans g3)).item' hv hS2 fun cv h3 tk3 X hS3 kb3 hX hcv => ?_
  obtain ⟨os3, hos3⟩ := snap ((W E2 F2 (g2.trans g3)).live _ _ hS3)
  have a4 := a3.loose rk (h' := h3) (tk := tk3) (k := k) (as := wr) (o' := .raw os3) hk2 (by simp [← hl2]) kb3 hos3
  have e4 : (st2.H ++ [AO.raw os2]).set k (.raw os3) = st2.H ++ [.raw os3] := by rw [← hl2]; simp
  dsimp only at a4
  rw [e4] at a4
  have hlt : ∀ a, Prot r E2 F2 a → a < s'.heap.objs.size := fun a => a3.prot_lt
  have a5 := a4.led (X := X) fun p hp => ⟨(hX p hp).1, fun q => noLt (hX p hp).2 (hlt _ (.inr (.inl q))), fun q => noLt (hX p hp).2 (hlt _ (.inl q))⟩
  have g5 : Grow E2 F2 E2 (X ++ F2) := Grow.froz E2 F2 X
  have gE : Grow E F E2 (X ++ F2) := ((g1.trans g2).trans g3).trans g5
  refine wpP_mono (turn i v st2 os3 hv hI r E2 (X ++ F2) _ cv rk a5 hcv) (fun _ s4 ⟨E4, F4, st4, g6, a6, q6⟩ => ?_) fun e s4 z => Err.passes ok rk e s4 (Err.back gE z)
  refine wpP_mono (q6 r E4 F4 s4 rk a6) (fun f s5 ⟨E5, F5, st5, fl, g7, a7, hfl, q7⟩ => ?_) fun e s5 z => Err.passes ok rk e s5 (Err.back (gE.trans g6) z)
  have gT : Grow (E1 ++ [wr]) F1 E5 F5 := ((g3.trans g5).trans g6).trans g7
  cases fl with
  | next =>
   cases hfl
   obtain ⟨H4, eH, hl4, hI4⟩ := q7
   have a7' : Abs G.K c r E5 F5 ⟨st5.vs, H4 ++ [.raw os3]⟩ s5 := by rw [← eH]; exact a7
   have hk5 : E5[k]? = some wr := (g6.trans g7).get (g5.get hk2)
   have hos5 : wr.map s5.heap.get? = os3.map some := by
    obtain ⟨as, e1, z⟩ := a7'.hp.at (k := k) (o := .raw os3) (by rw [← hl4]; simp)
    rw [hk5] at e1; cases e1; exact z
   refine ⟨n - 1, ?_, E5, F5, ⟨st5.vs, H4⟩, i + 1, os3, gT, a7', hI4, ?_, (W E2 F2 (g2.trans g3)).frame _ _ _ hS3 fun b hb o e => ?_⟩
   ·have := (List.getElem?_eq_some_iff.mp hv).1
    omega
   ·have := (List.getElem?_eq_some_iff.mp hv).1
    omega
   ·rcases hb with hb | hb
    ·rw [← snap_eq hos3 hos5 b hb]; exact e
    ·obtain ⟨o2, m2, z2⟩ := hFz b hb gT a7'
     have z3 : h3.get? b = some o2 := a5.hp.froz _ (List.mem_append_right _ (g3.2 _ m2))
     rw [z3] at e; cases e
     exact z2
  | ret v =>
   obtain ⟨cv, rfl, hcv⟩ := hfl
   exact ⟨E5, F5, st5, .ret v, (g1.trans g2).trans gT, a7, ⟨cv, rfl, hcv⟩, q7⟩
theorem Es_while {test : Expr} {body : List Stmt} {pos : Pos} (I : Nat → St → Prop) (n : Nat) (ok : c.Ok) (h0 : I n st)
  (turn : ∀ n st1, I n st1 → Et G c bud test (fun b st2 => (b = true → Ex G c bud body (fun f st3 => match f with
    | .next => ∃ m, m < n ∧ I m st3
    | .ret v => Q (.ret v) st3) R st2) ∧ (b = false → Q .next st2)) R st1) : Es G c bud (.While test body [] pos) Q R st := fun r E F s rk a => by
 refine wpP_While (codeP_whileLoop (fun n s' => ∃ E1 F1 st1, Grow E F E1 F1 ∧ Abs G.K c r E1 F1 st1 s' ∧ I n st1) ?_ n ⟨E, F, st, Grow.refl _ _, a, h0⟩)
 rintro n s' ⟨E1, F1, st1, g1, a1, hI⟩
 refine wpP_mono (turn n st1 hI r E1 F1 s' rk a1) (fun b s2 ⟨E2, F2, st2, g2, a2, q1, q2⟩ => ?_) fun e s2 z => Err.passes ok rk e s2 (Err.back g1 z)
 cases b with
 | true =>
  rw [if_pos rfl]
  refine wpP_mono (q1 rfl r E2 F2 s2 rk a2) (fun f s3 ⟨E3, F3, st3, fl, g3, a3, hfl, q3⟩ => ?_) fun e s3 z => Err.passes ok rk e s3 (Err.back (g1.trans g2) z)
  cases fl with
  | next =>
   cases hfl
   obtain ⟨m, hm, hI3⟩ := q3
   exact ⟨m, hm, E3, F3, st3, (g1.trans g2).trans g3, a3, hI3⟩
  | ret v =>
   obtain ⟨cv, rfl, hcv⟩ := hfl
   exact ⟨E3, F3, st3, .ret v, (g1.trans g2).trans g3, a3, ⟨cv, rfl, hcv⟩, q3⟩
 | false =>
  rw [if_neg (by decide)]
  exact ⟨E2, F2, st2, .next, g1.trans g2, a2, rfl, q2 rfl⟩
end
end
section
section
variable {G : Gl} {c : FnC} {bud : Nat} {Q : Fl → St → Prop} {R : List UInt8 → St → Prop} {st : St} {r : Rt} {E E' : Own} {F F' : Led} {s : Shared}
theorem Wk.of {prog : Program} {w : World} {A : Around} {x : Str} {px : Pos} {I : Addr} {fp wr : List Addr} {n : Nat} {P : Nat → Value → Prop} {St : Nat → Heap → Prop} (W : Walks prog w A I fp wr n P St) {vals : List AV} {fz : Addr → Prop} {E₀ : Own} {F₀ : Led}
  (hn : n = vals.length) (hf : ∀ b ∈ fp, b ∈ wr ∨ fz b) (hl : ∀ i h, St i h → ∀ b ∈ wr, ∃ o, h.get? b = some o) (hP : ∀ i v cv, vals[i]? = some v → P i cv → CV E₀ F₀ v cv) : Wk prog w A (.Name x px) I wr vals fz E₀ F₀ St where
 frame i h h' hS k := W.frame i h h' hS fun b hb o e => k b (hf b hb) o e
 live := hl
 item i v s Q E hv hS h := W.item i s _ E (by rw [hn]; exact (List.getElem?_eq_some_iff.mp hv).1) hS fun cv h' tk p1 p2 p3 => ⟨cv, rfl, wpAny_pure (h cv h' tk [] p2 p3 (by simp) (hP i v cv hv p1))⟩
 done s Q E hS h := W.done s Q E (hn ▸ hS) h
theorem Itr_bytes {x : Str} {px : Pos} {b : List UInt8} {QI : List AV → St → Prop} (q : QI (b.map fun c => .int c.toNat) st) : Itr G c bud (.Name x px) (.bytes b) QI st := fun r E F s cx Er rk a hc => by
 simp only [CV] at hc
 obtain ⟨t, rfl⟩ := hc
 refine KBw.pyIter_bytes ⟨E, F, st, _, _, [s.heap.objs.size], fun i h => KBw.IsBytesIter h s.heap.objs.size b.toArray t i, s, _, s.toks, rfl, Grow.refl _ _, a, rfl, KB.push [] s.heap _, by simp, fun a ha => ?_, fun E' F' g => ?_, ⟨_, Heap.get?_push_size _ rfl, rfl, rfl⟩, q⟩
 ·rw [List.mem_singleton] at ha
  subst ha
  rw [Heap.size_push]
  exact ⟨Nat.le_refl _, Nat.lt_succ_self _⟩
 ·refine Wk.of (KBw.walks (A := r.A c) rk.hd _ _ _) (by simp) (fun b hb => .inl hb) (fun i h hS b hb => ?_) fun i v cv hv ⟨ch, u, h1, h2⟩ => ?_
  ·rw [List.mem_singleton] at hb
   subst hb
   obtain ⟨o, e, _⟩ := hS
   exact ⟨o, e⟩
  ·simp only [List.getElem?_toArray] at h1
   simp only [List.getElem?_map, h1, Option.map_some, Option.some.injEq] at hv
   subst hv h2
   simp [CV]
theorem Itr_lst {x : Str} {px : Pos} {vs : List AV} {QI : List AV → St → Prop} (q : QI vs st) : Itr G c bud (.Name x px) (.lst vs) QI st := fun r E F s cx Er rk a hc => by
 have hc0 := hc
 obtain ⟨l, cs, rfl, hl, hcs⟩ := frz_list a hc
 have hlf : ∃ p ∈ F, p.1 = l := by
  simp only [CV] at hc0
  obtain ⟨l', cs', o, e, hm, _⟩ := hc0
  cases e
  exact ⟨_, hm, rfl⟩
 have hlt : l < s.heap.objs.size := let ⟨o, e, _⟩ := hl; Heap.lt_size e
 have hne : l ≠ s.heap.objs.size := fun e => noLt (Nat.le_refl _) (e ▸ hlt)
 refine wpAny_pyIter_list hl ⟨E, F, st, _, _, [s.heap.objs.size], fun i h => h.IsListIter s.heap.objs.size l i ∧ h.IsList l cs.toArray, s, _, s.toks, rfl, Grow.refl _ _, a, rfl, KB.push [] s.heap _, by simp, fun a ha => ?_, fun E' F' g => ?_,
  ⟨⟨_, Heap.get?_push_size _ rfl, rfl, rfl⟩, hl.push _⟩, q⟩
 ·rw [List.mem_singleton] at ha
  subst ha
  rw [Heap.size_push]
  exact ⟨Nat.le_refl _, Nat.lt_succ_self _⟩
 ·refine Wk.of (Walks.list (A := r.A c) rk.hd _ _ hne _) (by simp [hcs.len]) (fun b hb => ?_) (fun i h hS b hb => ?_) fun i v cv hv h1 => ?_
  ·simp only [List.mem_cons, List.not_mem_nil, or_false] at hb
   rcases hb with rfl | rfl
   ·exact .inl (by simp)
   ·exact .inr hlf
  ·rw [List.mem_singleton] at hb
   subst hb
   obtain ⟨⟨o, e, _⟩, _⟩ := hS
   exact ⟨o, e⟩
  ·obtain ⟨cv', e, h2⟩ := (CVs.grow g _ _ hcs).get hv
   simp only [List.getElem?_toArray] at h1
   rw [h1] at e; cases e
   exact h2
theorem Evi_ty {target : Expr} {T : String} {x : Str} {e : Expr} {p pos : Pos} {QI : List AV → St → Prop}
  (h : Ev G c bud (.Name x p) (fun f st1 => f = .val (.type T) ∧ Ev G c bud e (fun v st2 => ∀ r E F s cv, RtOk G.K r bud → Abs G.K c r E F st2 s → CV E F v cv →
   wpAny (model G.prog G.w) (r.A c) (call (.type T) [cv]) (fun cx s1 => wpAny (model G.prog G.w) (r.A c) (pyIter cx) (ItPost G c r E F target QI) (Err G c r E F R) s1) (Err G c r E F R) s) R st1) R st)
  (he : ∀ env, eval (.Call (.Name x p) [e] [] pos) env = (do callWith pos (← eval (.Name x p) env) [] (backTo pos (starEach [e] env)) (backToKw pos (keywordEach [] env))) := by intro _; rfl)
  (h1 : ∀ env, starEach [e] env = (false, eval e env) :: starEach [] env := by intro _; rfl) (h2 : ∀ env, (backTo pos (starEach [] env)).any (·.1) = false := by intro _; rfl) :
  Evi G c bud target (.Call (.Name x p) [e] [] pos) QI R st := fun r E F s rk a => by
 refine wpP_Call (he := he _) (wpP_mono (h r E F s rk a) (fun cf s1 ⟨E1, F1, st1, av, g1, a1, c1, e1, q1⟩ => ?_) fun _ _ z => z)
 subst e1
 simp only [CV] at c1
 subst c1
 have hitems : wpP G.P (model G.prog G.w) (r.A c) (spliced (backTo pos (starEach [e] (c.env r.L)))) (fun vs s' => ∃ cv E2 F2 st2 v, vs = [cv] ∧ Grow E1 F1 E2 F2 ∧ Abs G.K c r E2 F2 st2 s' ∧ CV E2 F2 v cv ∧ (∀ r E F s cv, RtOk G.K r bud → Abs G.K c r E F st2 s → CV E F v cv →
   wpAny (model G.prog G.w) (r.A c) (call (.type T) [cv]) (fun cx s1 => wpAny (model G.prog G.w) (r.A c) (pyIter cx) (ItPost G c r E F target QI) (Err G c r E F R) s1) (Err G c r E F R) s)) (Err G c r E1 F1 R) s1 :=
  wpP_items_cons (he := h1 _) (wpP_mono (q1 r E1 F1 s1 rk a1) (fun cv s2 ⟨E2, F2, st2, v, g2, a2, c2, q2⟩ => wpP_items_nil ⟨cv, E2, F2, st2, v, rfl, g2, a2, c2, q2⟩) fun _ _ z => z)
 rw [h1] at hitems ⊢
 refine callWith_plainP (by show (false || (backTo pos (starEach [] (c.env r.L))).any (·.1)) = false; rw [h2]; rfl) (evalArgs_plainP (wpP_mono hitems (fun vs s2 p => ?_) fun _ _ => Err.back g1))
 obtain ⟨cv, E2, F2, st2, v, rfl, g2, a2, c2, q2⟩ := p
 refine ⟨⟨_, .inr (.inl rfl), keep_ty⟩, .of ?_⟩
 exact wpAny_mono (q2 r E2 F2 s2 cv rk a2 c2) (fun cx s3 z => .of (wpAny_mono z (fun _ _ => ItPost.back (g1.trans g2)) fun _ _ => Err.back (g1.trans g2))) fun _ _ => Err.back (g1.trans g2)
end
end
section
section
variable {K : Frag} {c : FnC} {r : Rt} {E : Own} {F : Led} {st : St} {s : Shared}
theorem Abs.loose0 (x : Abs K c r E F st s) {bud : Nat} (rk : RtOk K r bud) {h' : Heap} {tk : Nat} (kb : ∀ b o, s.heap.get? b = some o → h'.get? b = some o) : Abs K c r E F st { s with heap := h', toks := tk } := by
 obtain ⟨m, hn, hl⟩ := x.ns
 obtain ⟨oL, hoL, hns⟩ := ns_iff.mp hn
 have hL' := kb _ _ hoL
 have hf : ∀ a ∈ frs r.outer, ∃ o, r.s₀.heap.get? a = some o := fun a ha => let ⟨_, o, q, _⟩ := rk.ff.mem ha; ⟨o, q⟩
 refine ⟨⟨m, ns_iff.mpr ⟨oL, hL', hns⟩, hl⟩, ?_, fun b o q => kb _ _ (x.keep b o q), fun a ha o q => let ⟨sl, z⟩ := x.frm a ha o q; ⟨sl, kb _ _ z⟩, x.fresh, Nat.le_of_lt (Heap.lt_size hL'), x.gens, x.drawn, x.os⟩
 exact {
  len := x.hp.len
  nd := x.hp.nd
  offE := fun a ha => ⟨(x.hp.offE a ha).1, let ⟨o, z⟩ := x.hp.live ha; Heap.lt_size (kb _ _ z)⟩
  offF := x.hp.offF
  froz := fun p hp => kb _ _ (x.hp.froz p hp)
  ltf := fun a ha => by
   rcases List.mem_cons.mp ha with rfl | ha
   ·exact Heap.lt_size hL'
   ·obtain ⟨o, q⟩ := hf a ha
    obtain ⟨sl, z⟩ := x.frm a ha o q
    exact Heap.lt_size (kb _ _ z)
  rep := fun i o as e1 e2 => RepO.keep' (D := []) (fun b o _ q => kb b o q) (by simp) (x.hp.rep i o as e1 e2) }
end
section
variable {G : Gl} {c : FnC} {bud : Nat} {Q : Fl → St → Prop} {R : List UInt8 → St → Prop} {st : St} {r : Rt} {E E' : Own} {F F' : Led} {s : Shared}
theorem asg_name {x : Str} {p : Pos} {i : Nat} {v : AV} {cv : Value} {QU : St → Prop} (ok : c.Ok) (hx : Nth c.ns i x) (a : Abs G.K c r E F st s) (hv : CV E F v cv) (q : QU { st with vs := st.vs.set i v }) :
  wpAny (model G.prog G.w) (r.A c) (assign (.Name x p) (c.env r.L) cv) (PostU G c r E F QU) (Err G c r E F R) s := wpAny_assign_Name (store_l ok hx a hv q)
theorem Asg_tup2 {x y : Str} {p p' pos : Pos} {k : Nat} {u v : AV} {QU : St → Prop} (i j : Nat) (ok : c.Ok) (hx : Nth c.ns i x) (hy : Nth c.ns j y) (q : QU { st with vs := (st.vs.set i u).set j v }) :
  Asg G c bud (.Tuple [.Name x p, .Name y p'] k pos) (.tup [u, v]) QU R st := fun r E F s cv rk a hv => by
 obtain ⟨l, cs, rfl, hl, hc⟩ := frz_tup a hv
 simp only [CVs] at hc
 obtain ⟨c1, r1, rfl, h1, c2, r2, rfl, h2, rfl⟩ := hc
 refine .of (wpAny_assign_Tuple rk.hd hl rfl rfl fun h' hx' => ?_)
 have a1 := a.loose0 rk (h' := h') (tk := s.toks) fun b o e => hx' b o (fun q => noLt (Nat.le_refl _) (q ▸ Heap.lt_size e)) e
 show wpAny _ _ (do holding [c2] (assign (.Name x p) (c.env r.L) c1); do holding [] (assign (.Name y p') (c.env r.L) c2); pure ()) _ _ _
 refine wpAny_bind (wpAny_holding (wpAny_mono (asg_name (QU := fun st1 => st1 = { st with vs := st.vs.set i u }) (R := R) ok hx a1 h1 rfl) (fun _ s1 ⟨E1, F1, st1, g1, a2, e1⟩ => ?_) fun _ _ z => z))
 subst e1
 refine wpAny_bind (wpAny_holding (wpAny_mono (asg_name (QU := fun st1 => st1 = { st with vs := (st.vs.set i u).set j v }) (R := R) ok hy a2 (CV.grow g1 _ _ h2) rfl) (fun _ s2 ⟨E2, F2, st2, g2, a3, e2⟩ => ?_) fun _ _ => Err.back g1))
 subst e2
 exact wpAny_pure ⟨E2, F2, _, g1.trans g2, a3, q⟩
theorem Es_tup {elts : List Expr} {e : Expr} {k : Nat} {p pos : Pos} (h : Ev G c bud e (fun v st1 => Asg G c bud (.Tuple elts k p) v (fun st2 => Q .next st2) R st1) R st)
  (hs : ∀ env, swapsWithSole [.Tuple elts k p] e pos.line env = pure false := by intro _; rfl) (hw : ∀ env, swappedStores [.Tuple elts k p] e env = pure none := by intro _; rfl) :
  Es G c bud (.Assign [.Tuple elts k p] e pos) Q R st := fun r E F s rk a =>
 wpP_Assign_Tuple (hs := hs _) (hw := hw _) (wpP_mono (h r E F s rk a) (fun cv s1 ⟨E1, F1, st1, v, g1, a1, c1, q1⟩ => wpP_mono (q1 r E1 F1 s1 cv rk a1 c1) (fun _ s2 ⟨E2, F2, st2, g2, a2, q2⟩ =>
  ⟨E2, F2, st2, .next, g1.trans g2, a2, rfl, q2⟩) fun _ _ => Err.back g1) fun _ _ z => z)
theorem fitsL {i : Int} (h0 : 0 ≤ i) (h1 : i ≤ 100001) : Builtin.Range.rangeFitsLong i = true := by
 unfold Builtin.Range.rangeFitsLong
 rw [Bool.and_eq_true, decide_eq_true_eq, decide_eq_true_eq]
 constructor <;> omega
theorem call_range {x : Str} {px : Pos} {n : Nat} {QI : List AV → St → Prop} (hn : n ≤ 100000) (q : QI ((List.range n).map fun i : Nat => .int (i : Int)) st) : ∀ r E F s cv, RtOk G.K r bud → Abs G.K c r E F st s → CV E F (.int (n : Int)) cv →
  wpAny (model G.prog G.w) (r.A c) (call (.type "range") [cv]) (fun cx s1 => wpAny (model G.prog G.w) (r.A c) (pyIter cx) (ItPost G c r E F (.Name x px) QI) (Err G c r E F R) s1) (Err G c r E F R) s := fun r E F s cv rk a hc => by
 simp only [CV] at hc
 obtain ⟨t, rfl⟩ := hc
 refine call_range_1 ?_
 have a1 := a.step0 (tk := s.toks + 1 + 1) (KB.push [] s.heap { cls := .type "range", data := .fields #[.int 0 s.toks, .int n t, .int 1 (s.toks + 1)] })
 have hsz : Builtin.Range.rangeSize 0 n 1 = n := by
  rw [rangeSize_pos (Int.le_refl _) (by omega)]; simp
 refine wpAny_pyIter_range (a := 0) (b := n) (c := 1) (t := s.toks) (u := t) (v := s.toks + 1) (Heap.get?_push_size _ rfl) ?_ ?_
 ·unfold Builtin.Range.small
  simp only [hsz]
  rw [fitsL (by omega) (by omega), fitsL (by omega) (by omega), fitsL (by omega) (by omega)]
  simp only [Bool.true_and, Bool.and_true, gt_iff_lt, show (0 : Int) < 1 from by decide, if_true]
  rw [fitsL (by omega) (by omega), Bool.or_true]
 rw [hsz]
 generalize hs1 : ({ s with heap := s.heap.push { cls := .type "range", data := .fields #[.int 0 s.toks, .int n t, .int 1 (s.toks + 1)] }, toks := s.toks + 1 + 1 } : Shared) = s1 at a1 ⊢
 refine ⟨E, F, st, _, _, [s1.heap.objs.size], fun i h => IsRangeIter h s1.heap.objs.size (0 + (i : Nat) * 1) ((n : Int) - (i : Nat)) 1, s1, _, s1.toks, rfl, Grow.refl _ _, a1, rfl, KB.push [] s1.heap _, by simp, fun a ha => ?_, fun E' F' g => ?_, ?_, q⟩
 ·rw [List.mem_singleton] at ha
  subst ha
  rw [Heap.size_push]
  exact ⟨Nat.le_refl _, Nat.lt_succ_self _⟩
 ·refine Wk.of (Walks.range (A := r.A c) rk.hd _ 0 1 n) (by simp) (fun b hb => .inl hb) (fun i h hS b hb => ?_) fun i v cv hv ⟨u, h1⟩ => ?_
  ·rw [List.mem_singleton] at hb
   subst hb
   exact ⟨_, hS⟩
  ·have hi := (List.getElem?_eq_some_iff.mp hv).1
   simp only [List.length_map, List.length_range] at hi
   rw [List.getElem?_map, List.getElem?_range hi] at hv
   simp only [Option.map_some, Option.some.injEq] at hv
   subst hv h1
   simp [CV]
 ·have := Heap.get?_push_size s1.heap (o := { cls := .type "range_iterator", data := .fields #[rawInt 0, rawInt n, rawInt 1] }) rfl
  simpa using this
end
end
section
open PySem.W.KBw (IsBytesIter iter_typeIs slot_next entry_next args_next)
theorem wpAny_ite2 {α : Type} {M : Model} {A : Around} {p : Prop} [Decidable p] {x y : Sem α} {Q : α → Shared → Prop} {E : Value → Shared → Prop} {s : Shared} (h1 : wpAny M A x Q E s) (h2 : wpAny M A y Q E s) : wpAny M A (if p then x else y) Q E s := by
 split
 ·exact h1
 ·exact h2
theorem newClass_enum (v : Value) : Builtin.SmallTypes.newClass "enumerate" ⟨[.type "enumerate", v], []⟩ = pure (.type "enumerate", [v]) := by
 have e1 : isType (.type "enumerate") = pure true := by kernel_rfl
 unfold Builtin.SmallTypes.newClass
 show (isType (.type "enumerate") >>= fun b => _) = _
 rw [e1]
 show (isSubtype (.type "enumerate") (.type "enumerate") >>= fun b => _) = _
 rw [sub_enumerate]
 rfl
theorem enumB_new (b : Array UInt8) (t : Tok) :
  Meets (Builtin.«enumerate.__new__» ⟨[.type "enumerate", .bytes b t], []⟩) (fun _ R s =>
   R (.ok (.ret (.ref (s.heap.push { cls := .type "bytes_iterator", data := .fields #[.bytes b t, .int 0 0] }).objs.size)))
    {s with heap := (s.heap.push { cls := .type "bytes_iterator", data := .fields #[.bytes b t, .int 0 0] }).push { cls := .type "enumerate", data := .fields #[.none, .bool false, .ref s.heap.objs.size, rawInt 0, .none, .none] } }) :=
 .of_wp fun prog w A R s h => by
  obtain ⟨hp, g, d, tk, os⟩ := s
  show wpAny _ _ (Builtin.SmallTypes.newClass "enumerate" ⟨[.type "enumerate", .bytes b t], []⟩ >>= fun p => _) _ _ _
  refine wpAny_bind (wpAny_of_eq (a := (.type "enumerate", [.bytes b t])) (newClass_enum _) ?_)
  show wpAny _ _ ((if (Value.type "enumerate" == Value.type "enumerate") = true then Builtin.SmallTypes.calledThroughType (.type "enumerate") else pure false) >>= fun sh => _) _ _ _
  rw [if_pos (by simp)]
  refine wpAny_bind ?_
  unfold Builtin.SmallTypes.calledThroughType
  refine wpAny_bind (wpAny_stack_any fun st => wpAny_pure ?_)
  refine wpAny_ite2 ?_ ?_
  all_goals refine wpAny_bind (wpAny_of_eq (a := (Value.bytes b t, none)) rfl ?_)
  ·show wpAny _ _ (pyIter (.bytes b t) >>= fun it => _) _ _ _
   refine wpAny_bind (KBw.pyIter_bytes ?_)
   unfold Builtin.SmallTypes.newRecord
   dsimp only
   refine wpAny_bind (wpAny_newObj_type ?_ (by show 6 ≤ sizeLine + 2; rw [sizeLine_eq]; omega))
   exact wpAny_pure ⟨_, rfl, h⟩
  ·show wpAny _ _ (pyIter (.bytes b t) >>= fun it => _) _ _ _
   refine wpAny_bind (KBw.pyIter_bytes ?_)
   unfold Builtin.SmallTypes.newRecord
   dsimp only
   refine wpAny_bind (wpAny_newObj_type ?_ (by show 6 ≤ sizeLine + 2; rw [sizeLine_eq]; omega))
   exact wpAny_pure ⟨_, rfl, h⟩
section
variable {prog : Program} {w : World} {A : Around} {E : Value → Shared → Prop} {s : Shared} {b : Array UInt8} {t : Tok}
theorem enumB_call {Q : Value → Shared → Prop}
  (h : ∀ h', IsEnum h' (s.heap.objs.size + 1) s.heap.objs.size 0 .none → IsBytesIter h' s.heap.objs.size b t 0 → h'.objs.size = s.heap.objs.size + 2 →
   (∀ b o, s.heap.get? b = some o → h'.get? b = some o) → Q (.ref (s.heap.objs.size + 1)) { s with heap := h' }) :
  wpAny (model prog w) A (call (.type "enumerate") [.bytes b t]) Q E s := by
 refine callType_new F.called_enumerate (by decide) (F.typeCall_enumerate_1 _) (F.newCall_enumerate_1 _) (fun obj => F.args_object_init_2 obj _) F.entry_enumerate_new
  (enumB_new b t) ?_
 have hz : (s.heap.push { cls := .type "bytes_iterator", data := .fields #[.bytes b t, .int 0 0] }).objs.size = s.heap.objs.size + 1 := Heap.size_push ..
 show _ ∧ _
 rw [hz]
 have he : IsEnum ((s.heap.push { cls := .type "bytes_iterator", data := .fields #[.bytes b t, .int 0 0] }).push
   {cls := .type "enumerate", data := .fields #[.none, .bool false, .ref s.heap.objs.size, rawInt 0, .none, .none] }) (s.heap.objs.size + 1) s.heap.objs.size 0 .none := by
  have := Heap.get?_push_size (s.heap.push { cls := .type "bytes_iterator", data := .fields #[.bytes b t, .int 0 0] })
   (o := { cls := .type "enumerate", data := .fields #[.none, .bool false, .ref s.heap.objs.size, rawInt 0, .none, .none] }) rfl
  rw [hz] at this; exact this
 refine ⟨⟨_, he, rfl⟩, h _ he ⟨_, Heap.get?_push_of_some _ (Heap.get?_push_size _ rfl), rfl, rfl⟩ (by rw [Heap.size_push, hz]) fun b o y => Heap.get?_push_of_some _ (Heap.get?_push_of_some _ y)⟩
theorem enum_self {e it : Addr} {i : Int} {old : Value} {Q : Value → Shared → Prop} (he : IsEnum s.heap e it i old) (h : Q (.ref e) s) : wpAny (model prog w) A (pyIter (.ref e)) Q E s := by
 have hT : s.TypeIs (.ref e) "enumerate" := ⟨_, he, rfl⟩
 refine wpAny_pyIter_slot hT F.slot_enumerate_iter (wpAny_call_entry F.slot_enumerate_iter hT F.entry_enumerate_iter ?_ (F.args_enumerate_iter_1 _))
 refine wpAny_pure ⟨_, rfl, "enumerate", _, hT, F.slot_enumerate_next.lookup, h⟩
theorem nextB_item {it : Addr} {i : Nat} {c : UInt8} {Q : Value → Shared → Prop} (hit : IsBytesIter s.heap it b t i) (hx : b[i]? = some c)
  (hQ : ∀ h', IsBytesIter h' it b t (i + 1) → Heap.SameBut it s.heap h' → Q (.int (c.toNat : Int) s.toks) { s with heap := h', toks := s.toks + 1 }) : wpAny (model prog w) A (Builtin.SmallTypes.nextOf (.ref it)) Q E s := by
 obtain ⟨o, ho, hc, hd⟩ := id hit
 unfold Builtin.SmallTypes.nextOf
 refine wpAny_bind (wpAny_callSpecial?_slot (name := Str.ofString "__next__") (iter_typeIs hit) slot_next (wpAny_call_entry slot_next (iter_typeIs hit) entry_next ?_ (args_next _)))
 show wpAny _ _ (field (.ref it) 0 >>= _) _ _ s
 refine wpAny_bind (wpAny_field ho hd (x := .bytes b t) rfl ?_)
 show wpAny _ _ (if (Value.bytes b t == Value.none) = true then _ else _) _ _ s
 rw [if_neg (show ¬ ((Value.bytes b t == Value.none) = true) from Bool.false_ne_true)]
 show wpAny _ _ (field (.ref it) 1 >>= _) _ _ s
 refine wpAny_bind (wpAny_field ho hd (x := .int i 0) rfl ?_)
 refine wpAny_bind (wpAny_of_eq (a := b) rfl ?_)
 simp only [Int.toNat_natCast, hx]
 refine wpAny_bind (wpAny_setField ho hd (by simp) (wpAny_bind (wpAny_mkInt (wpAny_pure ⟨_, rfl, wpAny_pure (hQ _ ?_ (Heap.SameBut.update ..))⟩))))
 exact ⟨_, Heap.get?_update_self _ ho (Obj.isFreed_of_fields (Obj.data_mapFields hd _)), (Obj.cls_mapFields ..).trans hc, by
  rw [Obj.data_mapFields hd]; simp [rawInt]⟩
theorem nextB_end {it : Addr} {i : Nat} {Q : Value → Shared → Prop} (hh : A.handled = none) (hit : IsBytesIter s.heap it b t i) (hx : b[i]? = none)
  (hE : ∀ h' e, Heap.ExtBut it s.heap h' → (∃ o, h'.get? e = some o ∧ o.cls = .type "StopIteration") → E (.ref e) { s with heap := h' }) : wpAny (model prog w) A (Builtin.SmallTypes.nextOf (.ref it)) Q E s := by
 obtain ⟨o, ho, hc, hd⟩ := id hit
 unfold Builtin.SmallTypes.nextOf
 refine wpAny_bind (wpAny_callSpecial?_slot (name := Str.ofString "__next__") (iter_typeIs hit) slot_next (wpAny_call_entry slot_next (iter_typeIs hit) entry_next ?_ (args_next _)))
 show wpAny _ _ (field (.ref it) 0 >>= _) _ _ s
 refine wpAny_bind (wpAny_field ho hd (x := .bytes b t) rfl ?_)
 show wpAny _ _ (if (Value.bytes b t == Value.none) = true then _ else _) _ _ s
 rw [if_neg (show ¬ ((Value.bytes b t == Value.none) = true) from Bool.false_ne_true)]
 show wpAny _ _ (field (.ref it) 1 >>= _) _ _ s
 refine wpAny_bind (wpAny_field ho hd (x := .int i 0) rfl ?_)
 refine wpAny_bind (wpAny_of_eq (a := b) rfl ?_)
 simp only [Int.toNat_natCast, hx]
 refine wpAny_bind (wpAny_rule (wpAny_bind (wpAny_setField ho hd (by simp) ?_)))
 show wpAny _ _ (newExc (.type "StopIteration") [] >>= _) _ _ _
 refine wpAny_bind ?_
 simp only [newExc, newTuple]
 refine wpAny_bind (wpAny_newObj_type ?_ (by size_fits))
 refine wpAny_bind (m := firstArgMember _ _) (wpAny_of_eq (a := Value.none) (by first | rfl | (simp only [firstArgMember]; rfl)) ?_)
 refine wpAny_newObj_type ?_ (by size_fits)
 simp only [raiseNew]
 refine wpAny_bind (wpAny_handled ?_)
 first | rw [show A.in1.handled = none from hh] | rw [hh]
 refine wpAny_bind (wpAny_pure (wpAny_throw ?_))
 exact hE _ _ (((Heap.SameBut.update ..).extBut.push _).push _) ⟨_, Heap.get?_push_size _ rfl, rfl⟩
theorem enumB_item {e it : Addr} {i : Nat} {x : UInt8} {old : Value} {Q : Value → Shared → Prop} (he : IsEnum s.heap e it i old) (hit : IsBytesIter s.heap it b t i) (hx : b[i]? = some x) (hne : e ≠ it)
  (hQ : ∀ h' tx, IsEnumOut h' e it ((i : Int) + 1) (.int x.toNat tx) s.heap.objs.size → IsBytesIter h' it b t (i + 1) →
   h'.get? s.heap.objs.size = some { cls := .type "tuple", data := .seq #[.int i (s.toks + 1), .int x.toNat tx] } →
   (∀ b o, b ≠ e → b ≠ it → s.heap.get? b = some o → h'.get? b = some o) → Q (.ref s.heap.objs.size) { s with heap := h', toks := s.toks + 1 + 1 }) :
  wpAny (model prog w) A (Builtin.«enumerate.__next__» ⟨[.ref e], []⟩) (fun fin s' => ∃ v, fin = .done (.ret v) ∧ Q v s') E s := by
 obtain ⟨hp, g, d, tk, os⟩ := s
 show wpAny _ _ (field (.ref e) 2 >>= _) _ _ _
 refine wpAny_bind (wpAny_field he rfl (x := .ref it) rfl ?_)
 refine wpAny_bind (nextB_item hit hx fun h₁ hit₁ hs₁ => ?_)
 replace hs₁ : Heap.SameBut it hp h₁ := hs₁
 have he₁ : IsEnum h₁ e it i old := (hs₁.2 e hne).trans he
 show wpAny _ _ (field (.ref e) 3 >>= _) _ _ ⟨h₁, g, d, tk + 1, os⟩
 refine wpAny_bind (wpAny_field he₁ rfl (x := rawInt i) rfl ?_)
 show wpAny _ _ (field (.ref e) 4 >>= _) _ _ ⟨h₁, g, d, tk + 1, os⟩
 refine wpAny_bind (wpAny_field he₁ rfl (x := .none) rfl ?_)
 show wpAny _ _ (mkInt i >>= _) _ _ ⟨h₁, g, d, tk + 1, os⟩
 refine wpAny_bind (wpAny_mkInt ?_)
 show wpAny _ _ (setField (.ref e) 3 (rawInt ((i : Int) + 1)) >>= _) _ _ ⟨h₁, g, d, tk + 1 + 1, os⟩
 refine wpAny_bind (wpAny_setField_rec he₁ (by simp) fun h₂ he₂ hs₂ => ?_)
 replace hs₂ : Heap.SameBut e h₁ h₂ := hs₂
 replace he₂ : IsEnum h₂ e it ((i : Int) + 1) old := he₂
 show wpAny _ _ (setField (.ref e) 4 .none >>= _) _ _ ⟨h₂, g, d, tk + 1 + 1, os⟩
 refine wpAny_bind (wpAny_setField_rec he₂ (by simp) fun h₃ he₃ hs₃ => ?_)
 replace hs₃ : Heap.SameBut e h₂ h₃ := hs₃
 replace he₃ : IsEnum h₃ e it ((i : Int) + 1) old := he₃
 show wpAny _ _ (newTuple [.int i (tk + 1), .int x.toNat tk] >>= _) _ _ ⟨h₃, g, d, tk + 1 + 1, os⟩
 refine wpAny_bind (wpAny_newTuple ?_)
 have he₄ : IsEnum (h₃.push { cls := .type "tuple", data := .seq #[.int i (tk + 1), .int x.toNat tk] }) e it ((i : Int) + 1) old := Heap.get?_push_of_some _ he₃
 generalize hh₄ : h₃.push { cls := .type "tuple", data := .seq #[.int i (tk + 1), .int x.toNat tk] } = h₄ at he₄
 have hsz : h₃.objs.size = hp.objs.size := by rw [hs₃.1, hs₂.1, hs₁.1]
 have hel : e < hp.objs.size := Heap.lt_size he
 have ht₄ : h₄.get? hp.objs.size = some { cls := .type "tuple", data := .seq #[.int i (tk + 1), .int x.toNat tk] } := by rw [← hh₄, ← hsz]; exact Heap.get?_push_size _ rfl
 have hk₄ : ∀ b o, b ≠ e → b ≠ it → hp.get? b = some o → h₄.get? b = some o := fun b o hbe hbi hb => by
  rw [← hh₄]; exact Heap.get?_push_of_some _ (hs₃.extBut b o hbe (hs₂.extBut b o hbe (hs₁.extBut b o hbi hb)))
 have hit₄ : IsBytesIter h₄ it b t (i + 1) := by
  obtain ⟨o, ho, r⟩ := hit₁
  rw [← hh₄]; exact ⟨o, Heap.get?_push_of_some _ (hs₃.extBut _ _ (Ne.symm hne) (hs₂.extBut _ _ (Ne.symm hne) ho)), r⟩
 show wpAny _ _ (Builtin.SmallTypes.ownedTupleIsFree (.ref e) >>= _) _ _ ⟨h₄, g, d, tk + 1 + 1, os⟩
 rw [hsz]
 clear hh₄ he₃ hs₃ he₂ hs₂ he₁ hs₁ hit₁ hsz h₃ h₂ h₁
 refine wpAny_bind ?_
 unfold Builtin.SmallTypes.ownedTupleIsFree
 refine wpAny_bind (wpAny_field he₄ rfl (x := .none) rfl (wpAny_pure ?_))
 simp only [if_true]
 refine wpAny_bind (wpAny_rule ?_)
 refine wpAny_bind (wpAny_field he₄ rfl (x := old) rfl ?_)
 refine wpAny_bind (wpAny_setField_rec he₄ (by simp) fun h₅ he₅ hs₅ => ?_)
 replace hs₅ : Heap.SameBut e h₄ h₅ := hs₅
 replace he₅ : IsEnum h₅ e it ((i : Int) + 1) (.int x.toNat tk) := he₅
 show wpAny _ _ (Builtin.SmallTypes.ownedTupleHandOut (.ref e) (.ref hp.objs.size) >>= _) _ _ ⟨h₅, g, d, tk + 1 + 1, os⟩
 refine wpAny_bind ?_
 unfold Builtin.SmallTypes.ownedTupleHandOut
 refine wpAny_bind (wpAny_setField_rec he₅ (by simp) fun h₆ he₆ hs₆ => ?_)
 replace hs₆ : Heap.SameBut e h₅ h₆ := hs₆
 replace he₆ : IsEnumOut h₆ e it ((i : Int) + 1) (.int x.toNat tk) hp.objs.size := he₆
 refine wpAny_setField_rec he₆ (by simp) fun h₇ he₇ hs₇ => ?_
 replace hs₇ : Heap.SameBut e h₆ h₇ := hs₇
 replace he₇ : IsEnumOut h₇ e it ((i : Int) + 1) (.int x.toNat tk) hp.objs.size := he₇
 refine wpAny_bind (wpAny_letGo (wpAny_pure ⟨_, rfl, hQ h₇ tk he₇ ?_ ?_ ?_⟩))
 ·obtain ⟨o, ho, r⟩ := hit₄
  exact ⟨o, hs₇.extBut _ _ (Ne.symm hne) (hs₆.extBut _ _ (Ne.symm hne) (hs₅.extBut _ _ (Ne.symm hne) ho)), r⟩
 ·exact hs₇.extBut _ _ (Nat.ne_of_gt hel) (hs₆.extBut _ _ (Nat.ne_of_gt hel) (hs₅.extBut _ _ (Nat.ne_of_gt hel) ht₄))
 ·exact fun b o hbe hbi hb => hs₇.extBut b o hbe (hs₆.extBut b o hbe (hs₅.extBut b o hbe (hk₄ b o hbe hbi hb)))
theorem enumB_next {e it : Addr} {i : Nat} {x : UInt8} {old : Value} {Q : Option Value → Shared → Prop} (he : IsEnum s.heap e it i old) (hit : IsBytesIter s.heap it b t i) (hx : b[i]? = some x) (hne : e ≠ it)
  (hQ : ∀ h' tx, IsEnumOut h' e it ((i : Int) + 1) (.int x.toNat tx) s.heap.objs.size → IsBytesIter h' it b t (i + 1) →
   h'.get? s.heap.objs.size = some { cls := .type "tuple", data := .seq #[.int i (s.toks + 1), .int x.toNat tx] } →
   (∀ b o, b ≠ e → b ≠ it → s.heap.get? b = some o → h'.get? b = some o) → Q (some (.ref s.heap.objs.size)) { s with heap := h', toks := s.toks + 1 + 1 }) :
  wpAny (model prog w) A (pyNext (.ref e)) Q E s := by
 have hT : s.TypeIs (.ref e) "enumerate" := ⟨_, he, rfl⟩
 unfold pyNext
 exact wpAny_bind (wpAny_attempt (wpAny_callSpecial?_slot (name := Str.ofString "__next__") hT F.slot_enumerate_next
  (wpAny_call_entry F.slot_enumerate_next hT F.entry_enumerate_next
   (enumB_item he hit hx hne fun h' tx a b c k => wpAny_pure (hQ h' tx a b c k)) (F.args_enumerate_next_1 _))))
theorem enumB_end {e it : Addr} {i : Nat} {old : Value} {Q : Option Value → Shared → Prop} (hh : A.handled = none) (he : IsEnum s.heap e it i old) (hit : IsBytesIter s.heap it b t i) (hx : b[i]? = none)
  (hQ : ∀ h', Heap.ExtBut it s.heap h' → Q none { s with heap := h' }) : wpAny (model prog w) A (pyNext (.ref e)) Q E s := by
 have hT : s.TypeIs (.ref e) "enumerate" := ⟨_, he, rfl⟩
 unfold pyNext
 refine wpAny_bind (wpAny_attempt (wpAny_callSpecial?_slot (name := Str.ofString "__next__") hT F.slot_enumerate_next
  (wpAny_call_entry F.slot_enumerate_next hT F.entry_enumerate_next ?_ (F.args_enumerate_next_1 _))))
 show wpAny _ _ (field (.ref e) 2 >>= _) _ _ _
 refine wpAny_bind (wpAny_field he rfl (x := .ref it) rfl ?_)
 refine wpAny_bind (nextB_end hh hit hx fun h' x he' hx' => ?_)
 obtain ⟨o, ho, hc⟩ := hx'
 refine wpAny_bind (wpAny_isInstance (T := "StopIteration") (b := true) ⟨o, ho, hc⟩ isSubtype_stop ?_)
 exact wpAny_pure (hQ _ he')
end
section
variable {G : Gl} {c : FnC} {bud : Nat} {R : List UInt8 → St → Prop} {st : St}
theorem call_enum {elts : List Expr} {kk : Nat} {px : Pos} {b : List UInt8} {QI : List AV → St → Prop} (q : QI (b.zipIdx.map fun p => .tup [.int p.2, .int p.1.toNat]) st) : ∀ r E F s cv, RtOk G.K r bud → Abs G.K c r E F st s → CV E F (.bytes b) cv →
  wpAny (model G.prog G.w) (r.A c) (call (.type "enumerate") [cv]) (fun cx s1 => wpAny (model G.prog G.w) (r.A c) (pyIter cx) (ItPost G c r E F (.Tuple elts kk px) QI) (Err G c r E F R) s1) (Err G c r E F R) s := fun r E F s cv rk a hc => by
 simp only [CV] at hc
 obtain ⟨t, rfl⟩ := hc
 refine enumB_call fun h' he hi hz hk => enum_self he ?_
 have hne : s.heap.objs.size + 1 ≠ s.heap.objs.size := Nat.succ_ne_self _
 refine ⟨E, F, st, _, _, [s.heap.objs.size + 1, s.heap.objs.size], fun i h => ∃ old, IsEnum h (s.heap.objs.size + 1) s.heap.objs.size (i : Nat) old ∧ IsBytesIter h s.heap.objs.size b.toArray t i, s, h', s.toks, rfl, Grow.refl _ _, a, rfl, ⟨by rw [hz]; exact Nat.le_add_right _ _, fun b o _ e => hk b o e⟩, by simp, fun a ha => ?_, fun E' F' g => ?_, ⟨_, he, hi⟩, q⟩
 ·simp only [List.mem_cons, List.not_mem_nil, or_false] at ha
  rw [hz]
  rcases ha with rfl | rfl
  ·exact ⟨Nat.le_succ _, Nat.lt_succ_self _⟩
  ·exact ⟨Nat.le_refl _, Nat.lt_succ_of_lt (Nat.lt_succ_self _)⟩
 ·refine ⟨fun i h h' ⟨old, h1, o, h2, h3⟩ k => ⟨old, k _ (.inl (by simp)) _ h1, o, k _ (.inl (by simp)) _ h2, h3⟩, fun i h ⟨old, h1, o, h2, h3⟩ b hb => ?_, fun i v s1 Q' Er hv ⟨old, h1, h2⟩ hq => ?_, fun s1 Q' Er ⟨old, h1, h2⟩ hq => ?_⟩
  ·simp only [List.mem_cons, List.not_mem_nil, or_false] at hb
   rcases hb with rfl | rfl
   ·exact ⟨_, h1⟩
   ·exact ⟨_, h2⟩
  ·rw [List.getElem?_map] at hv
   obtain ⟨⟨x, j⟩, hx, rfl⟩ := Option.map_eq_some_iff.mp hv
   rw [List.getElem?_zipIdx] at hx
   obtain ⟨x', hx', e⟩ := Option.map_eq_some_iff.mp hx
   cases e
   refine enumB_next h1 h2 (by simpa using hx') hne fun h3 tx z1 z2 z3 z4 => ⟨_, rfl, wpAny_letOwnedTupleGo_enum z1 fun h4 y1 y2 => ?_⟩
   have hsz : ∀ o, s1.heap.get? (s.heap.objs.size + 1) = some o → s.heap.objs.size + 1 < s1.heap.objs.size := fun o => Heap.lt_size
   refine hq _ h4 _ [(s1.heap.objs.size, tupObj [.int i (s1.toks + 1), .int x.toNat tx] 0)] ⟨.int x.toNat tx, ?_, ?_⟩ (fun d o hd e => ?_) (fun p hp => ?_) ?_
   ·have : (((i + 1 : Nat)) : Int) = (i : Int) + 1 := by push_cast; rfl
    rw [this]; exact y1
   ·obtain ⟨o, e, r⟩ := z2
    exact ⟨o, y2.extBut _ _ (Ne.symm hne) e, r⟩
   ·simp only [List.mem_cons, List.not_mem_nil, or_false, not_or] at hd
    exact y2.extBut _ _ hd.1 (z4 _ _ hd.1 hd.2 e)
   ·rw [List.mem_singleton] at hp
    subst hp
    exact ⟨y2.extBut _ _ (Nat.ne_of_gt (hsz _ h1)) z3, Nat.le_refl _⟩
   ·simp only [CV]
    refine ⟨s1.heap.objs.size, [.int i (s1.toks + 1), .int x.toNat tx], 0, rfl, by simp, ?_⟩
    simp only [CVs, CV]
    exact ⟨_, _, rfl, ⟨s1.toks + 1, by rw [Nat.zero_add]⟩, _, _, rfl, ⟨_, rfl⟩, rfl⟩
  ·refine enumB_end rk.hd h1 h2 (by simp) fun h3 z => hq h3 s1.toks fun d o hd e => ?_
   simp only [List.mem_cons, List.not_mem_nil, or_false, not_or] at hd
   exact z _ _ hd.2 e
end
end
section
open PySem.SeqAt (EqAt RcAt)
mutual
noncomputable def AV.dep : AV → Nat
 | .tup vs => depL vs + 1
 | .lst vs => depL vs + 1
 | _ => 0
noncomputable def depL : List AV → Nat
 | [] => 0
 | v :: vs => max v.dep (depL vs)
end
mutual
noncomputable def AV.pln : AV → Prop
 | .none | .bool _ | .int _ | .str _ | .bytes _ => True
 | .tup vs => plnL vs
 | .lst vs => plnL vs
 | _ => False
noncomputable def plnL : List AV → Prop
 | [] => True
 | v :: vs => v.pln ∧ plnL vs
end
theorem all_true (n : Nat) : ((List.range n).all fun _ => true) = true := List.all_eq_true.mpr fun _ _ => rfl
mutual
theorem eqAt_pln {E : Own} {F : Led} {s : Shared} (hF : ∀ p ∈ F, s.heap.get? p.1 = some p.2) : ∀ (v : AV) (A : Around) (c d : Value), v.pln → A.units + 2 * v.dep < cLine → CV E F v c → CV E F v d → EqAt A s c d true
 | .none, A, c, d, _, _, h, k => by simp only [CV] at h k; subst h k; exact EqAt.same _
 | .bool b, A, c, d, _, _, h, k => by simp only [CV] at h k; subst h k; exact EqAt.same _
 | .int i, A, c, d, _, _, h, k => by
  simp only [CV] at h k
  obtain ⟨t, rfl⟩ := h
  obtain ⟨u, rfl⟩ := k
  have := (PySem.MeetsSeq.EqGives.int i i t u).at A s
  simpa using this
 | .str x, A, c, d, _, _, h, k => by
  simp only [CV] at h k
  obtain ⟨t, rfl⟩ := h
  obtain ⟨u, rfl⟩ := k
  have := (PySem.SeqRoads2.EqGives.str x x t u).at A s
  simpa using this
 | .bytes b, A, c, d, _, _, h, k => by
  simp only [CV] at h k
  obtain ⟨t, rfl⟩ := h
  obtain ⟨u, rfl⟩ := k
  exact fun prog w E Q hq => PySem.W.eqBool_bytes (by simpa using hq)
 | .tup vs, A, c, d, hp, hu, h, k => by
  simp only [CV] at h k
  obtain ⟨a, cs, n, rfl, m1, h1⟩ := h
  obtain ⟨b, ds, m, rfl, m2, h2⟩ := k
  by_cases hab : a = b
  ·subst hab; exact EqAt.same _
  ·simp only [AV.dep] at hu
   have he := eqAts_pln hF vs A.in1 cs ds hp (by show A.units + 1 + 2 * depL vs < cLine; omega) h1 h2
   have hsz : cs.length = ds.length := h1.len.trans h2.len.symm
   have := RcAt.tuples (A := A) (s := s) (items := cs.toArray) (items2 := ds.toArray) (e := fun _ => true) ⟨_, hF _ m1, rfl, n, rfl⟩ ⟨_, hF _ m2, rfl, m, rfl⟩ (by omega) fun j a b => by
    simpa using he j (by simpa using a) (by simpa using b)
   rw [all_true, show (cs.toArray.size == ds.toArray.size) = true from by simp [hsz]] at this
   exact EqAt.of_refs hab this
 | .lst vs, A, c, d, hp, hu, h, k => by
  simp only [CV] at h k
  obtain ⟨a, cs, o, rfl, m1, ⟨l1, n1, l2⟩, h1⟩ := h
  obtain ⟨b, ds, o', rfl, m2, ⟨l3, n2, l4⟩, h2⟩ := k
  by_cases hab : a = b
  ·subst hab; exact EqAt.same _
  ·simp only [AV.dep] at hu
   have he := eqAts_pln hF vs A.in1 cs ds hp (by show A.units + 1 + 2 * depL vs < cLine; omega) h1 h2
   have hsz : cs.length = ds.length := h1.len.trans h2.len.symm
   have := RcAt.lists (A := A) (s := s) (items := cs.toArray) (items2 := ds.toArray) (e := fun _ => true) ⟨_, hF _ m1, l1, n1, l2⟩ ⟨_, hF _ m2, l3, n2, l4⟩ (by simpa using hsz) (by omega) fun j a b => by
    simpa using he j (by simpa using a) (by simpa using b)
   rw [all_true] at this
   exact EqAt.of_refs hab this
 | .un, _, _, _, h, _, _, _ => by simp [AV.pln] at h
 | .val _, _, _, _, h, _, _, _ => by simp [AV.pln] at h
 | .obj _, _, _, _, h, _, _, _ => by simp [AV.pln] at h
 | .ins .., _, _, _, h, _, _, _ => by simp [AV.pln] at h
theorem eqAts_pln {E : Own} {F : Led} {s : Shared} (hF : ∀ p ∈ F, s.heap.get? p.1 = some p.2) : ∀ (vs : List AV) (A : Around) (cs ds : List Value), plnL vs → A.units + 2 * depL vs < cLine → CVs E F vs cs → CVs E F vs ds →
  ∀ j (h1 : j < cs.length) (h2 : j < ds.length), EqAt A s cs[j] ds[j] true
 | [], _, _, _, _, _, h, _ => by simp only [CVs] at h; subst h; intro j h1; simp at h1
 | v :: vs, A, _, _, hp, hu, h, k => by
  simp only [CVs] at h k
  obtain ⟨c, r, rfl, a1, a2⟩ := h
  obtain ⟨d, q, rfl, b1, b2⟩ := k
  simp only [depL] at hu
  intro j h1 h2
  cases j with
  | zero => exact eqAt_pln hF v A c d hp.1 (by omega) a1 b1
  | succ j => exact eqAts_pln hF vs A r q hp.2 (by omega) a2 b2 j (by simpa using h1) (by simpa using h2)
end
section
variable {G : Gl} {c : FnC} {bud : Nat} {Q : AV → St → Prop} {R : List UInt8 → St → Prop} {st : St} {r : Rt} {E E' : Own} {F F' : Led} {s : Shared}
theorem RtOk.units (rk : RtOk G.K r bud) : (r.A c).units + 800 < cLine := by
 have := rk.un
 show r.A₀.units + 3 + 800 < 9900
 omega
theorem Cmp_eq_lst {vs : List AV} (hp : plnL vs) (hd : depL vs ≤ 300) (q : Q (.bool true) st) : Cmp G c bud .Eq (.lst vs) (.lst vs) Q R st := fun r E F s ca cb rk x ha hb => by
 simp only [CV] at ha hb
 obtain ⟨a, cs, o, rfl, m1, ⟨l1, n1, l2⟩, h1⟩ := ha
 obtain ⟨b, ds, o', rfl, m2, ⟨l3, n2, l4⟩, h2⟩ := hb
 have hu := rk.units (c := c)
 have he := eqAts_pln x.hp.froz vs (r.A c).in1 cs ds hp (by show (r.A c).units + 1 + 2 * depL vs < cLine; omega) h1 h2
 have hsz : cs.length = ds.length := h1.len.trans h2.len.symm
 refine .of (SeqAt.eq_listAt (items := cs.toArray) (items2 := ds.toArray) (e := fun _ => true) ⟨_, x.hp.froz _ m1, l1, n1, l2⟩ ⟨_, x.hp.froz _ m2, l3, n2, l4⟩ (by simpa using hsz) (by omega) (fun j a b => by
  simpa using he j (by simpa using a) (by simpa using b)) ?_)
 rw [all_true]
 exact post_mk0 x (by simp [CV]) q
theorem Cmp_eq_tup {vs : List AV} (hp : plnL vs) (hd : depL vs ≤ 300) (q : Q (.bool true) st) : Cmp G c bud .Eq (.tup vs) (.tup vs) Q R st := fun r E F s ca cb rk x ha hb => by
 simp only [CV] at ha hb
 obtain ⟨a, cs, n, rfl, m1, h1⟩ := ha
 obtain ⟨b, ds, m, rfl, m2, h2⟩ := hb
 have hu := rk.units (c := c)
 have he := eqAts_pln x.hp.froz vs (r.A c).in1 cs ds hp (by show (r.A c).units + 1 + 2 * depL vs < cLine; omega) h1 h2
 have hsz : cs.length = ds.length := h1.len.trans h2.len.symm
 refine .of (SeqAt.eq_tupleAt (items := cs.toArray) (items2 := ds.toArray) (e := fun _ => true) ⟨_, x.hp.froz _ m1, rfl, n, rfl⟩ ⟨_, x.hp.froz _ m2, rfl, m, rfl⟩ (by omega) (fun j a b => by
  simpa using he j (by simpa using a) (by simpa using b)) ?_)
 rw [all_true, show (cs.toArray.size == ds.toArray.size) = true from by simp [hsz]]
 exact post_mk0 x (by simp [CV]) q
theorem eq_nil {prog : Program} {w : World} {A : Around} {Er : Value → Shared → Prop} {s : Shared} {l m : Addr} {cs : List Value} {Q : Value → Shared → Prop} (hl : s.heap.IsList l cs.toArray) (hm : s.heap.IsList m #[]) (hu : A.units < cLine)
  (q : Q (.bool cs.isEmpty) s) : wpAny (model prog w) A (compareOp .Eq (.ref l) (.ref m)) Q Er s := by
 cases cs with
 | nil => exact SeqAt.eq_listAt (e := fun _ => true) hl hm rfl hu (fun j h _ => absurd h (Nat.not_lt_zero _)) q
 | cons a cs => exact SeqAt.eq_list_lengthsAt hl hm (by simp) hu q
theorem Cmp_eq_nil {k : Nat} {vs : List AV} (ho : st.H[k]? = some (.list vs)) (q : Q (.bool vs.isEmpty) st) : Cmp G c bud .Eq (.obj k) (.lst []) Q R st := fun r E F s ca cb rk x ha hb => by
 obtain ⟨l, n, cs, rfl, he, h2, hc⟩ := own_list x ho ha
 obtain ⟨m, ds, rfl, hm, hd⟩ := frz_list x hb
 simp only [CVs] at hd
 subst hd
 have hu := rk.units (c := c)
 refine .of (eq_nil (isList_of h2) hm (by omega) ?_)
 have : cs.isEmpty = vs.isEmpty := by
  have := hc.len
  cases cs <;> cases vs <;> simp_all
 rw [this]
 exact post_mk0 x (by simp [CV]) q
theorem ne_nil {prog : Program} {w : World} {A : Around} {Er : Value → Shared → Prop} {s : Shared} {l m : Addr} {cs : List Value} {Q : Value → Shared → Prop} (hl : s.heap.IsList l cs.toArray) (hm : s.heap.IsList m #[]) (hu : A.units < cLine)
  (q : Q (.bool (!cs.isEmpty)) s) : wpAny (model prog w) A (compareOp .NotEq (.ref l) (.ref m)) Q Er s := by
 cases cs with
 | nil => exact SeqAt.RcNeAt.lists (e := fun _ => true) hl hm rfl hu (fun j h _ => absurd h (Nat.not_lt_zero _)) prog w Er Q q
 | cons a cs => exact SeqAt.RcNeAt.lists_lengths hl hm (by simp) hu prog w Er Q q
theorem Cmp_ne_nil {k : Nat} {vs : List AV} (ho : st.H[k]? = some (.list vs)) (q : Q (.bool (!vs.isEmpty)) st) : Cmp G c bud .NotEq (.obj k) (.lst []) Q R st := fun r E F s ca cb rk x ha hb => by
 obtain ⟨l, n, cs, rfl, he, h2, hc⟩ := own_list x ho ha
 obtain ⟨m, ds, rfl, hm, hd⟩ := frz_list x hb
 simp only [CVs] at hd
 subst hd
 have hu := rk.units (c := c)
 refine .of (ne_nil (isList_of h2) hm (by omega) ?_)
 have : cs.isEmpty = vs.isEmpty := by
  have := hc.len
  cases cs <;> cases vs <;> simp_all
 rw [this]
 exact post_mk0 x (by simp [CV]) q
variable (G c bud) in
theorem meth_list {k : Nat} {vs : List AV} {x : Str} {id : String} {QM : AV → List AV → St → Prop} (ho : st.H[k]? = some (.list vs)) (slot : Slot "list" x id) (hty : typeOf (.builtin id) = pure (.type "method_descriptor"))
  (q : QM (.val (.builtin id)) [.obj k] st) : Meth G c bud (.obj k) x QM R st := fun r E F s cv pl rk a hc => by
 obtain ⟨l, n, cs, rfl, he, h2, hcs⟩ := own_list a ho hc
 exact .of (getMethod_builtin ⟨_, h2, rfl⟩ PySem.F.plainAttrs_list slot hty (fun a e => by cases e; exact ⟨_, h2, rfl⟩) ⟨E, F, st, _, _, Grow.refl _ _, a, by simp [CV], CVs.one hc, q⟩)
theorem Meth_append {k : Nat} {vs : List AV} {QM : AV → List AV → St → Prop} (ho : st.H[k]? = some (.list vs)) (q : QM (.val (.builtin "list.append")) [.obj k] st) : Meth G c bud (.obj k) "append" QM R st :=
 meth_list G c bud ho PySem.F.slot_list_append PySem.F.type_list_append q
theorem Meth_pop {k : Nat} {vs : List AV} {QM : AV → List AV → St → Prop} (ho : st.H[k]? = some (.list vs)) (q : QM (.val (.builtin "list.pop")) [.obj k] st) : Meth G c bud (.obj k) "pop" QM R st :=
 meth_list G c bud ho PySem.F.slot_list_pop PySem.F.type_list_pop q
theorem own_turn {k : Nat} {vs vs' : List AV} {l : Addr} {m : Nat} {cs' : List Value} {h' : Heap} {tk : Nat} (a : Abs G.K c r E F st s) (ho : st.H[k]? = some (.list vs)) (he : E[k]? = some [l]) (hs : Heap.SameBut l s.heap h') (hl : h'.get? l = some (listOf cs'.toArray m)) (hc : CVs E F vs' cs') :
  Abs G.K c r E F { st with H := st.H.set k (.list vs') } { s with heap := h', toks := tk } :=
 a.set (tk := tk) he (by rw [ho]; simp) (KB.same hs) ⟨l, m, cs', rfl, hl, hc⟩
theorem list_upd {h : Heap} {l : Addr} {its its' : Array Value} {n : Nat} {f : Array Value → Array Value} (e : h.get? l = some (listOf its n)) (hf : f its = its') : ∃ m, (h.update l (Obj.mapSeq f)).get? l = some (listOf its' m) :=
 by
 rw [Heap.get?_update_self _ e rfl]
 unfold Obj.mapSeq W.listOf
 simp only [hf]
 exact ⟨_, rfl⟩
theorem Cal_append {k : Nat} {vs : List AV} {v : AV} (ho : st.H[k]? = some (.list vs)) (hz : vs.length ≤ 100000) (q : Q .none { st with H := st.H.set k (.list (vs ++ [v])) }) : Cal G c bud (.val (.builtin "list.append")) [.obj k, v] Q R st := fun r E F s cf cs rk a hf hc => by
 simp only [CVs] at hc
 obtain ⟨c1, r1, rfl, h1, c2, r2, rfl, h2, rfl⟩ := hc
 simp only [CV] at hf
 subst hf
 obtain ⟨l, n, cs, rfl, he, hl, hcs⟩ := own_list a ho h1
 have hsz : cs.toArray.size ≤ sizeLine := by rw [List.size_toArray, hcs.len, sizeLine_eq]; omega
 obtain ⟨m, hm⟩ := list_upd (f := fun x => x.push c2) (its' := (cs ++ [c2]).toArray) hl (by simp)
 refine .of (call_meets PySem.F.slot_list_append ⟨_, hl, rfl⟩ PySem.F.entry_list_append (PySem.F.args_list_append_2 _ _) (PySem.AutoListH.list_append_list_val_0 l _ n c2 hsz) ⟨hl, ?_⟩)
 exact ⟨E, F, _, .none, Grow.refl _ _, own_turn a ho he (Heap.SameBut.update ..) hm (hcs.app (CVs.one h2)), by simp [CV], q⟩
theorem CVs.last {vs : List AV} {v : AV} {cs : List Value} : CVs E F (vs ++ [v]) cs → ∃ ds d, cs = ds ++ [d] ∧ CVs E F vs ds ∧ CV E F v d := by
 induction vs generalizing cs with
 | nil =>
  intro h
  simp only [List.nil_append, CVs] at h
  obtain ⟨c, r, rfl, h1, rfl⟩ := h
  exact ⟨[], c, rfl, CVs.nil, h1⟩
 | cons u vs ih =>
  intro h
  simp only [List.cons_append, CVs] at h
  obtain ⟨c, r, rfl, h1, h2⟩ := h
  obtain ⟨ds, d, rfl, h3, h4⟩ := ih h2
  exact ⟨c :: ds, d, rfl, CVs.cons h1 h3, h4⟩
theorem Cal_pop {k : Nat} {vs : List AV} {v : AV} (ho : st.H[k]? = some (.list (vs ++ [v]))) (hz : vs.length ≤ 100000) (q : Q v { st with H := st.H.set k (.list vs) }) : Cal G c bud (.val (.builtin "list.pop")) [.obj k] Q R st := fun r E F s cf cs rk a hf hc => by
 simp only [CVs] at hc
 obtain ⟨c1, r1, rfl, h1, rfl⟩ := hc
 simp only [CV] at hf
 subst hf
 obtain ⟨l, n, cs, rfl, he, hl, hcs⟩ := own_list a ho h1
 obtain ⟨ds, d, rfl, h3, h4⟩ := hcs.last
 have hsz : (ds ++ [d]).toArray.size ≤ sizeLine := by rw [List.size_toArray, hcs.len, sizeLine_eq]; simp; omega
 have hk : (ds ++ [d]).toArray.size - 1 = ds.length := by rw [List.size_toArray, List.length_append]; rfl
 have hy : (ds ++ [d]).toArray[(ds ++ [d]).toArray.size - 1]? = some d := by rw [hk]; simp
 obtain ⟨m, hm⟩ := list_upd (f := fun xs => xs.eraseIdxIfInBounds ((ds ++ [d]).toArray.size - 1)) (its' := ds.toArray) hl (by rw [hk, PySem.W.kl_erase, List.append_nil])
 refine .of (call_meets PySem.F.slot_list_pop ⟨_, hl, rfl⟩ PySem.F.entry_list_pop (PySem.F.args_list_pop_1 _) (PySem.MeetsSeq.list_pop_last l _ n d hy hsz) ⟨hl, ?_⟩)
 exact ⟨E, F, _, v, Grow.refl _ _, own_turn a ho he (Heap.SameBut.update ..) hm h3, h4, q⟩
theorem Cal_len_list {k : Nat} {vs : List AV} (ho : st.H[k]? = some (.list vs)) (hz : vs.length ≤ 1000000) (q : Q (.int vs.length) st) : Cal G c bud (.val (.builtin "len")) [.obj k] Q R st := fun r E F s cf cs rk a hf hc => by
 simp only [CVs] at hc
 obtain ⟨c1, r1, rfl, h1, rfl⟩ := hc
 simp only [CV] at hf
 subst hf
 obtain ⟨l, n, cs, rfl, he, hl, hcs⟩ := own_list a ho h1
 refine .of (call_len_list (isList_of hl) (by rw [List.size_toArray, hcs.len]; omega) (post_mk a ?_ q))
 simp [CV, hcs.len]
theorem Cal_len_lst {vs : List AV} (hz : vs.length ≤ 1000000) (q : Q (.int vs.length) st) : Cal G c bud (.val (.builtin "len")) [.lst vs] Q R st := fun r E F s cf cs rk a hf hc => by
 simp only [CVs] at hc
 obtain ⟨c1, r1, rfl, h1, rfl⟩ := hc
 simp only [CV] at hf
 subst hf
 obtain ⟨l, cs, rfl, hl, hcs⟩ := frz_list a h1
 refine .of (call_len_list hl (by rw [List.size_toArray, hcs.len]; omega) (post_mk a ?_ q))
 simp [CV, hcs.len]
theorem Cal_len_tupK {p : Addr} {cs : List Value} {o : Obj} {m : Nat} (n : Nat) (hp : G.K.lookup p = some o) (ht : o.cls = .type "tuple") (hd : o.data = .seq cs.toArray m) (hn : cs.length = n) (hz : n ≤ 1000000) (q : Q (.int n) st) : Cal G c bud (.val (.builtin "len")) [.val (.ref p)] Q R st := fun r E F s cf cv rk a hf hc => by
 simp only [CVs, CV] at hc
 obtain ⟨c1, r1, rfl, rfl, rfl⟩ := hc
 simp only [CV] at hf
 subst hf
 have hl : IsTup s.heap p cs.toArray := ⟨o, (a.sta rk).k _ _ hp, ht, m, hd⟩
 refine .of (PyProof.Rows.len_tuple hl (by rw [List.size_toArray, hn]; omega) (post_mk a ?_ q))
 simp [CV, hn]
end
end
section
open PySem.SeqAt (EqAt RcAt)
section
variable {P : CP} {M : Model} {A : Around} {E : Value → Shared → Prop} {s : Shared} {env : Env}
theorem wpP_operate {vs : List Value} {m : Sem Value} {Q : Value → Shared → Prop} (h : wpP P M A m Q E s) : wpP P M A (operate vs m) Q E s := fun Γ p hΓ hC => by
 rw [Sem.wp_operate]; exact h Γ p hΓ hC
theorem wpP_Compare2 {l op₁ op₂ r₁ r₂ pos} {Q : Value → Shared → Prop} (h : wpP P M A (eval l env) (fun a s₁ => wpP P M A (eval r₁ env) (fun b s₂ => wpP P M A (compareOp op₁ a b) (fun c s₃ => wpP P M A (truthy c) (fun t s₄ =>
   if t then wpP P M A (eval r₂ env) (fun d s₅ => wpP P M A (compareOp op₂ b d) Q E s₅) E s₄ else Q c s₄) E s₃) E s₂) E s₁) E s)
  (hm : lastMarks [op₁, op₂] [r₁, r₂] = false := by with_unfolding_all rfl) : wpP P M A (eval (.Compare l [op₁, op₂] [r₁, r₂] pos) env) Q E s := by
 show wpP P M A (do compareChain pos (← eval l env) [op₁, op₂] (markedEach [op₁, op₂] [r₁, r₂] [eval r₁ env, eval r₂ env])) Q E s
 rw [markedEach_of_false _ _ _ hm]
 refine wpP_bind (wpP_mono h (fun a s₁ h₁ => ?_) fun _ _ x => x)
 show wpP P M A (do
  let rv ← holding [a] (eval r₁ env)
  standAt pos
  let c ← holding [a, rv] (compareOp op₁ a rv)
  release [a, rv] [c]
  if ← holding [c, rv] (truthy c) then (do
   let rw ← holding [rv] (eval r₂ env)
   standAt pos
   operate [rv, rw] (compareOp op₂ rv rw)) else pure c) Q E s₁
 refine wpP_bind (wpP_holding (wpP_mono h₁ (fun b s₂ h₂ => wpP_bind (wpP_standAt (wpP_bind (wpP_holding (wpP_mono h₂ (fun c s₃ h₃ =>
  wpP_bind (.of (wpAny_release' (wpP_bind (wpP_holding (wpP_mono h₃ (fun t s₄ h₄ => ?_) fun _ _ x => x)))))) fun _ _ x => x))))) fun _ _ x => x))
 cases t with
 | false => exact wpP_pure h₄
 | true => exact wpP_bind (wpP_holding (wpP_mono h₄ (fun d s₅ h₅ => wpP_bind (wpP_standAt (wpP_operate h₅))) fun _ _ x => x))
theorem wpP_isTrue_Compare2 {l op₁ op₂ r₁ r₂ pos whole} {Q : Bool → Shared → Prop} (h : wpP P M A (eval l env) (fun a s₁ => wpP P M A (eval r₁ env) (fun b s₂ => wpP P M A (compareOp op₁ a b) (fun c s₃ => wpP P M A (truthy c) (fun t s₄ =>
   if t then wpP P M A (eval r₂ env) (fun d s₅ => wpP P M A (compareOp op₂ b d) (fun e s₆ => wpP P M A (truthy e) Q E s₆) E s₅) E s₄ else Q false s₄) E s₃) E s₂) E s₁) E s)
  (hm : lastMarks [op₁, op₂] [r₁, r₂] = false := by with_unfolding_all rfl) : wpP P M A (isTrue (.Compare l [op₁, op₂] [r₁, r₂] pos) env whole) Q E s := by
 show wpP P M A (do testChain pos (← eval l env) [op₁, op₂] (markedEach [op₁, op₂] [r₁, r₂] [eval r₁ env, eval r₂ env])) Q E s
 rw [markedEach_of_false _ _ _ hm]
 refine wpP_bind (wpP_mono h (fun a s₁ h₁ => ?_) fun _ _ x => x)
 show wpP P M A (do
  let rv ← holding [a] (eval r₁ env)
  standAt pos
  let c ← holding [a, rv] (compareOp op₁ a rv)
  release [a, rv] [c]
  if ← holding [c, rv] (truthy c) then (do
   let rw ← holding [rv] (eval r₂ env)
   standAt pos
   let c ← operate [rv, rw] (compareOp op₂ rv rw)
   holding [c] (truthy c)) else pure false) Q E s₁
 refine wpP_bind (wpP_holding (wpP_mono h₁ (fun b s₂ h₂ => wpP_bind (wpP_standAt (wpP_bind (wpP_holding (wpP_mono h₂ (fun c s₃ h₃ =>
  wpP_bind (.of (wpAny_release' (wpP_bind (wpP_holding (wpP_mono h₃ (fun t s₄ h₄ => ?_) fun _ _ x => x)))))) fun _ _ x => x))))) fun _ _ x => x))
 cases t with
 | false => exact wpP_pure h₄
 | true => exact wpP_bind (wpP_holding (wpP_mono h₄ (fun d s₅ h₅ => wpP_bind (wpP_standAt (wpP_bind (wpP_operate (wpP_mono h₅ (fun _ _ q => wpP_holding q) fun _ _ x => x))))) fun _ _ x => x))
end
section
variable {G : Gl} {c : FnC} {bud : Nat} {Q : AV → St → Prop} {R : List UInt8 → St → Prop} {st : St} {r : Rt} {E E' : Own} {F F' : Led} {s : Shared}
theorem Ev_cmp2 {l e₁ e₂ : Expr} {op₁ op₂ : CmpOp} {pos : Pos} (h : Ev G c bud l (fun a st1 => Ev G c bud e₁ (fun b st2 => Cmp G c bud op₁ a b (fun v st3 => ∃ t, v = .bool t ∧ (t = true → Ev G c bud e₂ (fun d st4 => Cmp G c bud op₂ b d Q R st4) R st3) ∧ (t = false → Q (.bool false) st3)) R st2) R st1) R st)
  (hm : lastMarks [op₁, op₂] [e₁, e₂] = false := by with_unfolding_all rfl) : Ev G c bud (.Compare l [op₁, op₂] [e₁, e₂] pos) Q R st := fun r E F s rk a =>
 wpP_Compare2 (hm := hm) (wpP_mono (h r E F s rk a) (fun ca s1 ⟨E1, F1, st1, av, g1, a1, c1, q1⟩ => wpP_mono (q1 r E1 F1 s1 rk a1) (fun cb s2 ⟨E2, F2, st2, bv, g2, a2, c2, q2⟩ =>
  wpP_mono (q2 r E2 F2 s2 ca cb rk a2 (CV.grow g2 _ _ c1) c2) (fun cc s3 ⟨E3, F3, st3, tv, g3, a3, c3, t, e3, q3, q4⟩ => by
   subst e3
   simp only [CV] at c3
   subst c3
   refine .of (wpAny_truthy_bool ?_)
   cases t with
   | false => exact ⟨E3, F3, st3, _, (g1.trans g2).trans g3, a3, by simp [CV], q4 rfl⟩
   | true =>
    rw [if_pos rfl]
    exact wpP_mono (q3 rfl r E3 F3 s3 rk a3) (fun cd s5 ⟨E5, F5, st5, dv, g5, a5, c5, q5⟩ => q5.up rk (((g1.trans g2).trans g3).trans g5) a5 (CV.grow (g3.trans g5) _ _ c2) c5) fun _ _ => Err.back ((g1.trans g2).trans g3))
   fun _ _ => Err.back (g1.trans g2)) fun _ _ => Err.back g1) fun _ _ z => z)
theorem Et_cmp2 {l e₁ e₂ : Expr} {op₁ op₂ : CmpOp} {pos : Pos} {Q : Bool → St → Prop} (h : Ev G c bud l (fun a st1 => Ev G c bud e₁ (fun b st2 => Cmp G c bud op₁ a b (fun v st3 => ∃ t, v = .bool t ∧ (t = true → Ev G c bud e₂ (fun d st4 => Cmp G c bud op₂ b d (fun u st5 => ∃ t, u = .bool t ∧ Q t st5) R st4) R st3) ∧ (t = false → Q false st3)) R st2) R st1) R st)
  (hm : lastMarks [op₁, op₂] [e₁, e₂] = false := by with_unfolding_all rfl) : Et G c bud (.Compare l [op₁, op₂] [e₁, e₂] pos) Q R st := fun r E F s rk a =>
 wpP_isTrue_Compare2 (hm := hm) (wpP_mono (h r E F s rk a) (fun ca s1 ⟨E1, F1, st1, av, g1, a1, c1, q1⟩ => wpP_mono (q1 r E1 F1 s1 rk a1) (fun cb s2 ⟨E2, F2, st2, bv, g2, a2, c2, q2⟩ =>
  wpP_mono (q2 r E2 F2 s2 ca cb rk a2 (CV.grow g2 _ _ c1) c2) (fun cc s3 ⟨E3, F3, st3, tv, g3, a3, c3, t, e3, q3, q4⟩ => by
   subst e3
   simp only [CV] at c3
   subst c3
   refine .of (wpAny_truthy_bool ?_)
   cases t with
   | false => exact ⟨E3, F3, st3, (g1.trans g2).trans g3, a3, q4 rfl⟩
   | true =>
    rw [if_pos rfl]
    refine wpP_mono (q3 rfl r E3 F3 s3 rk a3) (fun cd s5 ⟨E5, F5, st5, dv, g5, a5, c5, q5⟩ => ?_) fun _ _ => Err.back ((g1.trans g2).trans g3)
    refine wpP_mono (q5 r E5 F5 s5 cb cd rk a5 (CV.grow (g3.trans g5) _ _ c2) c5) (fun ce s6 ⟨E6, F6, st6, ev, g6, a6, c6, u, e6, q6⟩ => ?_) fun _ _ => Err.back (((g1.trans g2).trans g3).trans g5)
    subst e6
    simp only [CV] at c6
    subst c6
    exact .of (wpAny_truthy_bool ⟨E6, F6, st6, (((g1.trans g2).trans g3).trans g5).trans g6, a6, q6⟩))
   fun _ _ => Err.back (g1.trans g2)) fun _ _ => Err.back g1) fun _ _ z => z)
theorem b8 (x : UInt8) : ((x.toNat : Int).toNat).toUInt8 = x := by
 have : ((x.toNat : Int).toNat) = x.toNat := by omega
 rw [this]
 exact UInt8.ofNat_toNat
theorem gives_in_bytes (b : Array UInt8) (t : Tok) (i : Int) (u : Tok) (h0 : 0 ≤ i) (h1 : i < 256) : Gives (Builtin.«bytes.__contains__» ⟨[.bytes b t, .int i u], []⟩) (.val (.bool (b.contains i.toNat.toUInt8))) := by
 refine .of_wp fun M A E s Q hq => ?_
 show wpAny M A (Builtin.Bytes.containsIn "bytes.__contains__" (.bytes b t) (.int i u) >>= fun r => _) _ E s
 refine wpAny_bind ?_
 unfold Builtin.Bytes.containsIn
 refine wpAny_bind (wpAny_attempt (wpAny_of_eq (a := i) rfl (wpAny_bind (wpAny_of_eq (a := some b) (by kernel_rfl) ?_))))
 show wpAny M A (if (decide (i < 0) || decide (i ≥ 256)) = true then _ else _) _ E s
 rw [if_neg (by simp; omega)]
 exact wpAny_pure (wpAny_pure ⟨_, rfl, hq⟩)
theorem Cmp_in_bytes {b : List UInt8} {x : UInt8} (q : Q (.bool (b.contains x)) st) : Cmp G c bud .In (.int x.toNat) (.bytes b) Q R st := fun r E F s ca cb rk a h1 h2 => by
 simp only [CV] at h1 h2
 obtain ⟨u, rfl⟩ := h1
 obtain ⟨t, rfl⟩ := h2
 have hx := x.toNat_lt
 refine .of (in_gives (PySem.W.typeIs_bytes s _ t) FB.slot_bytes_contains FB.entry_bytes_contains (FB.args_bytes_contains_2 _ _) (gives_in_bytes b.toArray t x.toNat u (by omega) (by omega)) ?_)
 rw [b8]
 exact post_mk0 a (by simp [CV]) q
theorem Cmp_notin_bytes {b : List UInt8} {x : UInt8} (q : Q (.bool (!b.contains x)) st) : Cmp G c bud .NotIn (.int x.toNat) (.bytes b) Q R st := fun r E F s ca cb rk a h1 h2 => by
 simp only [CV] at h1 h2
 obtain ⟨u, rfl⟩ := h1
 obtain ⟨t, rfl⟩ := h2
 have hx := x.toNat_lt
 refine .of (notIn_gives (PySem.W.typeIs_bytes s _ t) FB.slot_bytes_contains FB.entry_bytes_contains (FB.args_bytes_contains_2 _ _) (gives_in_bytes b.toArray t x.toNat u (by omega) (by omega)) ?_)
 rw [b8]
 exact post_mk0 a (by simp [CV]) q
end
end
section
open PySem.SeqAt (EqAt RcAt)
theorem no_index_bytes : typeLookup (.type "bytes") "__index__" = pure none := by rw [typeLookup_type, builtinLookup_eq_fast]; kernel_rfl
theorem find_none {b sub : Array UInt8} (h : ∀ i, i + sub.size ≤ b.size → b.extract i (i + sub.size) ≠ sub) : Builtin.Bytes.find? b sub 0 b.size = none := by
 unfold Builtin.Bytes.find?
 rw [List.find?_eq_none]
 intro i hi
 rw [List.mem_map] at hi
 obtain ⟨j, hj, rfl⟩ := hi
 rw [List.mem_range] at hj
 simpa using h j (by omega)
section
variable {prog : Program} {w : World} {A : Around} {E : Value → Shared → Prop} {s : Shared}
theorem in_bytes_bytes {a b : Array UInt8} {t u : Tok} {Q : Value → Shared → Prop} (hh : A.handled = none)
  (h : ∀ h' tk, (∀ c o, s.heap.get? c = some o → h'.get? c = some o) → Q (.bool (Builtin.Bytes.find? b a 0 b.size).isSome) { s with heap := h', toks := tk }) :
  wpAny (model prog w) A (compareOp .In (.bytes a u) (.bytes b t)) Q E s := by
 refine PySem.SeqRoads2.in_meets (PySem.W.typeIs_bytes s _ t) FB.slot_bytes_contains FB.entry_bytes_contains (FB.args_bytes_contains_2 _ _)
  (S := fun A R s => A.handled = none ∧ ∀ h' tk, (∀ c o, s.heap.get? c = some o → h'.get? c = some o) → R (.ok (.ret (.bool (Builtin.Bytes.find? b a 0 b.size).isSome))) { s with heap := h', toks := tk })
  (.of_wp fun prog w A R s hs => ?_) ⟨hh, fun h' tk k1 => ⟨_, rfl, h h' tk k1⟩⟩
 obtain ⟨hh, hq⟩ := hs
 show wpAny _ _ (Builtin.Bytes.containsIn "bytes.__contains__" (.bytes b t) (.bytes a u) >>= fun r => _) _ _ s
 refine wpAny_bind ?_
 unfold Builtin.Bytes.containsIn
 refine wpAny_bind (wpAny_attempt ?_)
 show wpAny _ _ (asIndex (.bytes a u)) _ _ s
 unfold asIndex
 refine wpAny_bind (wpAny_of_eq (a := none) rfl ?_)
 refine wpAny_bind (wpAny_callSpecial?_none (PySem.W.typeIs_bytes s a u) no_index_bytes ?_)
 refine wpAny_bind (wpAny_of_eq (a := "bytes") (by kernel_rfl) ?_)
 have fin : ∀ h' tk e, Heap.NewExc s.heap h' e "TypeError" → wpAny (model prog w) A.in1 (do
   let some b ← Builtin.Bytes.buffer? "bytes.__contains__" (.bytes b t) | unsupported "internal:bytes-without-payload"
   match (Except.error (Value.ref e) : Except Value Int) with
   | .ok i =>
    if i < 0 || i ≥ 256 then rule s!"{"bytes.__contains__"}.byte-out-of-range"; raiseError "ValueError" "byte must be in range(0, 256)"
    return b.contains i.toNat.toUInt8
   | .error _ =>
    match ← Builtin.Bytes.buffer? "bytes.__contains__" (.bytes a u) with
    | some sub => rule s!"{"bytes.__contains__"}.run-of-bytes"; return (Builtin.Bytes.find? b sub 0 b.size).isSome
    | none => rule s!"{"bytes.__contains__"}.not-bytes-like"; raiseError "TypeError" s!"a bytes-like object is required, not '{← typeNameOf (.bytes a u)}'") (fun r s' => wpAny (model prog w) A.in1 (ret (.bool r)) (fun fin s' => ∃ v, fin = .done (.ret v) ∧ R (.ok (.ret v)) s') (fun e s' => R (.error e) s') s') (fun e s' => R (.error e) s') { s with heap := h', toks := tk } := by
  intro h' tk e he
  refine wpAny_bind (wpAny_of_eq (a := some b) (by kernel_rfl) ?_)
  refine wpAny_bind (wpAny_of_eq (a := some a) (by kernel_rfl) ?_)
  refine wpAny_bind (wpAny_rule (wpAny_pure (wpAny_pure ⟨_, rfl, hq h' tk he.keeps⟩)))
 exact_raiseError plainExc_TypeError hh fin
end
end
section
open PySem.SeqAt (EqAt RcAt)
noncomputable def kindEq : AV → AV → Option Bool
 | .int i, .int j => some (j == i)
 | .bytes a, .bytes b => some (b == a)
 | _, _ => none
noncomputable def anyEq (x : AV) : List AV → Option Bool
 | [] => some false
 | v :: vs => match kindEq x v, anyEq x vs with
  | some a, some b => some (a || b)
  | _, _ => none
noncomputable def eqV : AV → Value → Bool
 | .int i, .int j _ => j == i
 | .bytes a, .bytes b _ => b.toList == a
 | _, _ => false
theorem kindEq_inv {x v : AV} {p : Bool} (h : kindEq x v = some p) : (∃ i j, x = .int i ∧ v = .int j ∧ p = (j == i)) ∨ ∃ a b, x = .bytes a ∧ v = .bytes b ∧ p = (b == a) := by
 unfold kindEq at h
 split at h
 ·cases h; exact .inl ⟨_, _, rfl, rfl, rfl⟩
 ·cases h; exact .inr ⟨_, _, rfl, rfl, rfl⟩
 ·cases h
theorem anyEq_spec {E : Own} {F : Led} {x : AV} : ∀ {vs : List AV} {b : Bool} {cs : List Value}, anyEq x vs = some b → CVs E F vs cs → cs.any (eqV x) = b ∧ ∀ y ∈ cs, ∃ v, kindEq x v = some (eqV x y) ∧ CV E F v y
 | [], b, cs, h, hc => by
  simp only [CVs] at hc
  simp only [anyEq, Option.some.injEq] at h
  subst hc h
  exact ⟨rfl, fun y hy => nomatch hy⟩
 | v :: vs, b, cs, h, hc => by
  simp only [CVs] at hc
  obtain ⟨c, r, rfl, h1, h2⟩ := hc
  simp only [anyEq] at h
  cases hk : kindEq x v with
  | none => rw [hk] at h; cases h
  | some p =>
   cases ha : anyEq x vs with
   | none => rw [hk, ha] at h; cases h
   | some q =>
    rw [hk, ha] at h
    cases h
    obtain ⟨e, k⟩ := anyEq_spec ha h2
    have hp : eqV x c = p := by
     rcases kindEq_inv hk with ⟨i, j, rfl, rfl, rfl⟩ | ⟨i, j, rfl, rfl, rfl⟩
     ·simp only [CV] at h1; obtain ⟨t, rfl⟩ := h1; rfl
     ·simp only [CV] at h1; obtain ⟨t, rfl⟩ := h1; rfl
    refine ⟨by rw [List.any_cons, e, hp], fun y hy => ?_⟩
    rcases List.mem_cons.mp hy with rfl | hy
    ·exact ⟨v, by rw [hk, hp], h1⟩
    ·exact k y hy
section
variable {G : Gl} {c : FnC} {bud : Nat} {Q : AV → St → Prop} {R : List UInt8 → St → Prop} {st : St} {r : Rt} {E E' : Own} {F F' : Led} {s : Shared}
theorem eqAt_of {x v : AV} {cx y : Value} {A : Around} (hk : kindEq x v = some (eqV x y)) (hx : CV E F x cx) (hv : CV E F v y) : EqAt A s y cx (eqV x y) := by
 rcases kindEq_inv hk with ⟨i, j, rfl, rfl, _⟩ | ⟨i, j, rfl, rfl, _⟩
 ·simp only [CV] at hx hv
  obtain ⟨t, rfl⟩ := hx
  obtain ⟨u, rfl⟩ := hv
  exact (PySem.MeetsSeq.EqGives.int _ _ u t).at A s
 ·simp only [CV] at hx hv
  obtain ⟨t, rfl⟩ := hx
  obtain ⟨u, rfl⟩ := hv
  refine fun prog w E Q hq => PySem.W.eqBool_bytes ?_
  have hb : ∀ p q : List UInt8, (p == q) = decide (p = q) := fun p q => by rw [Bool.eq_iff_iff, beq_iff_eq, decide_eq_true_eq]
  rw [← hb]
  exact hq
theorem Cmp_in_tup {x : AV} {vs : List AV} {b : Bool} (hb : anyEq x vs = some b) (q : Q (.bool b) st) : Cmp G c bud .In x (.tup vs) Q R st := fun r E F s ca cb rk a h1 h2 => by
 obtain ⟨l, cs, rfl, ⟨o, e1, e2, n, e3⟩, hc⟩ := frz_tup a h2
 obtain ⟨e, k⟩ := anyEq_spec hb hc
 refine .of (SeqAt.in_tupleAt (items := cs.toArray) (eqV x) ⟨o, e1, e2, n, e3⟩ (fun y hy => ?_) ?_)
 ·obtain ⟨v, hk, hv⟩ := k y (by simpa using hy)
  exact eqAt_of hk h1 hv
 ·have : cs.toArray.any (eqV x) = b := by simpa using e
  rw [this]
  exact post_mk0 a (by simp [CV]) q
theorem Cmp_notin_tup {x : AV} {vs : List AV} {b : Bool} (hb : anyEq x vs = some b) (q : Q (.bool (!b)) st) : Cmp G c bud .NotIn x (.tup vs) Q R st := fun r E F s ca cb rk a h1 h2 => by
 obtain ⟨l, cs, rfl, ⟨o, e1, e2, n, e3⟩, hc⟩ := frz_tup a h2
 obtain ⟨e, k⟩ := anyEq_spec hb hc
 refine .of (SeqAt.notIn_tupleAt (items := cs.toArray) (eqV x) ⟨o, e1, e2, n, e3⟩ (fun y hy => ?_) ?_)
 ·obtain ⟨v, hk, hv⟩ := k y (by simpa using hy)
  exact eqAt_of hk h1 hv
 ·have : cs.toArray.any (eqV x) = b := by simpa using e
  rw [this]
  exact post_mk0 a (by simp [CV]) q
theorem Cmp_in_bb {a b : List UInt8} (h : ∀ i, i + a.length ≤ b.length → (b.drop i).take a.length ≠ a) (q : Q (.bool false) st) : Cmp G c bud .In (.bytes a) (.bytes b) Q R st := fun r E F s ca cb rk x h1 h2 => by
 simp only [CV] at h1 h2
 obtain ⟨t, rfl⟩ := h1
 obtain ⟨u, rfl⟩ := h2
 refine .of (in_bytes_bytes rk.hd fun h' tk k => ?_)
 have hn : Builtin.Bytes.find? b.toArray a.toArray 0 b.toArray.size = none := find_none fun i hi e => h i (by simpa using hi) (by
  have e2 := congrArg Array.toList e
  simpa [List.extract_eq_take_drop] using e2)
 rw [hn]
 exact ⟨E, F, st, _, Grow.refl _ _, x.loose0 rk k, by simp [CV], q⟩
theorem Cal_abs {i : Int} (q : Q (.int (if i < 0 then -i else i)) st) : Cal G c bud (.val (.builtin "abs")) [.int i] Q R st := fun r E F s cf cs rk a hf hc => by
 simp only [CVs, CV] at hf hc
 obtain ⟨_, _, rfl, ⟨t, rfl⟩, rfl⟩ := hc
 subst hf
 exact .of (call_abs_int fun u tk => post_mk a (by simp [CV]) q)
theorem Cal_min {i j : Int} (q : Q (.int (if j < i then j else i)) st) : Cal G c bud (.val (.builtin "min")) [.int i, .int j] Q R st := fun r E F s cf cs rk a hf hc => by
 simp only [CVs, CV] at hf hc
 obtain ⟨_, _, rfl, ⟨t, rfl⟩, _, _, rfl, ⟨u, rfl⟩, rfl⟩ := hc
 subst hf
 refine .of (min_two_ints rk.hd fun h' tk k => ⟨E, F, st, _, Grow.refl _ _, a.loose0 rk k, ?_, q⟩)
 by_cases h : j < i
 ·simp [CV, h]
 ·simp [CV, h]
theorem Cal_int {i : Int} (q : Q (.int i) st) : Cal G c bud (.val (.type "int")) [.int i] Q R st := fun r E F s cf cs rk a hf hc => by
 simp only [CVs, CV] at hf hc
 obtain ⟨_, _, rfl, ⟨t, rfl⟩, rfl⟩ := hc
 subst hf
 exact .of (call_int_int (post_mk0 a (by simp [CV]) q))
theorem Meth_bitlen {i : Int} {QM : AV → List AV → St → Prop} (q : QM (.val (.builtin "int.bit_length")) [.int i] st) : Meth G c bud (.int i) "bit_length" QM R st := fun r E F s cv pl rk a hc => by
 have hc0 := hc
 simp only [CV] at hc
 obtain ⟨t, rfl⟩ := hc
 exact .of (getMethod_int_bit_length ⟨E, F, st, _, _, Grow.refl _ _, a, by simp [CV], CVs.one hc0, q⟩)
theorem Cal_bitlen {i : Int} (q : Q (.int (Builtin.Int.intBits i)) st) : Cal G c bud (.val (.builtin "int.bit_length")) [.int i] Q R st := fun r E F s cf cs rk a hf hc => by
 simp only [CVs, CV] at hf hc
 obtain ⟨_, _, rfl, ⟨t, rfl⟩, rfl⟩ := hc
 subst hf
 exact .of (call_int_bit_length (post_mk a (by simp [CV]) q))
theorem Cal_isi_list {k : Nat} {vs : List AV} (ho : st.H[k]? = some (.list vs)) (q : Q (.bool false) st) : Cal G c bud (.val (.builtin "isinstance")) [.obj k, .val (.type "int")] Q R st := fun r E F s cf cs rk a hf hc => by
 simp only [CVs] at hc
 obtain ⟨c1, r1, rfl, h1, c2, r2, rfl, h2, rfl⟩ := hc
 simp only [CV] at hf h2
 subst hf h2
 obtain ⟨l, n, cs, rfl, he, hl, hcs⟩ := own_list a ho h1
 exact .of (PySem.IsiPair.list_int hl rfl (post_mk a (by simp [CV]) q))
theorem Cal_isi_tup {vs : List AV} (q : Q (.bool false) st) : Cal G c bud (.val (.builtin "isinstance")) [.tup vs, .val (.type "str")] Q R st := fun r E F s cf cs rk a hf hc => by
 simp only [CVs] at hc
 obtain ⟨c1, r1, rfl, h1, c2, r2, rfl, h2, rfl⟩ := hc
 simp only [CV] at hf h2
 subst hf h2
 obtain ⟨l, cs, rfl, ⟨o, e1, e2, n, e3⟩, hcs⟩ := frz_tup a h1
 exact .of (PySem.IsiPair.tuple_str e1 e2 (post_mk a (by simp [CV]) q))
theorem Cal_isi_str {x : Str} (q : Q (.bool true) st) : Cal G c bud (.val (.builtin "isinstance")) [.str x, .val (.type "str")] Q R st := fun r E F s cf cs rk a hf hc => by
 simp only [CVs, CV] at hf hc
 obtain ⟨c1, r1, rfl, ⟨t, rfl⟩, c2, r2, rfl, rfl, rfl⟩ := hc
 subst hf
 exact .of (PySem.IsiPair.str_str (post_mk0 a (by simp [CV]) q))
theorem Cal_bytes1 {x : UInt8} (q : Q (.bytes [x]) st) : Cal G c bud (.val (.type "bytes")) [.lst [.int x.toNat]] Q R st := fun r E F s cf cs rk a hf hc => by
 simp only [CVs] at hc
 obtain ⟨c1, r1, rfl, h1, rfl⟩ := hc
 simp only [CV] at hf
 subst hf
 obtain ⟨l, cs, rfl, hl, hcs⟩ := frz_list a h1
 simp only [CVs, CV] at hcs
 obtain ⟨_, _, rfl, ⟨t, rfl⟩, rfl⟩ := hcs
 have hx := x.toNat_lt
 refine .of (call_bytes_ints (ns := [(x.toNat : Int)]) hl (.cons _ _ .nil) (by simp; omega) (by simp [sizeLine_eq]) rk.hd fun h' t' k hk => ⟨E, F, st, _, Grow.refl _ _, a.loose0 rk hk, ?_, q⟩)
 simp only [CV, byteArr]
 exact ⟨t', by simp only [List.map_cons, List.map_nil, b8]⟩
theorem Cal_list_own {k : Nat} {vs : List AV} (ho : st.H[k]? = some (.list vs)) (hz : vs.length ≤ 100000) (q : Q (.lst vs) st) : Cal G c bud (.val (.type "list")) [.obj k] Q R st := fun r E F s cf cs rk a hf hc => by
 simp only [CVs] at hc
 obtain ⟨c1, r1, rfl, h1, rfl⟩ := hc
 simp only [CV] at hf
 subst hf
 obtain ⟨l, n, cs, rfl, he, hl, hcs⟩ := own_list a ho h1
 refine .of (call_list_seq l (.inl rfl) hl rfl rfl (fun h' c' k1 k2 => ?_) (by rw [List.size_toArray, hcs.len, sizeLine_eq]; omega))
 have kb : ∀ b o, s.heap.get? b = some o → h'.get? b = some o := k1
 have a1 := a.loose0 (tk := s.toks) rk kb
 have a2 := a1.led (X := [(s.heap.objs.size, listOf cs.toArray c')]) fun p hp => by
  rw [List.mem_singleton] at hp
  subst hp
  refine ⟨k2, fun q => ?_, fun q => ?_⟩
  ·exact noLt (Nat.le_refl _) (a.prot_lt (.inr (.inl q)))
  ·exact noLt (Nat.le_refl _) (a.prot_lt (.inl q))
 refine ⟨E, _, st, .lst vs, Grow.froz _ _ _, a2, ?_, q⟩
 simp only [CV]
 exact ⟨_, cs, listOf cs.toArray c', rfl, by simp, ⟨rfl, c', rfl⟩, CVs.grow (Grow.froz E F _) _ _ hcs⟩
end
end
section
theorem ba_plainAttrs : PlainAttrs "bytearray" :=
 ⟨⟨"bytearray.__getattribute__", by rw [typeLookup_type, builtinLookup_eq_fast]; kernel_rfl, by decide +kernel⟩, by rw [typeLookup_type, builtinLookup_eq_fast]; kernel_rfl⟩
theorem ba_owner : Manifest.owners.lookup (String.ofList ['y', 'a', 'r', 'r', 'a', 'e', 't', 'y', 'b'].reverse) = some Manifest.sig_bytearray := by kernel_rfl
theorem ba_slot_append : Slot "bytearray" "append" "bytearray.append" :=
 .of (owner := "bytearray") (n := "append") (by rw [typeLookup_type, builtinLookup_eq_fast]; kernel_rfl) (by decide +kernel) (by decide +kernel) (by decide +kernel)
  (by first | exact .inl (by decide +kernel) | exact .inr (by decide +kernel)) (by rw [isSubtype_type]; kernel_rfl)
theorem ba_type_append : typeOf (.builtin "bytearray.append") = pure (.type "method_descriptor") := by show builtinType _ = _; rw [builtinType_eq_fast]; kernel_rfl
theorem ba_entry_append : entryFor table "bytearray.append" = some Builtin.«bytearray.append» := entryFor_of_tree (by kernel_rfl)
theorem ba_args_append (a b : Value) : argsOk "bytearray.append" ⟨[a, b], []⟩ := by
 unfold argsOk; rw [signature?_of (id := "bytearray.append") (n := ['d', 'n', 'e', 'p', 'p', 'a']) (o := ['y', 'a', 'r', 'r', 'a', 'e', 't', 'y', 'b']) (by kernel_rfl) ba_owner]; kernel_rfl
theorem ba_slot_init : Slot "bytearray" "__init__" "bytearray.__init__" :=
 .of (owner := "bytearray") (n := "__init__") (by rw [typeLookup_type, builtinLookup_eq_fast]; kernel_rfl) (by decide +kernel) (by decide +kernel) (by decide +kernel)
  (by first | exact .inl (by decide +kernel) | exact .inr (by decide +kernel)) (by rw [isSubtype_type]; kernel_rfl)
theorem ba_entry_init : entryFor table "bytearray.__init__" = some Builtin.«bytearray.__init__» := entryFor_of_tree (by kernel_rfl)
theorem ba_args_init (a : Value) : argsOk "bytearray.__init__" ⟨[a], []⟩ := by
 unfold argsOk; rw [signature?_of (id := "bytearray.__init__") (n := ['_', '_', 't', 'i', 'n', 'i', '_', '_']) (o := ['y', 'a', 'r', 'r', 'a', 'e', 't', 'y', 'b']) (by kernel_rfl) ba_owner]; kernel_rfl
theorem ba_mro : mroOf (.type "bytearray") = pure [.type "bytearray", .type "object"] := by rw [mroOf_type]; kernel_rfl
theorem ba_lookup_new : typeLookup (.type "bytearray") "__new__" = pure (some (.builtin "bytearray.__new__")) := by rw [typeLookup_type, builtinLookup_eq_fast]; kernel_rfl
theorem ba_made : Bind.madeBy (.type "bytearray") = pure (some "bytearray.__new__") := madeBy_type ba_mro ba_lookup_new (by decide +kernel)
theorem ba_called : TypeCalled "bytearray" "bytearray.__new__" "bytearray.__init__" :=
 ⟨by decide +kernel, by decide +kernel, ⟨_, _, ba_mro⟩, ba_made, by decide +kernel, by rw [isSubtype_type]; kernel_rfl, ba_slot_init⟩
theorem ba_typeCall : checkTypeCall "bytearray" ⟨[], []⟩ = pure () := by kernel_rfl
theorem ba_newCall : checkBuiltinCall "bytearray.__new__" ⟨[.type "bytearray"], []⟩ = pure () := by kernel_rfl
theorem ba_plain_new : plainId "bytearray.__new__" = true := by decide +kernel
theorem ba_entry_new : entryFor table "bytearray.__new__" = some Builtin.«list.__new__» := entryFor_alias (id' := "list.__new__") (by kernel_rfl) (by decide +kernel) (by decide +kernel) (by kernel_rfl)
theorem ba_release : typeLookup (.type "bytearray") "__release_buffer__" = pure (some (.builtin "bytearray.__release_buffer__")) := by rw [typeLookup_type, builtinLookup_eq_fast]; kernel_rfl
theorem ba_owner_new : ("bytearray.__new__".splitOn ".__new__").headD "" = "bytearray" := by rw [split_bytearray]; rfl
theorem ba_sub : isSubtype (.type "bytearray") (.type "bytearray") = pure true := by rw [isSubtype_type]; kernel_rfl
theorem ba_buffer : typeLookup (.type "bytearray") "__buffer__" = pure (some (.builtin "bytearray.__buffer__")) := by rw [typeLookup_type, builtinLookup_eq_fast]; kernel_rfl
theorem ba_no_bytes : typeLookup (.type "bytearray") "__bytes__" = pure none := by rw [typeLookup_type, builtinLookup_eq_fast]; kernel_rfl
theorem ba_no_index : typeLookup (.type "bytearray") "__index__" = pure none := by rw [typeLookup_type, builtinLookup_eq_fast]; kernel_rfl
section
variable {prog : Program} {w : World} {A : Around} {E : Value → Shared → Prop} {s : Shared}
theorem code_ba_new {Q₁ : Value → Shared → Prop} (h : Q₁ (.ref s.heap.objs.size) { s with heap := s.heap.push { cls := .type "bytearray", data := .bytearray #[] } }) :
  codeAny (model prog w) A (.call (.builtin "bytearray.__new__") ⟨[.type "bytearray"], []⟩) (wants Q₁ E) s := by
 refine codeAny_of_tree ?_
 show wpAny _ A.in1 (do checkBuiltinCall "bytearray.__new__" ⟨[.type "bytearray"], []⟩; again (.builtin "bytearray.__new__" ⟨[.type "bytearray"], []⟩)) _ _ s
 refine wpAny_bind (wpAny_of_eq ba_newCall (wpAny_pure ⟨plainId_quiet ba_plain_new _, codeAny_builtin_stack ba_entry_new rfl fun p st => ?_⟩))
 rw [Around.under_plainId ba_plain_new _]
 have hsub := ba_sub
 have hown := ba_owner_new
 obtain ⟨hp, g, d, tk, os⟩ := s
 simp only [hown]
 wp_walk
 exact h
theorem tc_eq : Builtin.«type.__call__» ⟨[.type "bytearray"], []⟩ = (do
  let obj ← holding [.builtin "bytearray.__new__"] (call (.builtin "bytearray.__new__") [.type "bytearray"] [])
  if !(← isInstance obj (.type "bytearray")) then rule "type.call.new-gave-other-type"; return ← ret obj
  match ← holding [obj] (callSpecial? obj "__init__" [] []) with
  | none => ret obj
  | some r =>
   if r != .none then
    rule "type.call.init-returned-value"
    raiseError "TypeError" s!"__init__() should return None, not '{← typeNameOf r}'"
   ret obj) := by
 have h1 := ba_called.notType
 have h2 := ba_called.canCreate
 unfold Builtin.«type.__call__»
 simp only [h1, h2, ba_mro, ba_made, ba_typeCall]
 rfl
end
end
section
open PySem.Sem (wp)
section
variable {prog : Program} {w : World} {A : Around} {E : Value → Shared → Prop} {s : Shared} {M : Model} {R : Result → Shared → Prop}
theorem any_no {Γ : Ctx} {p : Pos} {f : Code × Pos → Bool} (hC : decP.C Γ) (hf : ∀ c q, decC c = false → f (c, q) = false) : ((Γ.code, p) :: Γ.below).any f = false := by
 rw [List.any_eq_false]
 intro x hx
 rw [Bool.not_eq_true]
 rcases List.mem_cons.mp hx with rfl | hx
 ·exact hf _ _ hC.1
 ·exact hf _ _ (hC.2 x hx)
theorem exported_no {v : Value} {Q : Bool → Shared → Prop} (h : Q false s) : wpP decP M A (Builtin.Bytes.exported v) Q E s := fun Γ p hΓ hC => by
 show Q (((Γ.code, p) :: Γ.below).any _) s
 refine Eq.mpr (congrArg (fun b => Q b s) (any_no hC fun c q hc => ?_)) h
 cases c with
 | builtin id args =>
  simp only [decC, exportIds, List.contains_cons, Bool.or_eq_false_iff] at hc
  obtain ⟨c1, c2, c3, c4, c5, c6⟩ := hc
  delta Builtin.Bytes.exported.match_1
  dsimp only
  refine (dif_neg (ne_of_beq_false c1)).trans ?_
  refine (dif_neg (ne_of_beq_false c2)).trans ?_
  refine (dif_neg (ne_of_beq_false c3)).trans ?_
  refine (dif_neg (ne_of_beq_false c4)).trans ?_
  refine (dif_neg (ne_of_beq_false c5)).trans ?_
  obtain ⟨pos, kw⟩ := args
  cases pos with
  | nil => rfl
  | cons u l => show (Builtin.Bytes.sameRef u v && Builtin.Bytes.decodersThatHold.contains id) = false; rw [c6, Bool.and_false]
 | _ => rfl
theorem exps_no {a : Addr} {b : List UInt8} {Q : Bool → Shared → Prop} (ha : s.heap.get? a = some (barrObj b)) (h : Q false s) : wpP decP M A (do let n ← Builtin.Bytes.exportsOf (.ref a); pure (decide (n > 0))) Q E s := by
 refine wpP_bind (wpP_bind (.of (wpAny_load ha ?_)))
 show wpP decP M A (pure 0) _ E s
 exact wpP_pure (wpP_pure h)
theorem checkResize_no {a : Addr} {b : List UInt8} {Q : Unit → Shared → Prop} (ha : s.heap.get? a = some (barrObj b)) (h : Q () s) : wpP decP M A (Builtin.Bytes.checkResize (.ref a)) Q E s := by
 unfold Builtin.Bytes.checkResize
 refine wpP_bind (wpP_bind (exported_no ?_))
 exact exps_no ha (wpP_pure h)
theorem write_ba {a : Addr} {b b' : List UInt8} {f : Array UInt8 → Array UInt8} {Q : Unit → Shared → Prop} (ha : s.heap.get? a = some (barrObj b)) (hf : f b.toArray = b'.toArray) (hz : b'.length ≤ 100000)
  (h : ∀ h', h'.get? a = some (barrObj b') → Heap.SameBut a s.heap h' → Q () { s with heap := h' }) : wpAny M A (Builtin.Bytes.write (.ref a) f) Q E s := by
 show wpAny M A (updateBytearray a f) Q E s
 unfold updateBytearray
 refine wpAny_bind (wpAny_load ha ?_)
 show wpAny _ _ (update a (Obj.mapBytearray f) >>= fun _ => lookBehind a) _ _ _
 refine wpAny_bind (wpAny_update ha ?_)
 have h2 : (s.heap.update a (Obj.mapBytearray f)).get? a = some (barrObj b') := by
  rw [Heap.get?_update_self (Obj.mapBytearray f) ha rfl]
  unfold Obj.mapBytearray barrObj
  simp only [hf]
 refine wpAny_lookBehind h2 ?_ (h _ h2 (Heap.SameBut.update ..))
 show (if b'.toArray.size > sizeLine then some "bytearray:memory" else none) = none
 rw [if_neg]
 rw [List.size_toArray, sizeLine_eq]; omega
theorem ownRelease_ba {a : Addr} {b : List UInt8} {Q : Bool → Shared → Prop} (ha : s.heap.get? a = some (barrObj b)) (h : Q false s) : wpAny M A (Builtin.Bytes.ownRelease (.ref a)) Q E s := by
 have hT : s.TypeIs (.ref a) "bytearray" := ⟨_, ha, rfl⟩
 unfold Builtin.Bytes.ownRelease Builtin.Bytes.slotIsOwn
 refine wpAny_bind (wpAny_bind (wpAny_specialOf hT ba_release ?_))
 dsimp only
 rw [if_neg (by decide +kernel)]
 refine wpAny_isInstance (T := "bytearray") hT (b := true) (by
  rw [show ("bytearray.__release_buffer__".dropRight ("__release_buffer__".length + 1)) = "bytearray" from by decide +kernel]
  exact ba_sub) ?_
 exact wpAny_pure h
theorem ba_bind : Builtin.Bytes.bindOptional "bytearray.__init__" "bytearray" ["source", "encoding", "errors"] [] [] = pure [none, none, none] := by kernel_rfl
theorem ba_init {a : Addr} {Q : PySem.Fin → Shared → Prop} (ha : s.heap.get? a = some (barrObj [])) (h : ∀ h', h'.get? a = some (barrObj []) → Heap.SameBut a s.heap h' → Q (.done (.ret .none)) { s with heap := h' }) :
  wpP decP M A (Builtin.«bytearray.__init__» ⟨[.ref a], []⟩) Q E s := by
 unfold Builtin.«bytearray.__init__»
 refine wpP_bind (.of (ownRelease_ba ha ?_))
 show wpP decP M A (Builtin.Bytes.bindOptional "bytearray.__init__" "bytearray" ["source", "encoding", "errors"] [] [] >>= _) _ _ _
 rw [ba_bind]
 refine wpP_bind (wpP_pure ?_)
 dsimp only
 refine wpP_bind (wpP_pure (wpP_bind (wpP_pure ?_)))
 refine wpP_bind (wpP_bind (exported_no ?_))
 refine exps_no ha ?_
 refine wpP_bind (.of (write_ba ha (b' := []) rfl (by simp) fun h' h1 h2 => ?_))
 exact wpP_bind (wpP_pure (wpP_pure (h h' h1 h2)))
theorem codeP_builtin {P : CP} {id : String} {args : Args} {b : Builtin} (hb : entryFor table id = some b)
  (h : wpP P (model prog w) (A.under (.builtin id args)) (b args) (fun fin s' => match fin with | .done f => R (.ok f) s' | .again c' => c'.quiet = true ∧ decC c' = false ∧ codeP P (model prog w) A c' R s') (fun e s' => R (.error e) s') s) : codeP P (model prog w) A (.builtin id args) R s := by
 refine codeP_of_tree ?_
 show wpP P _ _ (match entryFor table id with | some b => b args | none => unsupported ((withoutEnding? id "#data").getD id)) _ _ s
 rw [hb]; exact h
theorem codeP_call_builtin {P : CP} {id : String} {args : Args} {b : Builtin} (hq : plainId id = true) (hd : decC (.builtin id args) = false) (hb : entryFor table id = some b)
  (h : wpAny (model prog w) A.in1 (checkBuiltinCall id args) (fun _ s₁ => wpP P (model prog w) A.in1 (b args)
   (fun fin s' => match fin with | .done f => R (.ok f) s' | .again c' => c'.quiet = true ∧ decC c' = false ∧ codeP P (model prog w) A c' R s') (fun e s' => R (.error e) s') s₁)
   (fun e s' => R (.error e) s') s) : codeP P (model prog w) A (.call (.builtin id) args) R s := by
 refine codeP_of_tree ?_
 show wpP P _ A.in1 (do checkBuiltinCall id args; again (.builtin id args)) _ _ s
 refine wpP_bind (wpP_mono (.of h) (fun _ s₁ h₁ => wpP_pure ⟨plainId_quiet hq args, hd, codeP_builtin hb ?_⟩) fun _ _ x => x)
 rw [Around.under_plainId hq args]; exact h₁
theorem call_ba {Q : Value → Shared → Prop} (h : ∀ h', h'.get? s.heap.objs.size = some (barrObj []) → Heap.SameBut s.heap.objs.size (s.heap.push (barrObj [])) h' → Q (.ref s.heap.objs.size) { s with heap := h' }) :
  wpP decP (model prog w) A (call (.type "bytearray") []) Q E s := by
 refine wpP_call (codeP_of_tree ?_)
 show wpP decP _ _ (callAny (.type "bytearray") _) _ _ _
 refine wpP_pure ⟨Code.quiet_builtin _ (by decide +kernel), by decide +kernel, codeP_builtin F.entry_type_call ?_⟩
 rw [Around.under_plain (weight_type_call_type "bytearray" [] []) rfl, tc_eq]
 refine wpP_bind (wpP_holding (.of (wpAny_call (codeAny_mono (code_ba_new (E := fun _ _ => False) (Q₁ := fun obj s₁ => obj = .ref s.heap.objs.size ∧ s₁ = { s with heap := s.heap.push (barrObj []) }) ⟨rfl, rfl⟩) fun r s₁ hr => ?_))))
 rcases r with e | (v | _ | _ | _) <;> try exact hr.elim
 obtain ⟨rfl, rfl⟩ := hr
 have h0 : (s.heap.push (barrObj [])).get? s.heap.objs.size = some (barrObj []) := Heap.get?_push_size _ rfl
 have hT : ({ s with heap := s.heap.push (barrObj []) } : Shared).TypeIs (.ref s.heap.objs.size) "bytearray" := ⟨_, h0, rfl⟩
 refine wpP_bind (.of (wpAny_isInstance hT ba_sub ?_))
 show wpP decP _ _ (do match ← holding [.ref s.heap.objs.size] (callSpecial? (.ref s.heap.objs.size) "__init__" [] []) with
  | none => ret (.ref s.heap.objs.size)
  | some r =>
   if r != .none then
    rule "type.call.init-returned-value"
    raiseError "TypeError" s!"__init__() should return None, not '{← typeNameOf r}'"
   ret (.ref s.heap.objs.size)) _ _ _
 refine wpP_bind (wpP_holding ?_)
 simp only [callSpecial?]
 refine wpP_bind (.of (wpAny_specialOf hT ba_slot_init.lookup ?_))
 simp only [ba_slot_init.bind]
 refine wpP_holding (wpP_bind (wpP_pure (wpP_bind (wpP_call (codeP_call_builtin ba_slot_init.plain (show exportIds.contains "bytearray.__init__" = false by decide +kernel) ba_entry_init (ba_slot_init.check _ _ _ _ _ _ _ _ hT (ba_args_init _) ?_))))))
 refine ba_init h0 fun h' h1 h2 => ?_
 refine wpP_pure ?_
 show wpP decP _ _ (do
   if (Value.none != .none) = true then
    rule "type.call.init-returned-value"
    raiseError "TypeError" s!"__init__() should return None, not '{← typeNameOf Value.none}'"
   ret (.ref s.heap.objs.size)) _ _ _
 rw [if_neg (by decide)]
 exact wpP_pure (h h' h1 h2)
theorem slotOwn_ba {a : Addr} {b : List UInt8} {Q : Bool → Shared → Prop} (ha : s.heap.get? a = some (barrObj b)) (h : Q true s) : wpAny M A (Builtin.Bytes.slotIsOwn (.ref a) "__buffer__") Q E s := by
 have hT : s.TypeIs (.ref a) "bytearray" := ⟨_, ha, rfl⟩
 unfold Builtin.Bytes.slotIsOwn
 refine wpAny_bind (wpAny_specialOf hT ba_buffer ?_)
 dsimp only
 rw [if_neg (by decide +kernel)]
 exact wpAny_isInstance (T := "bytearray") hT (b := true) (by
  rw [show ("bytearray.__buffer__".dropRight ("__buffer__".length + 1)) = "bytearray" from by decide +kernel]
  exact ba_sub) h
theorem buffer_ba {a : Addr} {b : List UInt8} {Q : Option (Array UInt8) → Shared → Prop} (ha : s.heap.get? a = some (barrObj b)) (h : Q (some b.toArray) s) : wpAny M A (Builtin.Bytes.buffer? "bytes.__new__" (.ref a) true) Q E s := by
 have hT : s.TypeIs (.ref a) "bytearray" := ⟨_, ha, rfl⟩
 unfold Builtin.Bytes.buffer?
 refine wpAny_bind (wpAny_specialOf hT ba_buffer ?_)
 refine wpAny_bind (slotOwn_ba ha ?_)
 refine bm_if_false rfl ?_
 refine wpAny_bind (wpAny_specialOf hT ba_buffer ?_)
 dsimp only
 refine wpAny_bind (ownRelease_ba ha ?_)
 refine bm_if_false rfl ?_
 refine wpAny_bind ?_
 unfold Builtin.Bytes.payload Builtin.Bytes.payload?
 exact wpAny_bind (wpAny_bind (wpAny_load ha (wpAny_pure (wpAny_pure (wpAny_pure h)))))
theorem code_bytes_ba {a : Addr} {b : List UInt8} {Q : Value → Shared → Prop} (ha : s.heap.get? a = some (barrObj b)) (hz : b.length ≤ 100000) (h : Q (.bytes b.toArray s.toks) { s with toks := s.toks + 1 }) :
  codeAny (model prog w) A (.call (.builtin "bytes.__new__") ⟨[.type "bytes", .ref a], []⟩) (wants Q E) s := by
 have hT : s.TypeIs (.ref a) "bytearray" := ⟨_, ha, rfl⟩
 refine codeAny_of_tree ?_
 show wpAny _ A.in1 (do checkBuiltinCall "bytes.__new__" ⟨[.type "bytes", .ref a], []⟩; again (.builtin "bytes.__new__" ⟨[.type "bytes", .ref a], []⟩)) _ _ s
 refine wpAny_bind (wpAny_of_eq (F.bm_newCall _) (wpAny_pure ⟨plainId_quiet F.bm_plain _, codeAny_builtin F.bm_entry ?_⟩))
 rw [Around.under_plainId F.bm_plain _]
 unfold Builtin.«bytes.__new__»
 refine wpAny_bind (wpAny_of_eq (a := true) rfl ?_)
 refine bm_if_false rfl ?_
 refine wpAny_bind (wpAny_of_eq F.bm_sub ?_)
 refine bm_if_false rfl ?_
 refine wpAny_bind (wpAny_of_eq (F.bm_bind _) ?_)
 refine wpAny_bind (wpAny_of_eq (a := ()) rfl ?_)
 refine wpAny_bind (wpAny_of_eq (a := ()) rfl ?_)
 refine bm_if_false rfl ?_
 refine wpAny_bind (wpAny_specialOf hT ba_no_bytes ?_)
 refine wpAny_bind (wpAny_bind ?_)
 show wpAny _ _ (load a >>= _) _ _ _
 refine wpAny_bind (wpAny_load ha ?_)
 refine wpAny_pure (wpAny_pure ?_)
 refine bm_if_false rfl ?_
 refine wpAny_bind (wpAny_specialOf hT ba_no_index ?_)
 refine bm_if_true rfl ?_
 first
  | show wpAny _ _ (Builtin.Bytes.buffer? "bytes.__new__" (.ref a) true >>= _) _ _ _
  | (refine wpAny_bind ?_; show wpAny _ _ (Builtin.Bytes.buffer? "bytes.__new__" (.ref a) true >>= _) _ _ _)
 refine wpAny_bind (buffer_ba ha ?_)
 refine wpAny_bind (wpAny_rule ?_)
 refine wpAny_bind (wpAny_mkBytes ?_ (by rw [List.size_toArray, sizeLine_eq]; omega))
 show wpAny _ _ (if (Value.type "bytes" == Value.type "bytes") = true then _ else _) _ _ _
 refine bm_if_true (by decide) ?_
 first
  | exact wpAny_pure h
  | exact wpAny_bind (wpAny_pure (wpAny_pure h))
theorem call_bytes_ba {a : Addr} {b : List UInt8} {Q : Value → Shared → Prop} (ha : s.heap.get? a = some (barrObj b)) (hz : b.length ≤ 100000) (h : ∀ t k, Q (.bytes b.toArray t) { s with toks := k }) : wpAny (model prog w) A (call (.type "bytes") [.ref a]) Q E s := by
 refine callType_codes (Q₁ := fun obj s₁ => s₁.TypeIs obj "bytes" ∧ Q obj s₁) F.bm_called (F.bm_typeCall _) F.entry_object_init (code_bytes_ba ha hz ⟨PySem.W.typeIs_bytes _ _ _, h _ _⟩) fun obj s₁ h₁ => ?_
 exact ⟨h₁.1, F.args_object_init_2 obj _, object_init_meets F.bm_called.init.lookup F.bm_called.made (by decide) prog w A.in1 _ s₁ ⟨h₁.1, rfl, h₁.2⟩⟩
end
section
variable {G : Gl} {c : FnC} {bud : Nat} {Q : AV → St → Prop} {R : List UInt8 → St → Prop} {st : St} {r : Rt} {E E' : Own} {F F' : Led} {s : Shared}
theorem Cal_barr (hP : G.P = decP) (q : Q (.obj st.H.length) { st with H := st.H ++ [.barr []] }) : Cal G c bud (.val (.type "bytearray")) [] Q R st := fun r E F s cf cs rk a hf hc => by
 simp only [CVs, CV] at hf hc
 subst hf hc
 rw [hP]
 refine call_ba fun h' h1 h2 => ?_
 have kb : KB [] s.heap h' := ⟨by rw [h2.1, Heap.size_push]; exact Nat.le_succ _, fun b o _ e => by
  have hb : b ≠ s.heap.objs.size := fun z => noLt (Nat.le_refl _) (z ▸ Heap.lt_size e)
  exact (h2.2 b hb).trans (Heap.get?_push_of_some _ e)⟩
 have x1 := a.new (tk := s.toks) (as := [s.heap.objs.size]) (o := .barr []) kb (by simp) (fun b hb => by
  rw [List.mem_singleton] at hb
  subst hb
  exact ⟨Nat.le_refl _, Heap.lt_size h1⟩) ⟨_, rfl, h1⟩
 refine ⟨_, _, _, _, Grow.own E _ F, x1, ?_, q⟩
 simp only [CV]
 exact ⟨s.heap.objs.size, [], by rw [← a.hp.len]; simp, rfl⟩
theorem own_barr {k : Nat} {b : List UInt8} {co : Value} (a : Abs G.K c r E F st s) (ho : st.H[k]? = some (.barr b)) (h : CV E F (.obj k) co) : ∃ l, co = .ref l ∧ E[k]? = some [l] ∧ s.heap.get? l = some (barrObj b) := by
 simp only [CV] at h
 obtain ⟨x, rr, he, rfl⟩ := h
 obtain ⟨as, e2, l, e3, h1⟩ := a.hp.at ho
 rw [he] at e2; cases e2; cases e3
 exact ⟨x, rfl, he, h1⟩
theorem Meth_bappend {k : Nat} {b : List UInt8} {QM : AV → List AV → St → Prop} (ho : st.H[k]? = some (.barr b)) (q : QM (.val (.builtin "bytearray.append")) [.obj k] st) : Meth G c bud (.obj k) "append" QM R st := fun r E F s cv pl rk a hc => by
 obtain ⟨l, rfl, he, h2⟩ := own_barr a ho hc
 exact .of (getMethod_builtin ⟨_, h2, rfl⟩ ba_plainAttrs ba_slot_append ba_type_append (fun a e => by cases e; exact ⟨_, h2, rfl⟩) ⟨E, F, st, _, _, Grow.refl _ _, a, by simp [CV], CVs.one hc, q⟩)
theorem Cal_bappend {k : Nat} {b : List UInt8} {x : UInt8} (hP : G.P = decP) (ho : st.H[k]? = some (.barr b)) (hz : b.length < 100000) (q : Q .none { st with H := st.H.set k (.barr (b ++ [x])) }) : Cal G c bud (.val (.builtin "bytearray.append")) [.obj k, .int x.toNat] Q R st := fun r E F s cf cs rk a hf hc => by
 simp only [CVs] at hc
 obtain ⟨c1, r1, rfl, h1, c2, r2, rfl, h2, rfl⟩ := hc
 simp only [CV] at hf h2
 subst hf
 obtain ⟨t, rfl⟩ := h2
 obtain ⟨l, rfl, he, hl⟩ := own_barr a ho h1
 have hx := x.toNat_lt
 have hT : s.TypeIs (.ref l) "bytearray" := ⟨_, hl, rfl⟩
 rw [hP]
 refine wpP_call (codeP_call_builtin ba_slot_append.plain (show exportIds.contains "bytearray.append" = false by decide +kernel) ba_entry_append (ba_slot_append.check _ _ _ _ _ _ _ _ hT (ba_args_append _ _) ?_))
 unfold Builtin.«bytearray.append»
 refine wpP_bind (wpP_of_eq (a := (Value.ref l, Value.int x.toNat t)) rfl ?_)
 dsimp only
 refine wpP_bind (.of ?_)
 unfold Builtin.Bytes.byteValue
 refine wpAny_bind (wpAny_of_eq (rfl : asIndex (.int x.toNat t) = pure (x.toNat : Int)) ?_)
 refine bm_if_false (by simp; omega) (wpAny_pure ?_)
 rw [b8]
 refine wpP_bind (checkResize_no hl ?_)
 refine wpP_bind (.of (write_ba hl (b' := b ++ [x]) (by simp) (by simp; omega) fun h' h3 h4 => ?_))
 refine wpP_pure ⟨E, F, _, .none, Grow.refl _ _, a.set (tk := s.toks) (o' := .barr (b ++ [x])) he (by rw [ho]; simp) (KB.same h4) ⟨l, rfl, h3⟩, by simp [CV], q⟩
theorem Cal_bytes_barr {k : Nat} {b : List UInt8} (ho : st.H[k]? = some (.barr b)) (hz : b.length ≤ 100000) (q : Q (.bytes b) st) : Cal G c bud (.val (.type "bytes")) [.obj k] Q R st := fun r E F s cf cs rk a hf hc => by
 simp only [CVs] at hc
 obtain ⟨c1, r1, rfl, h1, rfl⟩ := hc
 simp only [CV] at hf
 subst hf
 obtain ⟨l, rfl, he, hl⟩ := own_barr a ho h1
 exact .of (call_bytes_ba hl hz fun t k => post_mk a (by simp [CV]) q)
end
end
section
section
variable {G : Gl} {c : FnC} {bud : Nat} {Q : AV → St → Prop} {R : List UInt8 → St → Prop} {st : St}
theorem Cmp_eq_none_int {j : Int} (q : Q (.bool false) st) : Cmp G c bud .Eq .none (.int j) Q R st := fun r E F s ca cb rk x ha hb => by
 simp only [CV] at ha hb
 subst ha
 obtain ⟨u, rfl⟩ := hb
 exact .of (PySem.EqNone.eq_none_int (post_mk0 x (by simp [CV]) q))
end
end
section
section
variable (G : Gl) (c : FnC) (bud : Nat)
abbrev PV := AV → St → Prop
abbrev PT := Bool → St → Prop
abbrev PL := List AV → St → Prop
abbrev PF := Fl → St → Prop
abbrev PU := St → Prop
abbrev PR := List UInt8 → St → Prop
noncomputable def kBr (X Y : PU) : PT := fun b st => (b = true → X st) ∧ (b = false → Y st)
noncomputable def kIs (Q : PT) : PV := fun v st => ∃ b, v = .bool b ∧ Q b st
noncomputable def kBin1 (op : Operator) (a : AV) (Q : PV) (R : PR) : PV := fun b st => Bin G c bud op a b Q R st
noncomputable def kBin (op : Operator) (e : Expr) (Q : PV) (R : PR) : PV := fun a st => Ev G c bud e (kBin1 G c bud op a Q R) R st
noncomputable def kCmp1 (op : CmpOp) (a : AV) (Q : PV) (R : PR) : PV := fun b st => Cmp G c bud op a b Q R st
noncomputable def kCmp (op : CmpOp) (e : Expr) (Q : PV) (R : PR) : PV := fun a st => Ev G c bud e (kCmp1 G c bud op a Q R) R st
noncomputable def kUna (op : UnaryOp) (Q : PV) (R : PR) : PV := fun a st => Una G c bud op a Q R st
noncomputable def kNg (Q : PT) : PT := fun b st => Q (!b) st
noncomputable def kTru (Q : PT) (R : PR) : PV := fun a st => Tru G c bud a Q R st
noncomputable def kOr (y : Expr) (Q : PV) (R : PR) : PV := fun a st => Tru G c bud a (kBr (Q a) (Ev G c bud y Q R)) R st
noncomputable def kAnd (y : Expr) (Q : PV) (R : PR) : PV := fun a st => Tru G c bud a (kBr (Ev G c bud y Q R) (Q a)) R st
noncomputable def kA1 (v : AV) (Q : PL) : PL := fun vs st => Q (v :: vs) st
noncomputable def kA (es : List Expr) (pos : Pos) (Q : PL) (R : PR) : PV := fun v st => Ea G c bud es pos (kA1 v Q) R st
noncomputable def kX (xs : List Stmt) (Q : PF) (R : PR) : PF := fun f st => match f with | .next => Ex G c bud xs Q R st | .ret v => Q (.ret v) st
noncomputable def kRet (Q : PF) : PV := fun v st => Q (.ret v) st
noncomputable def kNx (Q : PF) : PU := fun st => Q .next st
noncomputable def kNone (Q : PF) : PV := fun v st => v = .none ∧ Q .next st
noncomputable def kGet (x : Str) (Q : PV) (R : PR) : PV := fun o st => Get G c bud o x Q R st
noncomputable def kCall (pos : Pos) (es : List Expr) (Q : PV) (R : PR) : PV := fun f st => Cw G c bud pos f [] es Q R st
noncomputable def kMeth1 (pos : Pos) (es : List Expr) (Q : PV) (R : PR) : AV → List AV → St → Prop := fun f first st => Cw G c bud pos f first es Q R st
noncomputable def kMeth (x : Str) (pos : Pos) (es : List Expr) (Q : PV) (R : PR) : PV := fun o st => Meth G c bud o x (kMeth1 G c bud pos es Q R) R st
noncomputable def kCal (f : AV) (first : List AV) (Q : PV) (R : PR) : PL := fun vs st => Cal G c bud f (first ++ vs) Q R st
noncomputable def kCal0 (f : AV) (Q : PV) (R : PR) : PL := fun vs st => Cal G c bud f vs Q R st
noncomputable def kSet1 (x : Str) (v : AV) (Q : PF) (R : PR) : PV := fun o st => Seta G c bud o x v (kNx Q) R st
noncomputable def kSet (o : Expr) (x : Str) (Q : PF) (R : PR) : PV := fun v st => Ev G c bud o (kSet1 G c bud x v Q R) R st
noncomputable def kSub1 (o : AV) (Q : PV) (R : PR) : PV := fun i st => Item G c bud o i Q R st
noncomputable def kSub (e : Expr) (Q : PV) (R : PR) : PV := fun o st => Ev G c bud e (kSub1 G c bud o Q R) R st
noncomputable def kCut2 (value : Expr) (o l : AV) (Q : PV) (R : PR) : PV := fun u st => Cut G c bud value o l u Q R st
noncomputable def kCut1 (value : Expr) (hi : Option Expr) (o : AV) (Q : PV) (R : PR) : PV := fun l st => Eo G c bud hi (kCut2 G c bud value o l Q R) R st
noncomputable def kCut (value : Expr) (lo hi : Option Expr) (Q : PV) (R : PR) : PV := fun o st => Eo G c bud lo (kCut1 G c bud value hi o Q R) R st
noncomputable def kTup (Q : PV) : PL := fun vs st => vs.length ≤ 1000 ∧ Q (.tup vs) st
noncomputable def kLst (Q : PV) : PL := fun vs st => vs.length ≤ 1000 ∧ Q (.lst vs) st
noncomputable def kLso (Q : PV) : PL := fun vs st => vs.length ≤ 1000 ∧ Q (.obj st.H.length) { st with H := st.H ++ [.list vs] }
noncomputable def kD (op : CmpOp) (b : AV) (e : Expr) (Q : PV) (R : PR) : PU := fun st => Ev G c bud e (kCmp1 G c bud op b Q R) R st
noncomputable def kM1 (a : AV) (op op' : CmpOp) (e : Expr) (Q : PV) (F : PU) (R : PR) : PV := fun b st => Cmp G c bud op a b (kIs (kBr (kD G c bud op' b e Q R) F)) R st
noncomputable def kM (op op' : CmpOp) (e e' : Expr) (Q : PV) (F : PU) (R : PR) : PV := fun a st => Ev G c bud e (kM1 G c bud a op op' e' Q F R) R st
end
noncomputable def eNst : Expr → Bool
 | .Starred .. => false
 | _ => true
noncomputable def eNcp : Expr → Bool
 | .ListComp .. => false
 | .SetComp .. => false
 | .DictComp .. => false
 | _ => true
noncomputable def eNsl : Expr → Bool
 | .Slice .. => false
 | _ => true
theorem star_of {e : Expr} {es : List Expr} (h : eNst e = true) : ∀ env, starEach (e :: es) env = (false, eval e env) :: starEach es env := by intro _; cases e <;> first | rfl | cases h
theorem stars_of {es : List Expr} {pos : Pos} (h : es.all eNst = true) : ∀ env, (backTo pos (starEach es env)).any (·.1) = false := by
 intro env
 induction es with
 | nil => rfl
 | cons e es ih =>
  rw [List.all_cons, Bool.and_eq_true] at h
  rw [star_of h.1]
  show (false || _) = false
  rw [Bool.false_or]
  exact ih h.2
theorem swap_of {v : Expr} {t : Option Expr} {n : Nat} (h : eNcp v = true) : ∀ env, swapsWith v t n env = pure false := by intro _; cases v <;> first | rfl | cases h
theorem slice_of {slice : Expr} (h : eNsl slice = true) : ∀ o i, subscripted slice false o i = operate [o, i] (getItem o i) := by
 intro _ _
 cases slice <;> first | rfl | cases h
section
variable {G : Gl} {c : FnC} {bud : Nat} {Q : PV} {R : PR} {st : St}
theorem vBin {l e : Expr} {op : Operator} {pos : Pos} (h : Ev G c bud l (kBin G c bud op e Q R) R st) : Ev G c bud (.BinOp l op e pos) Q R st := Ev_bin h
theorem vCmp {l e : Expr} {op : CmpOp} {pos : Pos} (h : Ev G c bud l (kCmp G c bud op e Q R) R st) (hm : behindInMarks op e = false := by with_unfolding_all rfl) : Ev G c bud (.Compare l [op] [e] pos) Q R st := Ev_cmp h hm
theorem vCmp2 {l e₁ e₂ : Expr} {op₁ op₂ : CmpOp} {pos : Pos} (h : Ev G c bud l (kM G c bud op₁ op₂ e₁ e₂ Q (Q (.bool false)) R) R st) (hm : lastMarks [op₁, op₂] [e₁, e₂] = false := by with_unfolding_all rfl) : Ev G c bud (.Compare l [op₁, op₂] [e₁, e₂] pos) Q R st := Ev_cmp2 h hm
theorem vUna {x : Expr} {op : UnaryOp} {pos : Pos} (h : Ev G c bud x (kUna G c bud op Q R) R st) : Ev G c bud (.UnaryOp op x pos) Q R st := Ev_una h
theorem vIf {t x y : Expr} {pos : Pos} (h : Et G c bud t (kBr (Ev G c bud x Q R) (Ev G c bud y Q R)) R st) : Ev G c bud (.IfExp t x y pos) Q R st := Ev_ife h
theorem vOr {x y : Expr} {pos : Pos} (h : Ev G c bud x (kOr G c bud y Q R) R st) : Ev G c bud (.BoolOp .Or [x, y] pos) Q R st := Ev_or2 h
theorem vAnd {x y : Expr} {pos : Pos} (h : Ev G c bud x (kAnd G c bud y Q R) R st) : Ev G c bud (.BoolOp .And [x, y] pos) Q R st := Ev_and2 h
theorem vAttr {e : Expr} {x : Str} {pos : Pos} (h : Ev G c bud e (kGet G c bud x Q R) R st)
  (he : ∀ env, eval (.Attribute e x pos) env = (do
   let o ← eval e env
   standAt pos.atName
   let r ← holding [o] (getAttr o x true)
   letTemporaryGo e o r
   pure r) := by intro _; with_unfolding_all rfl) : Ev G c bud (.Attribute e x pos) Q R st := Ev_attr h he
theorem vMeth {o : Expr} {x : Str} {es : List Expr} {apos pos : Pos} (h : Ev G c bud o (kMeth G c bud x pos es Q R) R st)
  (he : ∀ env, ∃ pl, eval (.Call (.Attribute o x apos) es [] pos) env = (do
   let ov ← eval o env
   standAt apos.atName
   let (f, first) ← holding [ov] (getMethod ov x pl)
   callWith pos f first (backTo pos (starEach es env)) []) := by intro _; exact ⟨_, rfl⟩) : Ev G c bud (.Call (.Attribute o x apos) es [] pos) Q R st := Ev_meth h he
theorem vSub {value slice : Expr} {pos : Pos} (h : Ev G c bud value (kSub G c bud slice Q R) R st) (hs : eNsl slice = true := by rfl) : Ev G c bud (.Subscript value slice pos) Q R st := Ev_sub h (slice_of hs)
theorem vCut {value : Expr} {lo hi : Option Expr} {p pos : Pos} (h : Ev G c bud value (kCut G c bud value lo hi Q R) R st) : Ev G c bud (.Subscript value (.Slice lo hi none p) pos) Q R st := Ev_cut h
theorem vTup {es : List Expr} {k : Nat} {pos : Pos} (h : Ea G c bud es pos (kTup Q) R st) : Ev G c bud (.Tuple es k pos) Q R st := Ev_tup h
theorem vLst {es : List Expr} {pos : Pos} (h : Ea G c bud es pos (kLst Q) R st) : Ev G c bud (.List es pos) Q R st := Ev_listF h
theorem vLso {es : List Expr} {pos : Pos} (h : Ea G c bud es pos (kLso Q) R st) : Ev G c bud (.List es pos) Q R st := Ev_list h
theorem aNil {pos : Pos} {Q : PL} (q : Q [] st) : Ea G c bud [] pos Q R st := Ea_nil q
theorem aCons {e : Expr} {es : List Expr} {pos : Pos} {Q : PL} (h : Ev G c bud e (kA G c bud es pos Q R) R st) (he : eNst e = true := by rfl) : Ea G c bud (e :: es) pos Q R st := Ea_cons h (star_of he)
theorem wFn {pos : Pos} {fa : Addr} {first : List AV} {e : Expr} {es : List Expr} (hk : keepIn G.K (.ref fa) = true) (h : Ea G c bud (e :: es) pos (kCal G c bud (.val (.ref fa)) first Q R) R st) (h1 : (e :: es).all eNst = true := by rfl) : Cw G c bud pos (.val (.ref fa)) first (e :: es) Q R st :=
 have h1 := Bool.and_eq_true_iff.mp (List.all_cons.symm.trans h1)
 Cw_fn hk h (star_of h1.1) (stars_of h1.2)
theorem wBi {pos : Pos} {id : String} {first : List AV} {e : Expr} {es : List Expr} (h : Ea G c bud (e :: es) pos (kCal G c bud (.val (.builtin id)) first Q R) R st) (h1 : (e :: es).all eNst = true := by rfl) : Cw G c bud pos (.val (.builtin id)) first (e :: es) Q R st :=
 have h1 := Bool.and_eq_true_iff.mp (List.all_cons.symm.trans h1)
 Cw_bi h (star_of h1.1) (stars_of h1.2)
theorem wTy {pos : Pos} {T : String} {e : Expr} {es : List Expr} (h : Ea G c bud (e :: es) pos (kCal0 G c bud (.val (.type T)) Q R) R st) (h1 : (e :: es).all eNst = true := by rfl) : Cw G c bud pos (.val (.type T)) [] (e :: es) Q R st :=
 have h1 := Bool.and_eq_true_iff.mp (List.all_cons.symm.trans h1)
 Cw_ty h (star_of h1.1) (stars_of h1.2)
theorem vAttrN {y x : Str} {p pos : Pos} (h : Ev G c bud (.Name y p) (kGet G c bud x Q R) R st) : Ev G c bud (.Attribute (.Name y p) x pos) Q R st := Ev_attr h (by intro _; with_unfolding_all rfl)
theorem vCallN {x : Str} {p : Pos} {es : List Expr} {pos : Pos} (h : Ev G c bud (.Name x p) (kCall G c bud pos es Q R) R st) : Ev G c bud (.Call (.Name x p) es [] pos) Q R st := Ev_call h (by intro _; rfl)
end
section
variable {G : Gl} {c : FnC} {bud : Nat} {Q : PT} {R : PR} {st : St}
theorem brT {X Y : PU} {b : Bool} (e : b = true) (h : X st) : kBr X Y b st := ⟨fun _ => h, fun q => by rw [e] at q; cases q⟩
theorem brF {X Y : PU} {b : Bool} (e : b = false) (h : Y st) : kBr X Y b st := ⟨fun q => (by rw [e] at q; cases q), fun _ => h⟩
theorem br {X Y : PU} {b : Bool} (h : b = true → X st) (k : b = false → Y st) : kBr X Y b st := ⟨h, k⟩
theorem isB {b : Bool} (h : Q b st) : kIs Q (.bool b) st := ⟨b, rfl, h⟩
theorem tCmp {l e : Expr} {op : CmpOp} {pos : Pos} (h : Ev G c bud l (kCmp G c bud op e (kIs Q) R) R st) (hm : behindInMarks op e = false := by with_unfolding_all rfl) : Et G c bud (.Compare l [op] [e] pos) Q R st := Et_cmp h hm
theorem tCmp2 {l e₁ e₂ : Expr} {op₁ op₂ : CmpOp} {pos : Pos} (h : Ev G c bud l (kM G c bud op₁ op₂ e₁ e₂ (kIs Q) (Q false) R) R st) (hm : lastMarks [op₁, op₂] [e₁, e₂] = false := by with_unfolding_all rfl) : Et G c bud (.Compare l [op₁, op₂] [e₁, e₂] pos) Q R st := Et_cmp2 h hm
theorem tNot {x : Expr} {pos : Pos} (h : Et G c bud x (kNg Q) R st) : Et G c bud (.UnaryOp .Not x pos) Q R st := Et_not h
theorem tVal {x : Expr} (h : Ev G c bud x (kTru G c bud Q R) R st) (he : ∀ env whole, isTrue x env whole = (do let v ← whole; standAt x.pos; holding [v] (truthy v)) := by intro _ _; rfl) : Et G c bud x Q R st := Et_val h he
theorem tBool {op : BoolOp} {xs : List Expr} {pos : Pos} (h : Eall G c bud op xs Q R st) : Et G c bud (.BoolOp op xs pos) Q R st := Et_bool h
theorem lAnd0 (q : Q true st) : Eall G c bud .And [] Q R st := Eall_and0 q
theorem lOr0 (q : Q false st) : Eall G c bud .Or [] Q R st := Eall_or0 q
theorem lAnd {x : Expr} {xs : List Expr} (h : Et G c bud x (kBr (Eall G c bud .And xs Q R) (Q false)) R st) : Eall G c bud .And (x :: xs) Q R st := Eall_and h
theorem lOr {x : Expr} {xs : List Expr} (h : Et G c bud x (kBr (Q true) (Eall G c bud .Or xs Q R)) R st) : Eall G c bud .Or (x :: xs) Q R st := Eall_or h
end
section
variable {G : Gl} {c : FnC} {bud : Nat} {Q : PF} {R : PR} {st : St}
theorem xNil (q : Q .next st) : Ex G c bud [] Q R st := Ex_nil q
theorem xCons {x : Stmt} {xs : List Stmt} (h : Es G c bud x (kX G c bud xs Q R) R st) : Ex G c bud (x :: xs) Q R st := Ex_cons h
theorem sRet {e : Expr} {pos : Pos} (h : Ev G c bud e (kRet Q) R st) : Es G c bud (.Return (some e) pos) Q R st := Es_ret h
theorem sIf {t : Expr} {xs ys : List Stmt} {pos : Pos} (h : Et G c bud t (kBr (Ex G c bud xs Q R) (Ex G c bud ys Q R)) R st) : Es G c bud (.If t xs ys pos) Q R st := Es_if h
theorem sExpr {e : Expr} {pos : Pos} (ok : c.Ok) (h : Ev G c bud e (kNone Q) R st) (hs : eNcp e = true := by rfl) : Es G c bud (.Expr e pos) Q R st := Es_expr ok h (swap_of hs)
theorem sSeta {o e : Expr} {x : Str} {p pos : Pos} (h : Ev G c bud e (kSet G c bud o x Q R) R st) (hs : eNcp e = true := by rfl) : Es G c bud (.Assign [.Attribute o x p] e pos) Q R st := Es_seta h (swap_of hs)
noncomputable def kWh (I : Nat → PU) (n : Nat) (Q : PF) : PF := fun f st => match f with
 | .next => ∃ m, m < n ∧ I m st
 | .ret v => Q (.ret v) st
noncomputable def kFor (I : Nat → PU) (k i : Nat) (os : List Obj) (Q : PF) : PF := fun f st4 => match f with
 | .next => ∃ H4, st4.H = H4 ++ [.raw os] ∧ H4.length = k ∧ I (i + 1) ⟨st4.vs, H4⟩
 | .ret v => Q (.ret v) st4
theorem sWhile {test : Expr} {body : List Stmt} {pos : Pos} (I : Nat → PU) (n : Nat) (ok : c.Ok) (h0 : I n st) (turn : ∀ n st1, I n st1 → Et G c bud test (kBr (Ex G c bud body (kWh I n Q) R) (Q .next)) R st1) : Es G c bud (.While test body [] pos) Q R st :=
 Es_while I n ok h0 turn
theorem nONE (q : Q .next st) : kNone Q .none st := ⟨rfl, q⟩
end
end
section
section
variable {prog : Program} {w : World} {A : Around} {K : Frag} {C D x : Addr} {s : Shared}
noncomputable abbrev excO (C : Addr) (d : Option Addr) (fs : Array Value) : Obj := ⟨.ref C, d, .fields fs, #[]⟩
theorem exc_osa {cd : ClassData} {fs : Array Value} {name : Str} {tk : Tok} {v : Value} {R : Result → Shared → Prop} (X : K.In s.heap) (hx : s.heap.get? x = some (excO C none fs)) (hc : clsIn K C = some cd) (hd : cd.hasDict = true)
  (hm : cd.mro = [.ref C, .ref D, .type "Exception", .type "BaseException", .type "object"]) (ht : takerIn K C name = some none)
  (h : ∀ h' tk', h'.get? x = some (excO C (some s.heap.objs.size) fs) → h'.Ns s.heap.objs.size (fun y => if y = name then some v else none) → (∀ b o, b ≠ x → s.heap.get? b = some o → h'.get? b = some o) → s.heap.objs.size ≤ h'.objs.size → R (.ok (.ret .none)) { s with heap := h', toks := tk' }) :
  codeAny (model prog w) A (.call (.builtin "object.__setattr__") ⟨[.ref x, .str name tk, v], []⟩) R s := by
 have SF := PySem.F.store_Exception
 have I : InstAt s.heap x (excO C none fs) C none := ⟨hx, rfl, rfl, trivial⟩
 have sub : Looks (model prog w) s.heap (isInstance (.ref x) (.type "object")) true := I.type.andThen (looks_mroIn X (by unfold mroIn; rw [hc, Option.bind_some, hm]; rfl))
 refine codeAny_call_builtin SF.slot.plain SF.entry (@check_slot (model prog w) _ _ s "object.__setattr__" "object" "__setattr__" (.ref x) [.str name tk, v] [] _ SF.kind SF.split sub (SF.args (.ref x) (.str name tk) v) ?_)
 obtain ⟨attr, ha, hr⟩ := Option.bind_eq_some_iff.mp ht
 have hmr : Looks (model prog w) s.heap (mroOf (.ref C)) cd.mro := (looks_clsIn X hc).andThen .now
 have L3 : Looks (model prog w) s.heap (Builtin.ObjectAttr.storeTaker? attr) none := by
  cases attr with
  | none => cases hr; exact .now
  | some a =>
   obtain ⟨b, hb, e⟩ := Option.map_eq_some_iff.mp hr
   refine (looks_takesIn X hb).andThen ?_
   cases b
   ·exact .now
   ·cases e
 rw [osa_eq, refuse_eq]
 refine wpAny_bind (wpAny_bind (I.type.here (wpAny_bind (hmr.here ?_))))
 rw [hm, refuseLoop_ref, refuseLoop_ref, SF.passes]
 refine wpAny_pure (wpAny_bind (I.type.here (wpAny_bind ((looks_findIn X ha).here (wpAny_bind (L3.here ?_))))))
 obtain ⟨hp, g, d, t, os⟩ := s
 refine wpAny_bind (wpAny_pure (wpAny_bind (wpAny_bind (wpAny_loadPart hx (wpAny_bind ((looks_clsIn X hc).here ?_))))))
 rw [hd]
 rw [if_neg (by decide)]
 dsimp only
 rw [if_neg (by simp [typeHasDict])]
 have hx₁ : (hp.push { cls := .type "dict", data := .dict #[] }).get? x = some (excO C none fs) := Heap.get?_push_of_some _ hx
 have hxs : x ≠ hp.objs.size := Nat.ne_of_lt (Heap.lt_size hx)
 refine wpAny_bind (wpAny_alloc' ?_)
 refine wpAny_bind (wpAny_update' hx₁ ?_)
 refine wpAny_pure ?_
 have hgd : ((hp.push { cls := .type "dict", data := .dict #[] }).update x fun o => { cls := o.cls, dict := some hp.objs.size, data := o.data, slots := o.slots }).get? hp.objs.size = some { cls := .type "dict", data := .dict #[] } :=
  (Heap.get?_update_ne _ _ _ _ hxs.symm).trans (Heap.get?_push_at rfl rfl)
 have hnd : ((hp.push { cls := .type "dict", data := .dict #[] }).update x fun o => { cls := o.cls, dict := some hp.objs.size, data := o.data, slots := o.slots }).Ns hp.objs.size (fun _ => none) :=
  ⟨_, #[], _, hgd, rfl, fun e he => absurd he (by simp), fun _ => rfl⟩
 show wpAny _ _ (Builtin.ObjectAttr.storeInDict hp.objs.size (.str name tk) name v) _ _ _
 unfold Builtin.ObjectAttr.storeInDict Builtin.ObjectAttr.newKeyGuard
 refine wpAny_bind (wpAny_pure (wpAny_bind (wpAny_nsSet1 (Heap.Ns1.of_empty hnd) fun h' hn' hs => ?_)))
 obtain ⟨oD, esD, epD, hoD, hdD, hcD⟩ := hn'.count (Within.cons name v Within.nil)
 refine wpAny_bind (wpAny_lookBehind hoD (by rw [hdD]; exact pastItsLine_dict (Nat.le_trans hcD (by rw [List.length_cons, List.length_nil, sizeLine_eq]; omega))) ?_)
 refine wpAny_pure (h h' _ ?_ hn'.ns (fun b ob hbx hb => ?_) ?_)
 ·exact (hs.2 x hxs).trans (Heap.get?_update_self _ hx₁ rfl)
 ·exact (hs.2 b (Nat.ne_of_lt (Heap.lt_size hb))).trans ((Heap.get?_update_ne _ _ _ _ hbx).trans (Heap.get?_push_of_some _ hb))
 ·obtain ⟨o, _, _, e, _⟩ := hn'.ns
  exact Nat.le_of_lt (Heap.lt_size e)
end
section
variable {prog : Program} {w : World} {A : Around} {E : Value → Shared → Prop} {h : Heap} {g : Array GenState} {d : Drawn} {t : Nat} {os : OsState}
variable {nm q : Str} {C D N fI : Addr} {bs : List Value} {sn : List Str} {sub : List Value} {ab : Bool} {col : Option Bool} {dd : Option Addr} {k0 k1 k2 k3 k5 : Option Value} {K : Frag}
noncomputable abbrev bmD (D : Addr) : List Value := [.ref D, .type "Exception", .type "BaseException", .type "object"]
theorem bmD_has {X : String} {b : Bool} (h : ([.type "Exception", .type "BaseException", .type "object"] : List Value).contains (.type X) = b) : (bmD D).contains (.type X) = b := by
 show (Value.ref D :: _).contains _ = b
 rw [List.contains_cons, h]; rfl
theorem exc_new {v : Value} {R : Result → Shared → Prop} (hC : h.get? C = some (excClassObj nm q C N bs (bmD D) true sn sub ab col dd k0 k1 k2 k3 k5 "Exception.__new__"))
  (hq : R (.ok (.ret (.ref (h.objs.size + 1)))) ⟨(h.push { cls := .type "tuple", data := .seq #[v] }).push (excO C none #[.ref h.objs.size, .none, .none, .none, .bool false, .none]), g, d, t, os⟩) :
  codeAny (model prog w) A (.call (.builtin "Exception.__new__") ⟨[.ref C, v], []⟩) R ⟨h, g, d, t, os⟩ := by
 have F := PySem.F.excBase_Exception
 have hcB : (Value.ref C :: bmD D).contains (.type "Exception") = true := by rw [List.contains_cons, bmD_has F.hasB, Bool.or_true]
 have hcA : (Value.ref C :: bmD D).contains (.type "AttributeError") = false := by rw [List.contains_cons, bmD_has F.noAttr]; rfl
 have hcN : (Value.ref C :: bmD D).contains (.type "NameError") = false := by rw [List.contains_cons, bmD_has F.noName]; rfl
 refine codeAny_call_builtin_code (Code.quiet_builtin _ F.quiet) ?_
 have hstar := F.noStar
 simp only [checkBuiltinCall, F.newKind, F.newSplit, F.newRow]
 repeat (first | refine wpAny_loadPart_at hC ?_ | (refine wpAny_isSubtype_exc hC ?_; rw [hcB]) | refine wpAny_staticBase_exc hC ?_ | refine wpAny_madeBy_exc hC ?_ | simp only [bne_self_eq_false, Bool.false_eq_true, if_false] | wp_step)
 have hends := F.ends
 refine codeAny_builtinAt F.entry ?_
 unfold Builtin.«BaseException.__new__»
 refine PySem.wpAt_bind ?_
 show PySem.wpAt _ _ _ (stack >>= _) _ _ _
 refine PySem.wpAt_bind (PySem.wpAt_stack fun p below => PySem.wpAt_of_wpAny ?_)
 wp_walk
 refine PySem.wpAt_of_wpAny ?_
 rw [F.owner]
 repeat (first | with_reducible refine wpAny_madeHere_exc F.canon hC ?_ | with_reducible refine wpAny_loadPart_at hC ?_ | (with_reducible refine wpAny_isSubtype_exc hC ?_; first | rw [hcB] | rw [hcA] | rw [hcN]) | wp_step)
 show R _ _
 rw [Heap.size_push]
 exact hq
theorem exc_call {v : Value} {R : Result → Shared → Prop} (X : K.In h) (hC : h.get? C = some (excClassObj nm q C N bs (bmD D) true sn sub ab col dd k0 k1 k2 k3 k5 "Exception.__new__"))
  (hi : findIn K (.ref C) "__init__" = some (some (.ref fI))) (hf : typeIn K (.ref fI) = some (.type "function"))
  (hq : codeAny (model prog w) (A.under (.builtin "type.__call__" ⟨[.ref C, v], []⟩)) (.call (.ref fI) ⟨[.ref (h.objs.size + 1), v], []⟩) (InitBack (h.objs.size + 1) R)
   ⟨(h.push { cls := .type "tuple", data := .seq #[v] }).push (excO C none #[.ref h.objs.size, .none, .none, .none, .bool false, .none]), g, d, t, os⟩) :
  codeAny (model prog w) A (.call (.ref C) ⟨[v], []⟩) R ⟨h, g, d, t, os⟩ := by
 have F := PySem.F.excBase_Exception
 have f1 := tc_lookup
 have f2 := tc_bind (.ref C)
 have hT : (⟨h, g, d, t, os⟩ : Shared).TypeIs (.ref C) "type" := ⟨_, hC, rfl⟩
 refine codeAny_of_tree ?_
 show wpAny _ _ (callAny (.ref C) _) _ _ _
 repeat (any_goals (first | assumption | with_reducible refine wpAny_loadPart_at hC ?_ | wp_step))
 refine ⟨rfl, ?_⟩
 refine codeAny_call_builtin_at (Code.quiet_builtin _ (by decide +kernel)) entry_typeCall (wpAny_check_type_call_sub hC ?_)
 repeat (first | with_reducible refine wpAny_loadPart_at hC ?_ | with_reducible refine wpAny_madeBy_exc hC ?_ | wp_step)
 refine exc_new hC ?_
 show wpAny _ _ _ _ _ _
 have up : ∀ b o, h.get? b = some o → ((h.push { cls := .type "tuple", data := .seq #[v] }).push (excO C none #[.ref h.objs.size, .none, .none, .none, .bool false, .none])).get? b = some o := fun b o e => Heap.get?_push_of_some _ (Heap.get?_push_of_some _ e)
 have hC₁ := up _ _ hC
 have X₁ := X.keeps up
 have hget : ((h.push { cls := .type "tuple", data := .seq #[v] }).push (excO C none #[.ref h.objs.size, .none, .none, .none, .bool false, .none])).get? (h.objs.size + 1) = some (excO C none #[.ref h.objs.size, .none, .none, .none, .bool false, .none]) := by heap_get
 have hcC : (Value.ref C :: bmD D).contains (.ref C) = true := by simp
 unfold isInstance
 repeat (first | with_reducible refine wpAny_loadPart_at hget ?_ | (with_reducible refine wpAny_isSubtype_exc hC₁ ?_; rw [hcC]) | wp_step)
 show wpAny _ _ (typeLookup (.ref C) _) _ _ _
 refine (looks_findIn X₁ hi).at ?_
 refine wpAny_holding (wpAny_bind ((bind_fn X₁ _ hf).at ?_))
 refine wpAny_bind (wpAny_call (codeAny_mono hq fun r s' z => ?_))
 rcases r with e | (u | _ | _ | _) <;> first | exact z | exact z.elim | skip
 obtain ⟨rfl, z⟩ := z
 exact wpAny_pure (wpAny_pure z)
end
end
section
section
variable {prog : Program} {w : World} {A : Around} {K : Frag} {s : Shared} {C D fI : Addr} {v : Value}
theorem init_told {fd : FuncData} {c : FnC} {p1 p2 p3 pos : Pos} {cd : ClassData} {x : Addr} {fs : Array Value} {R : Result → Shared → Prop} (ok : c.Ok) (hns : c.ns = [("self" : Str), "told"]) (hf : FnAt K c fd [.Assign [.Attribute (.Name "self" p1) "told" p2] (.Name "told" p3) pos])
  (hroom : A.depth < recursionLimit) (S : Sta K s.heap) (hb : BindsTo s fd ⟨[.ref x, v], []⟩ [(("self" : Str), .ref x), ("told", v)])
  (hx : s.heap.get? x = some (excO C none fs)) (hsa : findIn K (.ref C) "__setattr__" = some (some (.builtin "object.__setattr__"))) (hc : clsIn K C = some cd) (hd : cd.hasDict = true)
  (hm : cd.mro = [.ref C, .ref D, .type "Exception", .type "BaseException", .type "object"]) (ht : takerIn K C "told" = some none)
  (h : ∀ h' tk' d m, s.heap.objs.size ≤ d → h'.get? x = some (excO C (some d) fs) → h'.Ns d m → m "told" = some v → (∀ b o, b ≠ x → s.heap.get? b = some o → h'.get? b = some o) → s.heap.objs.size ≤ h'.objs.size → R (.ok (.ret .none)) { s with heap := h', toks := tk' }) :
  codeAny (model prog w) A (.call (.ref c.fa) ⟨[.ref x, v], []⟩) R s := by
 obtain ⟨oc, od, osl, hlook⟩ := hf.look
 refine codeP.any (codeP_call_def (fd := fd) (body := _) hroom (S.k _ _ hlook) rfl S.nolim (codeRec_of S.k hf.code) hf.body hb (by rw [hf.scope]; exact ok.cell) (fun y hy => ?_) (fun h₁ hn₁ hk₁ => ?_) (by rw [hf.scope]; exact ok.co) (by rw [hf.scope]; exact ok.gen) (by rw [hf.scope]; exact ok.kind))
 ·rw [hf.scope]
  refine (ok.loc y.1 ?_).1
  rw [hns]
  rcases hy with _ | ⟨_, _ | ⟨_, hy⟩⟩
  ·exact .head _
  ·exact .tail _ (.head _)
  ·cases hy
 rw [hf.env]
 have l0 := ok.loc "self" (by rw [hns]; exact .head _)
 have l1 := ok.loc "told" (by rw [hns]; exact .tail _ (.head _))
 have X₁ := S.k.keeps hk₁
 have hx₁ := hk₁ _ _ hx
 refine wpP_execs_cons (wpP_Assign_Attribute (hs := rfl) ?_)
 refine .of (wpAny_Name (wpAny_loadName_local ok.kind l1.1 hn₁ rfl ?_) l1.2)
 refine .of (wpAny_Name (wpAny_loadName_local ok.kind l0.1 hn₁ rfl ?_) l0.2)
 refine .of (set_plain (od := none) X₁ ⟨hx₁, rfl, rfl, trivial⟩ hsa (exc_osa X₁ hx₁ hc hd hm ht fun h' tk' a1 a2 a3 a4 => ?_))
 refine .of (wpAny_execs_nil ?_)
 refine h h' tk' _ _ ?_ a1 a2 (if_pos rfl) (fun b o n e => a3 b o n (hk₁ _ _ e)) (Nat.le_trans (Nat.le_of_lt hn₁.lt) a4)
 exact Nat.le_of_lt hn₁.lt
end
end
section
open PySem.Sem (wp)
def caller0 : Ctx := ⟨.builtin "claim.caller" {}, none, none, [], none⟩
theorem caller0_dec : decP.C caller0 := ⟨by decide +kernel, fun x hx => nomatch hx⟩
theorem thread_at {prog : Program} {w : World} {t : Sem PySem.Fin} {s : Shared} {R : Result → Shared → Prop} (hreg : s.asleep)
  (h : wpP decP (model prog w) callerA t (fun fin s' => ∃ f, fin = .done f ∧ (R (.ok f) s' ∧ leftWithCleanup s'.gens = false)) (fun e s' => R (.error e) s' ∧ leftWithCleanup s'.gens = false) s) :
  ∃ n r s' s'', runN (denote table) prog w n s ⟨t, .builtin "claim.caller" {}, default, []⟩ = .halted (outcomeOf r) s' ∧
   schedN (denote table) prog w n (.single s ⟨t, .builtin "claim.caller" {}, default, []⟩) = .halted (outcomeOf r) s' ∧ s'.forget = s''.forget ∧ R r s'' := by
 have h0 := h caller0 default caller_in caller0_dec
 have h1 : wp (model prog w) caller0 t (Sem.finPost (model prog w) caller0 fun r s' => R r s' ∧ leftWithCleanup s'.gens = false) (fun e _ s' => R (.error e) s' ∧ leftWithCleanup s'.gens = false) default s := by
  refine Sem.wp_mono _ _ t (fun fin p' s' q => ?_) (fun _ _ _ q => q) _ _ h0
  obtain ⟨f, rfl, q⟩ := q
  exact q
 obtain ⟨n, r, s₁, s₂, hs, hn, hfo, hR⟩ := wp_halts_full (M := model prog w) (R := R) hreg h1
 exact ⟨n, r, s₂, s₁, hn, hs, hfo, hR⟩
abbrev WalkP (q : Program) (loose : List Str) (XP : (Str → Option Value) → Heap → Prop) (YP : World → Heap → Prop) (r : RowW) (d : DefRec) (kwd : List (Str × Expr)) : Prop :=
 ∀ (w : World) (s₀ s₁ : Shared) (mg mb : Str → Option Value), Ground q loose r.records XP w s₀ mg mb s₁.heap → YP w s₁.heap → ∀ (a : Addr) (o : Obj) (pm cd doc dV kV : Value), s₁.heap.get? a = some o →
  o.data = .func { docDef d.name d.params d.body d.scope pm cd doc with defaults := dV, kwdefaults := kV } → s₁.heap.CodeRec cd d.name → Dflts mg s₁.heap d.params kwd dV kV → mg d.name = some (.ref a) → s₁.gens = #[] →
  ∀ (args : List WData) (vals : List Value) (as : List Addr), r.claim.pre args = true → WData.layableAll args = true → ReadsAllW r.records (classAt s₀.heap) s₁.heap vals args as → WellAll w.params s₁.heap vals args → (∀ a ∈ as, (a == sysModules) = false) →
   wpP decP (model r.prog w) callerA (call (.ref a) vals) (fun v s' => GoodWG r.claim (classAt s₀.heap) (ExcName.means s₀.heap) args s₁ (.ok (.ret v)) s')
    (fun e s' => GoodWG r.claim (classAt s₀.heap) (ExcName.means s₀.heap) args s₁ (.error e) s') s₁
inductive EndR (r : OpenRow) (s : Shared) (args : List WData) (vs : List Value) (s₁ : Shared) (res : Result) (s' : Shared) : Prop
 | mk (h1 : r.toRowW.claim.Ends s args vs s₁ res s') (h2 : s'.os = s.os) (h3 : r.writes = true → namesKept r.prog r.keeps s.heap s'.heap ∧ ∀ x ∈ r.records, ∀ a, classAt s.heap x.1 = some a → recordClass s'.heap a x.1 (x.2.map (·.1)) = true) : EndR r s args vs s₁ res s'
theorem PySem.W.holds_open {r : OpenRow} {q : Program} {loose : List Str} {Xt : Shared → Bool} {XP : (Str → Option Value) → Heap → Prop} {α : Type} {Yf : Shared → α} {Ya : World → α} {YP : World → Heap → Prop} {d : DefRec} {kwd : List (Str × Expr)} {N : Nat}
  (left : LeftO r.prog q loose Xt Yf Ya N) (hY : ∀ w s, Yf s = Ya w → YP w s.heap) (hYk : ∀ w h h', YP w h → (∀ b o, h.get? b = some o → h'.get? b = some o) → YP w h')
  (hX : ∀ s, Xt s = true → XP (s.heap.nsMap mainGlobals) s.heap) (hXk : ∀ mg h h', XP mg h → (∀ b o, h.get? b = some o → h'.get? b = some o) → XP mg h')
  (hdef : defOf q r.name = some (d, kwd)) (hp : r.prog.theDef r.name = some (d.params, d.body, d.scope)) (hk : kwWritten? d.params.kwonlyargs d.params.kw_defaults = some kwd) (hRf : ∀ s, Xt s = true → RecFacts r.records s.heap) (hwr : (!r.writes || r.records.isEmpty) = true)
  (k1 : r.wellSaid = true) (ok : (chainsOk q && opensWell r.prog && (frees r.toRowW && r.within.isEmpty)) = true) (hb : r.prog.bare) (hw : r.toRowW.promised)
  (call : WalkP q loose XP YP r.toRowW d kwd) : r.Holds := by
 obtain ⟨ok, k5⟩ := Bool.and_eq_true_iff.mp ok
 obtain ⟨hch, o1⟩ := Bool.and_eq_true_iff.mp ok
 obtain ⟨k5, k6⟩ := Bool.and_eq_true_iff.mp k5
 obtain ⟨hsame, hu, ha, hap, hm⟩ := frees_parts k5
 refine ⟨k1, hw, ⟨hb, o1, by show (r.toRowW).makers.map _ = []; rw [hm]; rfl⟩, hw.witness, fun w => ⟨(left.behind hX hch w).1, fun s' hs' => ?_⟩⟩
 obtain ⟨s₀, hf, hg0, s, hT, hz, hgens, hg, G00, y⟩ := (left.behind (XP := fun mg h => XP mg h ∧ RecFacts r.records h) (fun s hs => ⟨hX s hs, hRf s hs⟩) hch w).2 s' hs'
 have G0 : Ground q loose [] XP w s (s.heap.nsMap mainGlobals) (s.heap.nsMap builtinsNs) s.heap := { G00 with X := G00.X.1 }
 have RF := G00.X.2
 refine ⟨s₀, hf, hg0, s, hT, fun n hn => ?_, RF.1, RF.2.1, ?_⟩
 ·obtain rfl : n = r.name := by split at hn <;> simp_all
  exact pinned_of_view hg G0 hdef hp hk
 have hgens' : s.gens = #[] := Array.eq_empty_of_size_eq_zero (beq_iff_eq.mp hgens)
 have G : Ground q loose r.records XP w s _ _ s.heap := RF.ground G0
 intro args hpre hlay ord hord
 obtain ⟨⟨vs, s₁⟩, hlaid⟩ := Option.isSome_iff_exists.mp (layAllW_isSome (P := w.params) (ord := ord) G.has args r.toRowW.args s (pre_splitW hpre).1)
 have keeps := layAllW_keeps _ _ _ hlaid
 have hal := layAllW_rest _ _ _ hlaid
 obtain ⟨as, hrd, hin, hold⟩ := reads_layAllW hord _ _ _ hlaid hlay s₁.heap (fun _ _ e => e)
 have L : Laid r.records w s s₁ args vs as := ⟨⟨ord, hord, hlaid⟩, hrd, hin, hold, keeps, hal.1.trans hgens', hal.2.2.1⟩
 have G₁ := G.keeps hXk keeps
 obtain ⟨a, o, pm, cd, doc, dV, kV, h1, h2, h3, h4, h5⟩ := G₁.fn hdef
 have hcall := call w s s₁ _ _ G₁ (hYk _ _ _ (hY w s y) keeps) a o pm cd doc dV kV h2 h3 h4 h5 (defOf_name hdef ▸ h1) L.gens args vs as hpre hlay L.reads L.well (L.low G.low)
 have hi := ident_freeW hu ha hap
 have hwi : r.toRowW.claim.within = [] := List.isEmpty_iff.mp k6
 have good : ∀ res s', GoodWG r.toRowW.claim (classAt s.heap) (ExcName.means s.heap) args s₁ res s' →
   EndR r s args vs s₁ res s' ∧ leftWithCleanup s'.gens = false := fun res s' g => by
  have z := g.laid (c := r.toRowW.claim) hsame hwi hi L
  exact ⟨⟨z.1, z.2.1, fun q => ⟨namesKept_of hT hg r.keeps keeps g.2.1.old, noTable hwr q⟩⟩, leftWithCleanup_false_of_bare z.2.2⟩
 have run : wpP decP (model r.prog w) callerA (callStub r.name vs).cur (fun fin s' => ∃ f, fin = .done f ∧ (EndR r s args vs s₁ (.ok f) s' ∧ leftWithCleanup s'.gens = false))
   (fun e s' => EndR r s args vs s₁ (.error e) s' ∧ leftWithCleanup s'.gens = false) s₁ := by
  refine wpP_bind (wpP_mono (wpP.of (wpAny_nsGet (Q := fun v s' => v = some (.ref a) ∧ s' = s₁) (E := fun _ _ => False) G₁.T.g ⟨(defOf_name hdef ▸ h1), rfl⟩)) (fun v s' q => ?_) fun _ _ q => q.elim)
  obtain ⟨e1, e2⟩ := q
  subst e1 e2
  exact wpP_bind (wpP_mono hcall (fun v s' g => wpP_pure ⟨_, rfl, good _ _ g⟩) fun e s' g => good _ _ g)
 obtain ⟨k, res, s', s'', hrun, hsched, hfo, ⟨hcase, hos, hkp⟩⟩ := thread_at (R := EndR r s args vs s₁) (Shared.asleep_of_life hal.2.2.2 hz) run
 obtain ⟨eh, _, _, eo, _⟩ := Shared.forget_eq hfo
 replace hcase := hcase.congr eh
 rw [← eh] at hkp
 rw [← eo] at hos
 have hlife : s'.heap.life = s.heap.life := (runN_life _ _ _ hrun).trans hal.2.2.2
 refine ⟨vs, s₁, hlaid, k, _, s', hsched, ?_, (fun _ i x hx => by rw [hgens'] at hx; simp at hx), hkp, by rw [hlife], Shared.rest_eq hos⟩
 rcases hcase with ⟨v, rfl, d1, d2, d3, d4, d5⟩ | ⟨e, ob, cls, rfl, d1, d2, d3, d4, d5⟩
 ·exact .inl ⟨v, rfl, d1, d2, d3, fun b o y _ => d4 b o y, d5⟩
 ·exact .inr ⟨e, ob, cls, rfl, d1, d2, d3, d4, fun b o y _ => d5 b o y⟩
end
noncomputable abbrev pw : Program := PySem.Challenge.pw_nt0506_01
noncomputable def kTop (i : Nat) : Option Stmt := pw.main.body[i]?
noncomputable def kIn (i j : Nat) : Option Stmt := match pw.main.body[i]? with
 | some (.ClassDef _ _ _ b _ _ _ _ _ _ _) => b[j]?
 | _ => none
noncomputable def kF (st : Option Stmt) (q : Str) (cd : Addr) (pm : Str) (pt : Tok) (dv : Value) : Obj := match st with
 | some (.FunctionDef n ps b _ _ _ sc _ _ _) => ⟨.type "function", none, .func { name := n, qualname := q, params := ps, body := .stmts b, scope := sc, globals := mainGlobals, closure := [], defaults := dv, kwdefaults := .none, pyModule := .str pm pt, code := .ref cd, builtins := builtinsNs }, #[]⟩
 | _ => default
noncomputable def kC (n q : Str) (t : Tok) (x1 x2 x3 : Int) (r1 : Addr) (x4 : Int) (r2 r3 r4 r5 : Addr) (x5 : Int) (t3 : Tok) : Obj := ⟨.type "code", none, .fields #[.str n t, .str q (t + 1), .str "/claim/cut.py" (t + 2), .int x1 0, .int x2 0, .int 0 0, .int 0 0, .int x3 0, .ref r1, .bool true, .int x4 0, .ref r2, .none, .ref r3, .ref r4, .ref r5, .int x5 0, .int x1 0, .str "/claim/cut.py" t3], #[]⟩
noncomputable def kE (P : Params) (x : Str) (t : Tok) (v : Value) : DictEntry := ⟨PyData.keyHash P x, .str x t, v⟩
noncomputable def Kd (P : Params) : Frag := [
 (3, ⟨(.type "dict"), none, (.dict #[kE P ("__name__") 165 (.str ("law_nt0506_01") 1502), kE P ("__doc__") 166 .none, kE P ("__package__") 167 .none, kE P ("__loader__") 168 (.builtin "__main__.__loader__#opaque"), kE P ("__spec__") 169 .none, kE P ("__annotations__") 170 (.ref 6), kE P ("__builtins__") 171 (.ref 4), kE P ("__file__") 173 (.str ("/claim/cut.py") 172), kE P ("__cached__") 174 .none, kE P ("_wall") 193 (.ref 21), kE P ("GRAIN") 197 (.int (1000000) 196), kE P ("LEAST_INT") 202 (.int (-2147483648) 201), kE P ("MOST_INT") 208 (.int (2147483647) 207), kE P ("WHITE") 210 (.bytes #[0, 9, 10, 12, 13, 32] 209), kE P ("DELIMITERS") 212 (.bytes #[40, 41, 60, 62, 91, 93, 123, 125, 47, 37] 211), kE P ("LINE_FEED") 214 (.int (10) 213), kE P ("CARRIAGE_RETURN") 216 (.int (13) 215), kE P ("PostError") 245 (.ref 39), kE P ("PsError") 261 (.ref 52), kE P ("is_white") 268 (.ref 61), kE P ("is_delimiter") 275 (.ref 68), kE P ("is_line_end") 282 (.ref 75), kE P ("is_octal") 289 (.ref 82), kE P ("hex_value") 296 (.ref 89), kE P ("digit_value") 303 (.ref 96), kE P ("INTEGER") 307 (.str ("integer") 306), kE P ("REAL") 309 (.str ("real") 308), kE P ("MOST_REAL") 314 (.int (1000000000000000000000) 313), kE P ("PLACES") 316 (.int (6) 315), kE P ("WORD_SIZE") 320 (.int (4294967296) 319), kE P ("MOST_FIGURES") 322 (.int (6) 321), kE P ("divided") 333 (.ref 103), kE P ("is_integer_size") 340 (.ref 110), kE P ("checked_real") 347 (.ref 117), kE P ("real_of") 354 (.ref 124), kE P ("whole_number") 361 (.ref 131), kE P ("figures_value") 372 (.ref 138), kE P ("read_radix") 382 (.ref 145), kE P ("signed_word") 390 (.ref 152), kE P ("read_exponent") 400 (.ref 159), kE P ("number_scaled") 408 (.ref 166), kE P ("split_at") 418 (.ref 173), kE P ("read_real") 433 (.ref 180), kE P ("read_number") 445 (.ref 187), kE P ("READ_ONLY") 449 (.int (2) 448), kE P ("UNLIMITED") 451 (.int (3) 450), kE P ("Thing") 486 (.ref 205), kE P ("Text") 521 (.ref 226), kE P ("Row") 556 (.ref 247), kE P ("Span") 589 (.ref 268), kE P ("integer") 596 (.ref 279), kE P ("real") 603 (.ref 286), kE P ("name") 611 (.ref 294), kE P ("null") 617 (.ref 301), kE P ("of_string") 626 (.ref 309), kE P ("of_row") 635 (.ref 317), kE P ("of_packed") 643 (.ref 325), kE P ("is_in_array") 650 (.ref 332), kE P ("body_of") 657 (.ref 339), kE P ("is_local") 665 (.ref 346), kE P ("things_of_span") 672 (.ref 353), kE P ("SCAN_END") 676 (.int (4) 675), kE P ("SCAN_FORM_FEED") 678 (.int (12) 677), kE P ("SCAN_MOST_NAME") 680 (.int (127) 679), kE P ("SCAN_BASE") 682 (.int (85) 681), kE P ("SCAN_FIRST") 684 (.int (33) 683), kE P ("SCAN_OPEN") 686 (.int (40) 685), kE P ("SCAN_CLOSE") 688 (.int (41) 687), kE P ("SCAN_SLASH") 690 (.int (47) 689), kE P ("SCAN_LESS") 692 (.int (60) 691), kE P ("SCAN_MORE") 694 (.int (62) 693), kE P ("SCAN_BACKSLASH") 696 (.int (92) 695), kE P ("SCAN_ROW_OPEN") 698 (.int (91) 697), kE P ("SCAN_ROW_CLOSE") 700 (.int (93) 699), kE P ("SCAN_PROC_OPEN") 702 (.int (123) 701), kE P ("SCAN_PROC_CLOSE") 704 (.int (125) 703), kE P ("SCAN_TILDE") 706 (.int (126) 705), kE P ("SCAN_NOUGHTS") 708 (.int (122) 707), kE P ("SCAN_PERCENT") 710 (.int (37) 709), kE P ("OctetSource") 764 (.ref 393), kE P ("is_blank") 771 (.ref 404), kE P ("scan_skip_feed") 779 (.ref 411), kE P ("scan_line") 787 (.ref 418), kE P ("scan_first") 795 (.ref 425), kE P ("scan_word") 804 (.ref 432), kE P ("scan_sure") 812 (.ref 439), kE P ("scan_octal") 822 (.ref 446), kE P ("scan_escape") 832 (.ref 453), kE P ("scan_string") 842 (.ref 460), kE P ("scan_hex") 853 (.ref 467), kE P ("scan_group") 862 (.ref 474), kE P ("scan_base85") 872 (.ref 481), kE P ("scan_name") 880 (.ref 488), kE P ("scan_regular") 888 (.ref 495), kE P ("scan_at_once") 897 (.ref 502), kE P ("Scanner") 1018 (.ref 585), kE P ("scan_things") 1028 (.ref 597), kE P ("ITEM_COST") 1032 (.int (8) 1031), kE P ("ENTRY_COST") 1034 (.int (16) 1033), kE P ("MOST_COST") 1038 (.int (16777216) 1037), kE P ("Limits") 1106 (.ref 615), kE P ("VmSave") 1141 (.ref 636), kE P ("BodyMaker") 1243 (.ref 714), kE P ("BodyChanger") 1352 (.ref 798), kE P ("Memory") 1482 (.ref 896), kE P ("memory_check_many") 1490 (.ref 905), kE P ("memory_put_back") 1501 (.ref 912), kE P ("_law_words") 1516 (.ref 913), kE P ("_law_whites") 1529 (.ref 914), kE P ("_law_deck") 1535 (.ref 919), kE P ("_law_draw") 1543 (.ref 926), kE P ("_law_piece") 1551 (.ref 933), kE P ("_law_is_white") 1558 (.ref 940), kE P ("_law_run") 1566 (.ref 947), kE P ("_law_behind") 1574 (.ref 954), kE P ("_law_begun") 1582 (.ref 961), kE P ("_law_word") 1594 (.ref 968), kE P ("_law_things") 1605 (.ref 975), kE P ("_law_plain") 1611 (.ref 980), kE P ("_law_known") 1618 (.ref 987), kE P ("_law_heard") 1624 (.ref 992), kE P ("law") 1634 (.ref 999)] 122), #[]⟩),
 (29, ⟨(.type "tuple"), none, (.seq #[.none] 0), #[]⟩),
 (35, kC ("__init__") ("PostError.__init__") 229 14 2 3 30 181 31 32 33 34 234 235),
 (36, kF (kIn 9 0) ("PostError.__init__") 35 ("postcore.base") 194 (.ref 29)),
 (38, ⟨(.type "dict"), none, (.dict #[kE P ("__module__") 224 (.str ("postcore.base") 194), kE P ("__firstlineno__") 228 (.int (12) 227), kE P ("__init__") 236 (.ref 36), kE P ("__static_attributes__") 238 (.ref 37), kE P ("__weakref__") 240 (.ref 40), kE P ("__doc__") 241 .none] 3), #[]⟩),
 (39, ⟨(.type "type"), none, (.cls ⟨("PostError"), [(.type "Exception")], [(.ref 39), (.type "Exception"), (.type "BaseException"), (.type "object")], 38, ("PostError"), true, [], [(.ref 52)], false, none, false⟩), #[(some (.ref 22)), none, (some (.str ("PostError") 217)), (some (.str ("PostError") 225)), (some (.builtin "Exception.__new__")), (some (.bool true))]⟩),
 (51, ⟨(.type "dict"), none, (.dict #[kE P ("__module__") 253 (.str ("postcore.base") 194), kE P ("__firstlineno__") 257 (.int (16) 256), kE P ("__static_attributes__") 258 (.ref 50), kE P ("__doc__") 259 .none] 2), #[]⟩),
 (52, ⟨(.type "type"), none, (.cls ⟨("PsError"), [(.ref 39)], [(.ref 52), (.ref 39), (.type "Exception"), (.type "BaseException"), (.type "object")], 51, ("PsError"), true, [], [], false, none, false⟩), #[(some (.ref 43)), none, (some (.str ("PsError") 246)), (some (.str ("PsError") 254)), (some (.builtin "Exception.__new__")), (some (.bool true))]⟩),
 (60, kC ("is_white") ("is_white") 262 18 1 3 55 181 56 57 58 59 266 267),
 (61, kF (kTop 11) ("is_white") 60 ("postcore.base") 194 .none),
 (67, kC ("is_delimiter") ("is_delimiter") 269 20 1 3 62 181 63 64 65 66 273 274),
 (68, kF (kTop 12) ("is_delimiter") 67 ("postcore.base") 194 .none),
 (74, kC ("is_line_end") ("is_line_end") 276 22 1 3 69 181 70 71 72 73 280 281),
 (75, kF (kTop 13) ("is_line_end") 74 ("postcore.base") 194 .none),
 (95, kC ("digit_value") ("digit_value") 297 34 1 3 90 181 91 92 93 94 301 302),
 (96, kF (kTop 16) ("digit_value") 95 ("postcore.base") 194 .none),
 (102, kC ("divided") ("divided") 323 49 2 3 97 181 98 99 100 101 331 332),
 (103, kF (kTop 24) ("divided") 102 ("postcore.numbers") 304 .none),
 (109, kC ("is_integer_size") ("is_integer_size") 334 53 1 3 104 181 105 106 107 108 338 339),
 (110, kF (kTop 25) ("is_integer_size") 109 ("postcore.numbers") 304 .none),
 (116, kC ("checked_real") ("checked_real") 341 55 1 3 111 181 112 113 114 115 345 346),
 (117, kF (kTop 26) ("checked_real") 116 ("postcore.numbers") 304 .none),
 (123, kC ("real_of") ("real_of") 348 59 1 3 118 181 119 120 121 122 352 353),
 (124, kF (kTop 27) ("real_of") 123 ("postcore.numbers") 304 .none),
 (130, kC ("whole_number") ("whole_number") 355 61 1 3 125 181 126 127 128 129 359 360),
 (131, kF (kTop 28) ("whole_number") 130 ("postcore.numbers") 304 .none),
 (137, kC ("figures_value") ("figures_value") 362 65 2 3 132 181 133 134 135 136 370 371),
 (138, kF (kTop 29) ("figures_value") 137 ("postcore.numbers") 304 .none),
 (144, kC ("read_radix") ("read_radix") 373 75 2 3 139 181 140 141 142 143 380 381),
 (145, kF (kTop 30) ("read_radix") 144 ("postcore.numbers") 304 .none),
 (151, kC ("signed_word") ("signed_word") 383 85 1 3 146 181 147 148 149 150 388 389),
 (152, kF (kTop 31) ("signed_word") 151 ("postcore.numbers") 304 .none),
 (158, kC ("read_exponent") ("read_exponent") 391 88 1 3 153 181 154 155 156 157 398 399),
 (159, kF (kTop 32) ("read_exponent") 158 ("postcore.numbers") 304 .none),
 (165, kC ("number_scaled") ("number_scaled") 401 96 2 3 160 181 161 162 163 164 406 407),
 (166, kF (kTop 33) ("number_scaled") 165 ("postcore.numbers") 304 .none),
 (172, kC ("split_at") ("split_at") 409 106 2 3 167 181 168 169 170 171 416 417),
 (173, kF (kTop 34) ("split_at") 172 ("postcore.numbers") 304 .none),
 (179, kC ("read_real") ("read_real") 419 111 2 3 174 181 175 176 177 178 431 432),
 (180, kF (kTop 35) ("read_real") 179 ("postcore.numbers") 304 .none),
 (186, kC ("read_number") ("read_number") 434 122 1 3 181 181 182 183 184 185 443 444),
 (187, kF (kTop 36) ("read_number") 186 ("postcore.numbers") 304 .none),
 (195, ⟨(.type "tuple"), none, (.seq #[(.bool false), (.int (3) 450)] 0), #[]⟩),
 (201, kC ("__init__") ("Thing.__init__") 464 137 5 3 196 181 197 198 199 200 472 473),
 (202, kF (kIn 40 0) ("Thing.__init__") 201 ("postcore.objects") 446 (.ref 195)),
 (204, ⟨(.type "dict"), none, (.dict #[kE P ("__module__") 459 (.str ("postcore.objects") 446), kE P ("__firstlineno__") 463 (.int (135) 462), kE P ("__init__") 474 (.ref 202), kE P ("__static_attributes__") 479 (.ref 203), kE P ("__dict__") 481 (.ref 206), kE P ("__weakref__") 483 (.ref 207), kE P ("__doc__") 484 .none] 4), #[]⟩),
 (205, ⟨(.type "type"), none, (.cls ⟨("Thing"), [(.type "object")], [(.ref 205), (.type "object")], 204, ("Thing"), true, [], [], false, none, false⟩), #[none, none, (some (.str ("Thing") 452)), (some (.str ("Thing") 460)), (some (.builtin "object.__new__")), (some (.bool true))]⟩),
 (243, kC ("__init__") ("Row.__init__") 534 151 5 3 238 181 239 240 241 242 542 543),
 (244, kF (kIn 42 0) ("Row.__init__") 243 ("postcore.objects") 446 .none),
 (246, ⟨(.type "dict"), none, (.dict #[kE P ("__module__") 529 (.str ("postcore.objects") 446), kE P ("__firstlineno__") 533 (.int (149) 532), kE P ("__init__") 544 (.ref 244), kE P ("__static_attributes__") 549 (.ref 245), kE P ("__dict__") 551 (.ref 248), kE P ("__weakref__") 553 (.ref 249), kE P ("__doc__") 554 .none] 4), #[]⟩),
 (247, ⟨(.type "type"), none, (.cls ⟨("Row"), [(.type "object")], [(.ref 247), (.type "object")], 246, ("Row"), true, [], [], false, none, false⟩), #[none, none, (some (.str ("Row") 522)), (some (.str ("Row") 530)), (some (.builtin "object.__new__")), (some (.bool true))]⟩),
 (264, kC ("__init__") ("Span.__init__") 569 158 4 3 259 181 260 261 262 263 576 577),
 (265, kF (kIn 43 0) ("Span.__init__") 264 ("postcore.objects") 446 .none),
 (267, ⟨(.type "dict"), none, (.dict #[kE P ("__module__") 564 (.str ("postcore.objects") 446), kE P ("__firstlineno__") 568 (.int (156) 567), kE P ("__init__") 578 (.ref 265), kE P ("__static_attributes__") 582 (.ref 266), kE P ("__dict__") 584 (.ref 269), kE P ("__weakref__") 586 (.ref 270), kE P ("__doc__") 587 .none] 4), #[]⟩),
 (268, ⟨(.type "type"), none, (.cls ⟨("Span"), [(.type "object")], [(.ref 268), (.type "object")], 267, ("Span"), true, [], [], false, none, false⟩), #[none, none, (some (.str ("Span") 557)), (some (.str ("Span") 565)), (some (.builtin "object.__new__")), (some (.bool true))]⟩),
 (278, kC ("integer") ("integer") 590 162 1 3 273 181 274 275 276 277 594 595),
 (279, kF (kTop 44) ("integer") 278 ("postcore.objects") 446 .none),
 (285, kC ("real") ("real") 597 164 1 3 280 181 281 282 283 284 601 602),
 (286, kF (kTop 45) ("real") 285 ("postcore.objects") 446 .none),
 (287, ⟨(.type "tuple"), none, (.seq #[(.bool false)] 0), #[]⟩),
 (293, kC ("name") ("name") 604 166 2 3 288 181 289 290 291 292 609 610),
 (294, kF (kTop 46) ("name") 293 ("postcore.objects") 446 (.ref 287)),
 (310, ⟨(.type "tuple"), none, (.seq #[(.bool false), (.int (3) 450)] 0), #[]⟩),
 (316, kC ("of_row") ("of_row") 627 172 3 3 311 181 312 313 314 315 633 634),
 (317, kF (kTop 49) ("of_row") 316 ("postcore.objects") 446 (.ref 310)),
 (352, kC ("things_of_span") ("things_of_span") 666 185 1 3 347 181 348 349 350 351 670 671),
 (353, kF (kTop 54) ("things_of_span") 352 ("postcore.objects") 446 .none),
 (361, ⟨(.type "tuple"), none, (.seq #[(.int (0) 723)] 0), #[]⟩),
 (367, kC ("__init__") ("OctetSource.__init__") 724 208 3 3 362 181 363 364 365 366 730 731),
 (368, kF (kIn 74 0) ("OctetSource.__init__") 367 ("postcore.scanner") 673 (.ref 361)),
 (374, kC ("place") ("OctetSource.place") 733 212 1 3 369 181 370 371 372 373 737 738),
 (375, kF (kIn 74 1) ("OctetSource.place") 374 ("postcore.scanner") 673 .none),
 (376, ⟨(.type "property"), none, (.fields #[(.ref 375), .none, .none, .none, (.str ("place") 740), (.bool false)]), #[]⟩),
 (382, kC ("next") ("OctetSource.next") 741 216 1 3 377 181 378 379 380 381 745 746),
 (383, kF (kIn 74 2) ("OctetSource.next") 382 ("postcore.scanner") 673 .none),
 (389, kC ("back") ("OctetSource.back") 748 222 1 3 384 181 385 386 387 388 752 753),
 (390, kF (kIn 74 3) ("OctetSource.back") 389 ("postcore.scanner") 673 .none),
 (392, ⟨(.type "dict"), none, (.dict #[kE P ("__module__") 718 (.str ("postcore.scanner") 673), kE P ("__firstlineno__") 722 (.int (206) 721), kE P ("__init__") 732 (.ref 368), kE P ("place") 740 (.ref 376), kE P ("next") 747 (.ref 383), kE P ("back") 754 (.ref 390), kE P ("__static_attributes__") 757 (.ref 391), kE P ("__dict__") 759 (.ref 394), kE P ("__weakref__") 761 (.ref 395), kE P ("__doc__") 762 .none] 4), #[]⟩),
 (393, ⟨(.type "type"), none, (.cls ⟨("OctetSource"), [(.type "object")], [(.ref 393), (.type "object")], 392, ("OctetSource"), true, [], [], false, none, false⟩), #[none, none, (some (.str ("OctetSource") 711)), (some (.str ("OctetSource") 719)), (some (.builtin "object.__new__")), (some (.bool true))]⟩),
 (403, kC ("is_blank") ("is_blank") 765 224 1 3 398 181 399 400 401 402 769 770),
 (404, kF (kTop 75) ("is_blank") 403 ("postcore.scanner") 673 .none),
 (410, kC ("scan_skip_feed") ("scan_skip_feed") 772 226 1 3 405 181 406 407 408 409 777 778),
 (411, kF (kTop 76) ("scan_skip_feed") 410 ("postcore.scanner") 673 .none),
 (417, kC ("scan_line") ("scan_line") 780 230 1 3 412 181 413 414 415 416 785 786),
 (418, kF (kTop 77) ("scan_line") 417 ("postcore.scanner") 673 .none),
 (424, kC ("scan_first") ("scan_first") 788 236 1 3 419 181 420 421 422 423 793 794),
 (425, kF (kTop 78) ("scan_first") 424 ("postcore.scanner") 673 .none),
 (431, kC ("scan_word") ("scan_word") 796 245 1 3 426 181 427 428 429 430 802 803),
 (432, kF (kTop 79) ("scan_word") 431 ("postcore.scanner") 673 .none),
 (438, kC ("scan_sure") ("scan_sure") 805 258 1 3 433 181 434 435 436 437 810 811),
 (439, kF (kTop 80) ("scan_sure") 438 ("postcore.scanner") 673 .none),
 (487, kC ("scan_name") ("scan_name") 873 342 2 3 482 181 483 484 485 486 878 879),
 (488, kF (kTop 87) ("scan_name") 487 ("postcore.scanner") 673 .none),
 (494, kC ("scan_regular") ("scan_regular") 881 346 1 3 489 181 490 491 492 493 886 887),
 (495, kF (kTop 88) ("scan_regular") 494 ("postcore.scanner") 673 .none),
 (501, kC ("scan_at_once") ("scan_at_once") 889 351 2 3 496 181 497 498 499 500 895 896),
 (502, kF (kTop 89) ("scan_at_once") 501 ("postcore.scanner") 673 .none),
 (515, kC ("__init__") ("Scanner.__init__") 910 358 2 3 510 181 511 512 513 514 915 916),
 (516, kF (kIn 90 0) ("Scanner.__init__") 515 ("postcore.scanner") 673 .none),
 (529, kC ("procedure") ("Scanner.procedure") 926 364 3 3 524 181 525 526 527 528 933 934),
 (530, kF (kIn 90 2) ("Scanner.procedure") 529 ("postcore.scanner") 673 .none),
 (536, kC ("slashed") ("Scanner.slashed") 936 368 3 3 531 181 532 533 534 535 943 944),
 (537, kF (kIn 90 3) ("Scanner.slashed") 536 ("postcore.scanner") 673 .none),
 (543, kC ("pointed") ("Scanner.pointed") 946 376 2 3 538 181 539 540 541 542 952 953),
 (544, kF (kIn 90 4) ("Scanner.pointed") 543 ("postcore.scanner") 673 .none),
 (550, kC ("closed") ("Scanner.closed") 955 385 2 3 545 181 546 547 548 549 960 961),
 (551, kF (kIn 90 5) ("Scanner.closed") 550 ("postcore.scanner") 673 .none),
 (557, kC ("plain") ("Scanner.plain") 963 390 4 3 552 181 553 554 555 556 970 971),
 (558, kF (kIn 90 6) ("Scanner.plain") 557 ("postcore.scanner") 673 .none),
 (559, ⟨(.type "tuple"), none, (.seq #[(.bool false), .none] 0), #[]⟩),
 (565, kC ("token") ("Scanner.token") 973 406 4 3 560 181 561 562 563 564 983 984),
 (566, kF (kIn 90 7) ("Scanner.token") 565 ("postcore.scanner") 673 (.ref 559)),
 (567, ⟨(.type "tuple"), none, (.seq #[(.bool false), .none] 0), #[]⟩),
 (573, kC ("things") ("Scanner.things") 986 428 4 3 568 181 569 570 571 572 995 996),
 (574, kF (kIn 90 8) ("Scanner.things") 573 ("postcore.scanner") 673 (.ref 567)),
 (575, ⟨(.type "tuple"), none, (.seq #[(.bool false), .none] 0), #[]⟩),
 (581, kC ("token_in") ("Scanner.token_in") 998 436 4 3 576 181 577 578 579 580 1007 1008),
 (582, kF (kIn 90 9) ("Scanner.token_in") 581 ("postcore.scanner") 673 (.ref 575)),
 (584, ⟨(.type "dict"), none, (.dict #[kE P ("__module__") 905 (.str ("postcore.scanner") 673), kE P ("__firstlineno__") 909 (.int (356) 908), kE P ("__init__") 917 (.ref 516), kE P ("string") 925 (.ref 523), kE P ("procedure") 935 (.ref 530), kE P ("slashed") 945 (.ref 537), kE P ("pointed") 954 (.ref 544), kE P ("closed") 962 (.ref 551), kE P ("plain") 972 (.ref 558), kE P ("token") 985 (.ref 566), kE P ("things") 997 (.ref 574), kE P ("token_in") 1009 (.ref 582), kE P ("__static_attributes__") 1011 (.ref 583), kE P ("__dict__") 1013 (.ref 586), kE P ("__weakref__") 1015 (.ref 587), kE P ("__doc__") 1016 .none] 4), #[]⟩),
 (585, ⟨(.type "type"), none, (.cls ⟨("Scanner"), [(.type "object")], [(.ref 585), (.type "object")], 584, ("Scanner"), true, [], [], false, none, false⟩), #[none, none, (some (.str ("Scanner") 898)), (some (.str ("Scanner") 906)), (some (.builtin "object.__new__")), (some (.bool true))]⟩),
 (590, ⟨(.type "tuple"), none, (.seq #[(.bool false), .none] 0), #[]⟩),
 (596, kC ("scan_things") ("scan_things") 1019 440 4 3 591 181 592 593 594 595 1026 1027),
 (597, kF (kTop 91) ("scan_things") 596 ("postcore.scanner") 673 (.ref 590)),
 (605, ⟨(.type "tuple"), none, (.seq #[(.int (500) 1051), (.int (20) 1052), (.int (250) 1053), (.int (15) 1054), (.int (31) 1055), (.int (65535) 1056), (.int (65535) 1057), (.int (65535) 1058), (.int (127) 1059), (.int (1500) 1060), (.int (11) 1061), (.int (15) 1062), (.int (600) 1063), (.int (16777216) 1037)] 0), #[]⟩),
 (611, kC ("__init__") ("Limits.__init__") 1064 448 15 3 606 181 607 608 609 610 1082 1083),
 (612, kF (kIn 96 0) ("Limits.__init__") 611 ("postcore.memory") 1029 (.ref 605)),
 (614, ⟨(.type "dict"), none, (.dict #[kE P ("__module__") 1046 (.str ("postcore.memory") 1029), kE P ("__firstlineno__") 1050 (.int (446) 1049), kE P ("__init__") 1084 (.ref 612), kE P ("__static_attributes__") 1099 (.ref 613), kE P ("__dict__") 1101 (.ref 616), kE P ("__weakref__") 1103 (.ref 617), kE P ("__doc__") 1104 .none] 4), #[]⟩),
 (615, ⟨(.type "type"), none, (.cls ⟨("Limits"), [(.type "object")], [(.ref 615), (.type "object")], 614, ("Limits"), true, [], [], false, none, false⟩), #[none, none, (some (.str ("Limits") 1039)), (some (.str ("Limits") 1047)), (some (.builtin "object.__new__")), (some (.bool true))]⟩),
 (653, kC ("__init__") ("BodyMaker.__init__") 1154 472 2 3 648 181 649 650 651 652 1159 1160),
 (654, kF (kIn 98 0) ("BodyMaker.__init__") 653 ("postcore.memory") 1029 .none),
 (660, kC ("level") ("BodyMaker.level") 1162 484 1 3 655 181 656 657 658 659 1166 1167),
 (661, kF (kIn 98 1) ("BodyMaker.level") 660 ("postcore.memory") 1029 .none),
 (662, ⟨(.type "property"), none, (.fields #[(.ref 661), .none, .none, .none, (.str ("level") 1169), (.bool false)]), #[]⟩),
 (668, kC ("body_level") ("BodyMaker.body_level") 1170 488 1 3 663 181 664 665 666 667 1174 1175),
 (669, kF (kIn 98 2) ("BodyMaker.body_level") 668 ("postcore.memory") 1029 .none),
 (675, kC ("take_room") ("BodyMaker.take_room") 1177 491 2 3 670 181 671 672 673 674 1182 1183),
 (676, kF (kIn 98 3) ("BodyMaker.take_room") 675 ("postcore.memory") 1029 .none),
 (682, kC ("check_room") ("BodyMaker.check_room") 1185 501 2 3 677 181 678 679 680 681 1190 1191),
 (683, kF (kIn 98 4) ("BodyMaker.check_room") 682 ("postcore.memory") 1029 .none),
 (703, kC ("make_row") ("BodyMaker.make_row") 1209 512 2 3 698 181 699 700 701 702 1215 1216),
 (704, kF (kIn 98 7) ("BodyMaker.make_row") 703 ("postcore.memory") 1029 .none),
 (713, ⟨(.type "dict"), none, (.dict #[kE P ("__module__") 1149 (.str ("postcore.memory") 1029), kE P ("__firstlineno__") 1153 (.int (470) 1152), kE P ("__init__") 1161 (.ref 654), kE P ("level") 1169 (.ref 662), kE P ("body_level") 1176 (.ref 669), kE P ("take_room") 1184 (.ref 676), kE P ("check_room") 1192 (.ref 683), kE P ("make_text") 1200 (.ref 690), kE P ("text_of_octets") 1208 (.ref 697), kE P ("make_row") 1217 (.ref 704), kE P ("make_dict") 1225 (.ref 711), kE P ("__static_attributes__") 1236 (.ref 712), kE P ("__dict__") 1238 (.ref 715), kE P ("__weakref__") 1240 (.ref 716), kE P ("__doc__") 1241 .none] 4), #[]⟩),
 (714, ⟨(.type "type"), none, (.cls ⟨("BodyMaker"), [(.type "object")], [(.ref 714), (.type "object")], 713, ("BodyMaker"), true, [], [(.ref 798)], false, none, false⟩), #[none, none, (some (.str ("BodyMaker") 1142)), (some (.str ("BodyMaker") 1150)), (some (.builtin "object.__new__")), (some (.bool true))]⟩),
 (797, ⟨(.type "dict"), none, (.dict #[kE P ("__module__") 1251 (.str ("postcore.memory") 1029), kE P ("__firstlineno__") 1255 (.int (525) 1254), kE P ("is_elder") 1263 (.ref 732), kE P ("check_holds") 1272 (.ref 739), kE P ("put_item") 1282 (.ref 746), kE P ("put_items") 1292 (.ref 753), kE P ("put_octet") 1302 (.ref 760), kE P ("put_octets") 1312 (.ref 767), kE P ("grow") 1320 (.ref 774), kE P ("put_entry") 1330 (.ref 781), kE P ("drop_entry") 1339 (.ref 788), kE P ("set_access") 1348 (.ref 795), kE P ("__static_attributes__") 1349 (.ref 796), kE P ("__doc__") 1350 .none] 2), #[]⟩),
 (798, ⟨(.type "type"), none, (.cls ⟨("BodyChanger"), [(.ref 714)], [(.ref 798), (.ref 714), (.type "object")], 797, ("BodyChanger"), true, [], [(.ref 896)], false, none, false⟩), #[(some (.ref 719)), none, (some (.str ("BodyChanger") 1244)), (some (.str ("BodyChanger") 1252)), (some (.builtin "object.__new__")), (some (.bool true))]⟩),
 (895, ⟨(.type "dict"), none, (.dict #[kE P ("__module__") 1360 (.str ("postcore.memory") 1029), kE P ("__firstlineno__") 1364 (.int (556) 1363), kE P ("save") 1372 (.ref 815), kE P ("place_of_save") 1382 (.ref 822), kE P ("is_saved") 1390 (.ref 829), kE P ("note_of") 1398 (.ref 836), kE P ("sure_place") 1407 (.ref 843), kE P ("newer_than") 1416 (.ref 850), kE P ("restore") 1431 (.ref 857), kE P ("settle_costs") 1443 (.ref 864), kE P ("status") 1450 (.ref 871), kE P ("collect") 1458 (.ref 878), kE P ("reclaim") 1467 (.ref 886), kE P ("journal_things") 1474 (.ref 893), kE P ("__static_attributes__") 1479 (.ref 894), kE P ("__doc__") 1480 .none] 2), #[]⟩),
 (896, ⟨(.type "type"), none, (.cls ⟨("Memory"), [(.ref 798)], [(.ref 896), (.ref 798), (.ref 714), (.type "object")], 895, ("Memory"), true, [], [], false, none, false⟩), #[(some (.ref 801)), none, (some (.str ("Memory") 1353)), (some (.str ("Memory") 1361)), (some (.builtin "object.__new__")), (some (.bool true))]⟩),
 (904, kC ("memory_check_many") ("memory_check_many") 1483 621 2 3 899 181 900 901 902 903 1488 1489),
 (905, kF (kTop 101) ("memory_check_many") 904 ("postcore.memory") 1029 .none),
 (913, ⟨(.type "tuple"), none, (.seq #[(.bytes #[97, 98, 99] 1504), (.bytes #[97, 49] 1505), (.bytes #[49, 97] 1506), (.bytes #[46, 46] 1507), (.bytes #[49, 50] 1508), (.bytes #[45, 51] 1509), (.bytes #[49, 46, 53] 1510), (.bytes #[49, 54, 35, 70] 1511), (.bytes #[101, 50] 1512), (.bytes #[43] 1513), (.bytes #[128, 121] 1514), (.bytes #[65, 46, 98] 1515)] 0), #[]⟩),
 (914, ⟨(.type "tuple"), none, (.seq #[(.bytes #[32] 1517), (.bytes #[] 1518), (.bytes #[10] 1519), (.bytes #[9] 1520), (.bytes #[13, 10] 1521), (.bytes #[0] 1522), (.bytes #[12] 1523), (.bytes #[13] 1524), (.bytes #[4] 1525), (.bytes #[32, 32] 1526), (.bytes #[] 1527), (.bytes #[10, 13] 1528)] 0), #[]⟩),
 (918, ⟨(.type "code"), none, (.fields #[(.str ("_law_deck") 1530), (.str ("_law_deck") 1531), (.str ("/claim/cut.py") 1532), (.int (646) 0), (.int (1) 0), (.int (0) 0), (.int (0) 0), (.int (3) 0), (.ref 915), (.bool true), (.int (181) 0), (.ref 916), .none, .none, .none, (.ref 917), (.int (1533) 0), (.int (646) 0), (.str ("/claim/cut.py") 1534)]), #[]⟩),
 (919, kF (kTop 106) ("_law_deck") 918 ("law_nt0506_01") 1502 .none),
 (925, kC ("_law_draw") ("_law_draw") 1536 651 2 3 920 181 921 922 923 924 1541 1542),
 (926, kF (kTop 107) ("_law_draw") 925 ("law_nt0506_01") 1502 .none),
 (932, kC ("_law_piece") ("_law_piece") 1544 656 1 3 927 181 928 929 930 931 1549 1550),
 (933, kF (kTop 108) ("_law_piece") 932 ("law_nt0506_01") 1502 .none),
 (939, kC ("_law_is_white") ("_law_is_white") 1552 669 1 3 934 181 935 936 937 938 1556 1557),
 (940, kF (kTop 109) ("_law_is_white") 939 ("law_nt0506_01") 1502 .none),
 (946, kC ("_law_run") ("_law_run") 1559 671 2 3 941 181 942 943 944 945 1564 1565),
 (947, kF (kTop 110) ("_law_run") 946 ("law_nt0506_01") 1502 .none),
 (953, kC ("_law_behind") ("_law_behind") 1567 675 2 3 948 181 949 950 951 952 1572 1573),
 (954, kF (kTop 111) ("_law_behind") 953 ("law_nt0506_01") 1502 .none),
 (960, kC ("_law_begun") ("_law_begun") 1575 679 2 3 955 181 956 957 958 959 1580 1581),
 (961, kF (kTop 112) ("_law_begun") 960 ("law_nt0506_01") 1502 .none),
 (967, kC ("_law_word") ("_law_word") 1583 687 2 3 962 181 963 964 965 966 1592 1593),
 (968, kF (kTop 113) ("_law_word") 967 ("law_nt0506_01") 1502 .none),
 (974, kC ("_law_things") ("_law_things") 1595 708 2 3 969 181 970 971 972 973 1603 1604),
 (975, kF (kTop 114) ("_law_things") 974 ("law_nt0506_01") 1502 .none),
 (979, ⟨(.type "code"), none, (.fields #[(.str ("_law_plain") 1606), (.str ("_law_plain") 1607), (.str ("/claim/cut.py") 1608), (.int (730) 0), (.int (1) 0), (.int (0) 0), (.int (0) 0), (.int (3) 0), (.ref 976), (.bool true), (.int (181) 0), (.ref 977), .none, .none, .none, (.ref 978), (.int (1609) 0), (.int (730) 0), (.str ("/claim/cut.py") 1610)]), #[]⟩),
 (980, kF (kTop 115) ("_law_plain") 979 ("law_nt0506_01") 1502 .none),
 (986, kC ("_law_known") ("_law_known") 1612 736 1 3 981 181 982 983 984 985 1616 1617),
 (987, kF (kTop 116) ("_law_known") 986 ("law_nt0506_01") 1502 .none),
 (991, ⟨(.type "code"), none, (.fields #[(.str ("_law_heard") 1619), (.str ("_law_heard") 1620), (.str ("/claim/cut.py") 1621), (.int (738) 0), (.int (2) 0), (.int (0) 0), (.int (0) 0), (.int (3) 0), (.ref 988), (.bool true), (.int (181) 0), (.ref 989), .none, .none, .none, (.ref 990), (.int (1622) 0), (.int (738) 0), (.str ("/claim/cut.py") 1623)]), #[]⟩),
 (992, kF (kTop 117) ("_law_heard") 991 ("law_nt0506_01") 1502 .none),
 (998, kC ("law") ("law") 1625 749 1 3 993 181 994 995 996 997 1632 1633),
 (999, kF (kTop 118) ("law") 998 ("law_nt0506_01") 1502 .none)]
noncomputable def Kas : List Addr := [3, 29, 35, 36, 38, 39, 51, 52, 60, 61, 67, 68, 74, 75, 95, 96, 102, 103, 109, 110, 116, 117, 123, 124, 130, 131, 137, 138, 144, 145, 151, 152, 158, 159, 165, 166, 172, 173, 179, 180, 186, 187, 195, 201, 202, 204, 205, 243, 244, 246, 247, 264, 265, 267, 268, 278, 279, 285, 286, 287, 293, 294, 310, 316, 317, 352, 353, 361, 367, 368, 374, 375, 376, 382, 383, 389, 390, 392, 393, 403, 404, 410, 411, 417, 418, 424, 425, 431, 432, 438, 439, 487, 488, 494, 495, 501, 502, 515, 516, 529, 530, 536, 537, 543, 544, 550, 551, 557, 558, 559, 565, 566, 567, 573, 574, 575, 581, 582, 584, 585, 590, 596, 597, 605, 611, 612, 614, 615, 653, 654, 660, 661, 662, 668, 669, 675, 676, 682, 683, 703, 704, 713, 714, 797, 798, 895, 896, 904, 905, 913, 914, 918, 919, 925, 926, 932, 933, 939, 940, 946, 947, 953, 954, 960, 961, 967, 968, 974, 975, 979, 980, 986, 987, 991, 992, 998, 999]
noncomputable def Kloose : List Str := [Str.ofString "_wall", Str.ofString "GRAIN", Str.ofString "LEAST_INT", Str.ofString "MOST_INT", Str.ofString "WHITE", Str.ofString "DELIMITERS", Str.ofString "LINE_FEED", Str.ofString "CARRIAGE_RETURN", Str.ofString "PostError", Str.ofString "PsError", Str.ofString "is_white", Str.ofString "is_delimiter", Str.ofString "is_line_end", Str.ofString "is_octal", Str.ofString "hex_value", Str.ofString "digit_value", Str.ofString "INTEGER", Str.ofString "REAL", Str.ofString "MOST_REAL", Str.ofString "PLACES", Str.ofString "WORD_SIZE", Str.ofString "MOST_FIGURES", Str.ofString "divided", Str.ofString "is_integer_size", Str.ofString "checked_real", Str.ofString "real_of", Str.ofString "whole_number", Str.ofString "figures_value", Str.ofString "read_radix", Str.ofString "signed_word", Str.ofString "read_exponent", Str.ofString "number_scaled", Str.ofString "split_at", Str.ofString "read_real", Str.ofString "read_number", Str.ofString "READ_ONLY", Str.ofString "UNLIMITED", Str.ofString "Thing", Str.ofString "Text", Str.ofString "Row", Str.ofString "Span", Str.ofString "integer", Str.ofString "real", Str.ofString "name", Str.ofString "null", Str.ofString "of_string", Str.ofString "of_row", Str.ofString "of_packed", Str.ofString "is_in_array", Str.ofString "body_of", Str.ofString "is_local", Str.ofString "things_of_span", Str.ofString "SCAN_END", Str.ofString "SCAN_FORM_FEED", Str.ofString "SCAN_MOST_NAME", Str.ofString "SCAN_BASE", Str.ofString "SCAN_FIRST", Str.ofString "SCAN_OPEN", Str.ofString "SCAN_CLOSE", Str.ofString "SCAN_SLASH", Str.ofString "SCAN_LESS", Str.ofString "SCAN_MORE", Str.ofString "SCAN_BACKSLASH", Str.ofString "SCAN_ROW_OPEN", Str.ofString "SCAN_ROW_CLOSE", Str.ofString "SCAN_PROC_OPEN", Str.ofString "SCAN_PROC_CLOSE", Str.ofString "SCAN_TILDE", Str.ofString "SCAN_NOUGHTS", Str.ofString "SCAN_PERCENT", Str.ofString "OctetSource", Str.ofString "is_blank", Str.ofString "scan_skip_feed", Str.ofString "scan_line", Str.ofString "scan_first", Str.ofString "scan_word", Str.ofString "scan_sure", Str.ofString "scan_octal", Str.ofString "scan_escape", Str.ofString "scan_string", Str.ofString "scan_hex", Str.ofString "scan_group", Str.ofString "scan_base85", Str.ofString "scan_name", Str.ofString "scan_regular", Str.ofString "scan_at_once", Str.ofString "Scanner", Str.ofString "scan_things", Str.ofString "ITEM_COST", Str.ofString "ENTRY_COST", Str.ofString "MOST_COST", Str.ofString "Limits", Str.ofString "VmSave", Str.ofString "BodyMaker", Str.ofString "BodyChanger", Str.ofString "Memory", Str.ofString "memory_check_many", Str.ofString "memory_put_back", Str.ofString "_law_words", Str.ofString "_law_whites", Str.ofString "_law_deck", Str.ofString "_law_draw", Str.ofString "_law_piece", Str.ofString "_law_is_white", Str.ofString "_law_run", Str.ofString "_law_behind", Str.ofString "_law_begun", Str.ofString "_law_word", Str.ofString "_law_things", Str.ofString "_law_plain", Str.ofString "_law_known", Str.ofString "_law_heard"]
section
noncomputable def GP (P : CP) (w : World) : Gl := ⟨P, pw, w, Kd w.params, 52⟩
noncomputable abbrev GG (w : World) : Gl := GP decP w
noncomputable def gI (w : World) (x : Str) : Option (Option Value) := nsIn (GG w).K mainGlobals x
section
variable {w : World}
theorem g_GRAIN : gI w "GRAIN" = some (some (.int (1000000) 196)) := by kernel_rfl
theorem g_LEAST_INT : gI w "LEAST_INT" = some (some (.int (-2147483648) 201)) := by kernel_rfl
theorem g_MOST_INT : gI w "MOST_INT" = some (some (.int (2147483647) 207)) := by kernel_rfl
theorem g_WHITE : gI w "WHITE" = some (some (.bytes ([0, 9, 10, 12, 13, 32] : List UInt8).toArray 209)) := by kernel_rfl
theorem g_DELIMITERS : gI w "DELIMITERS" = some (some (.bytes ([40, 41, 60, 62, 91, 93, 123, 125, 47, 37] : List UInt8).toArray 211)) := by kernel_rfl
theorem g_LINE_FEED : gI w "LINE_FEED" = some (some (.int (10) 213)) := by kernel_rfl
theorem g_CARRIAGE_RETURN : gI w "CARRIAGE_RETURN" = some (some (.int (13) 215)) := by kernel_rfl
theorem g_PsError : gI w "PsError" = some (some (.ref 52)) := by kernel_rfl
theorem g_is_white : gI w "is_white" = some (some (.ref 61)) := by kernel_rfl
theorem g_is_delimiter : gI w "is_delimiter" = some (some (.ref 68)) := by kernel_rfl
theorem g_is_line_end : gI w "is_line_end" = some (some (.ref 75)) := by kernel_rfl
theorem g_digit_value : gI w "digit_value" = some (some (.ref 96)) := by kernel_rfl
theorem g_INTEGER : gI w "INTEGER" = some (some (.str ("integer" : Str) 306)) := by kernel_rfl
theorem g_REAL : gI w "REAL" = some (some (.str ("real" : Str) 308)) := by kernel_rfl
theorem g_MOST_REAL : gI w "MOST_REAL" = some (some (.int (1000000000000000000000) 313)) := by kernel_rfl
theorem g_PLACES : gI w "PLACES" = some (some (.int (6) 315)) := by kernel_rfl
theorem g_WORD_SIZE : gI w "WORD_SIZE" = some (some (.int (4294967296) 319)) := by kernel_rfl
theorem g_MOST_FIGURES : gI w "MOST_FIGURES" = some (some (.int (6) 321)) := by kernel_rfl
theorem g_divided : gI w "divided" = some (some (.ref 103)) := by kernel_rfl
theorem g_is_integer_size : gI w "is_integer_size" = some (some (.ref 110)) := by kernel_rfl
theorem g_checked_real : gI w "checked_real" = some (some (.ref 117)) := by kernel_rfl
theorem g_real_of : gI w "real_of" = some (some (.ref 124)) := by kernel_rfl
theorem g_whole_number : gI w "whole_number" = some (some (.ref 131)) := by kernel_rfl
theorem g_figures_value : gI w "figures_value" = some (some (.ref 138)) := by kernel_rfl
theorem g_read_radix : gI w "read_radix" = some (some (.ref 145)) := by kernel_rfl
theorem g_signed_word : gI w "signed_word" = some (some (.ref 152)) := by kernel_rfl
theorem g_read_exponent : gI w "read_exponent" = some (some (.ref 159)) := by kernel_rfl
theorem g_number_scaled : gI w "number_scaled" = some (some (.ref 166)) := by kernel_rfl
theorem g_split_at : gI w "split_at" = some (some (.ref 173)) := by kernel_rfl
theorem g_read_real : gI w "read_real" = some (some (.ref 180)) := by kernel_rfl
theorem g_read_number : gI w "read_number" = some (some (.ref 187)) := by kernel_rfl
theorem g_Thing : gI w "Thing" = some (some (.ref 205)) := by kernel_rfl
theorem g_Row : gI w "Row" = some (some (.ref 247)) := by kernel_rfl
theorem g_Span : gI w "Span" = some (some (.ref 268)) := by kernel_rfl
theorem g_integer : gI w "integer" = some (some (.ref 279)) := by kernel_rfl
theorem g_real : gI w "real" = some (some (.ref 286)) := by kernel_rfl
theorem g_name : gI w "name" = some (some (.ref 294)) := by kernel_rfl
theorem g_of_row : gI w "of_row" = some (some (.ref 317)) := by kernel_rfl
theorem g_things_of_span : gI w "things_of_span" = some (some (.ref 353)) := by kernel_rfl
theorem g_SCAN_END : gI w "SCAN_END" = some (some (.int (4) 675)) := by kernel_rfl
theorem g_SCAN_FORM_FEED : gI w "SCAN_FORM_FEED" = some (some (.int (12) 677)) := by kernel_rfl
theorem g_SCAN_MOST_NAME : gI w "SCAN_MOST_NAME" = some (some (.int (127) 679)) := by kernel_rfl
theorem g_SCAN_OPEN : gI w "SCAN_OPEN" = some (some (.int (40) 685)) := by kernel_rfl
theorem g_SCAN_CLOSE : gI w "SCAN_CLOSE" = some (some (.int (41) 687)) := by kernel_rfl
theorem g_SCAN_SLASH : gI w "SCAN_SLASH" = some (some (.int (47) 689)) := by kernel_rfl
theorem g_SCAN_LESS : gI w "SCAN_LESS" = some (some (.int (60) 691)) := by kernel_rfl
theorem g_SCAN_MORE : gI w "SCAN_MORE" = some (some (.int (62) 693)) := by kernel_rfl
theorem g_SCAN_ROW_OPEN : gI w "SCAN_ROW_OPEN" = some (some (.int (91) 697)) := by kernel_rfl
theorem g_SCAN_ROW_CLOSE : gI w "SCAN_ROW_CLOSE" = some (some (.int (93) 699)) := by kernel_rfl
theorem g_SCAN_PROC_OPEN : gI w "SCAN_PROC_OPEN" = some (some (.int (123) 701)) := by kernel_rfl
theorem g_SCAN_PROC_CLOSE : gI w "SCAN_PROC_CLOSE" = some (some (.int (125) 703)) := by kernel_rfl
theorem g_SCAN_PERCENT : gI w "SCAN_PERCENT" = some (some (.int (37) 709)) := by kernel_rfl
theorem g_OctetSource : gI w "OctetSource" = some (some (.ref 393)) := by kernel_rfl
theorem g_is_blank : gI w "is_blank" = some (some (.ref 404)) := by kernel_rfl
theorem g_scan_skip_feed : gI w "scan_skip_feed" = some (some (.ref 411)) := by kernel_rfl
theorem g_scan_line : gI w "scan_line" = some (some (.ref 418)) := by kernel_rfl
theorem g_scan_first : gI w "scan_first" = some (some (.ref 425)) := by kernel_rfl
theorem g_scan_word : gI w "scan_word" = some (some (.ref 432)) := by kernel_rfl
theorem g_scan_sure : gI w "scan_sure" = some (some (.ref 439)) := by kernel_rfl
theorem g_scan_name : gI w "scan_name" = some (some (.ref 488)) := by kernel_rfl
theorem g_scan_regular : gI w "scan_regular" = some (some (.ref 495)) := by kernel_rfl
theorem g_scan_at_once : gI w "scan_at_once" = some (some (.ref 502)) := by kernel_rfl
theorem g_Scanner : gI w "Scanner" = some (some (.ref 585)) := by kernel_rfl
theorem g_scan_things : gI w "scan_things" = some (some (.ref 597)) := by kernel_rfl
theorem g_ITEM_COST : gI w "ITEM_COST" = some (some (.int (8) 1031)) := by kernel_rfl
theorem g_Limits : gI w "Limits" = some (some (.ref 615)) := by kernel_rfl
theorem g_Memory : gI w "Memory" = some (some (.ref 896)) := by kernel_rfl
theorem g_memory_check_many : gI w "memory_check_many" = some (some (.ref 905)) := by kernel_rfl
theorem g__law_words : gI w "_law_words" = some (some (.ref 913)) := by kernel_rfl
theorem g__law_whites : gI w "_law_whites" = some (some (.ref 914)) := by kernel_rfl
theorem g__law_deck : gI w "_law_deck" = some (some (.ref 919)) := by kernel_rfl
theorem g__law_draw : gI w "_law_draw" = some (some (.ref 926)) := by kernel_rfl
theorem g__law_piece : gI w "_law_piece" = some (some (.ref 933)) := by kernel_rfl
theorem g__law_is_white : gI w "_law_is_white" = some (some (.ref 940)) := by kernel_rfl
theorem g__law_run : gI w "_law_run" = some (some (.ref 947)) := by kernel_rfl
theorem g__law_behind : gI w "_law_behind" = some (some (.ref 954)) := by kernel_rfl
theorem g__law_begun : gI w "_law_begun" = some (some (.ref 961)) := by kernel_rfl
theorem g__law_word : gI w "_law_word" = some (some (.ref 968)) := by kernel_rfl
theorem g__law_things : gI w "_law_things" = some (some (.ref 975)) := by kernel_rfl
theorem g__law_plain : gI w "_law_plain" = some (some (.ref 980)) := by kernel_rfl
theorem g__law_known : gI w "_law_known" = some (some (.ref 987)) := by kernel_rfl
theorem g__law_heard : gI w "_law_heard" = some (some (.ref 992)) := by kernel_rfl
theorem b_len : gI w "len" = some none ∧ bootBuiltins "len" = some (.builtin "len") ∧ ("len" : Str) ≠ "__name__" := ⟨by kernel_rfl, by kernel_rfl, by decide +kernel⟩
theorem b_isinstance : gI w "isinstance" = some none ∧ bootBuiltins "isinstance" = some (.builtin "isinstance") ∧ ("isinstance" : Str) ≠ "__name__" := ⟨by kernel_rfl, by kernel_rfl, by decide +kernel⟩
theorem b_bytes : gI w "bytes" = some none ∧ bootBuiltins "bytes" = some (.type "bytes") ∧ ("bytes" : Str) ≠ "__name__" := ⟨by kernel_rfl, by kernel_rfl, by decide +kernel⟩
theorem b_bytearray : gI w "bytearray" = some none ∧ bootBuiltins "bytearray" = some (.type "bytearray") ∧ ("bytearray" : Str) ≠ "__name__" := ⟨by kernel_rfl, by kernel_rfl, by decide +kernel⟩
theorem b_min : gI w "min" = some none ∧ bootBuiltins "min" = some (.builtin "min") ∧ ("min" : Str) ≠ "__name__" := ⟨by kernel_rfl, by kernel_rfl, by decide +kernel⟩
theorem b_abs : gI w "abs" = some none ∧ bootBuiltins "abs" = some (.builtin "abs") ∧ ("abs" : Str) ≠ "__name__" := ⟨by kernel_rfl, by kernel_rfl, by decide +kernel⟩
theorem b_enumerate : gI w "enumerate" = some none ∧ bootBuiltins "enumerate" = some (.type "enumerate") ∧ ("enumerate" : Str) ≠ "__name__" := ⟨by kernel_rfl, by kernel_rfl, by decide +kernel⟩
theorem b_range : gI w "range" = some none ∧ bootBuiltins "range" = some (.type "range") ∧ ("range" : Str) ≠ "__name__" := ⟨by kernel_rfl, by kernel_rfl, by decide +kernel⟩
theorem b_int : gI w "int" = some none ∧ bootBuiltins "int" = some (.type "int") ∧ ("int" : Str) ≠ "__name__" := ⟨by kernel_rfl, by kernel_rfl, by decide +kernel⟩
theorem b_str : gI w "str" = some none ∧ bootBuiltins "str" = some (.type "str") ∧ ("str" : Str) ≠ "__name__" := ⟨by kernel_rfl, by kernel_rfl, by decide +kernel⟩
theorem b_list : gI w "list" = some none ∧ bootBuiltins "list" = some (.type "list") ∧ ("list" : Str) ≠ "__name__" := ⟨by kernel_rfl, by kernel_rfl, by decide +kernel⟩
theorem b_chr : gI w "chr" = some none ∧ bootBuiltins "chr" = some (.builtin "chr") ∧ ("chr" : Str) ≠ "__name__" := ⟨by kernel_rfl, by kernel_rfl, by decide +kernel⟩
end
section
variable {P : CP} {w : World} {c : FnC} {bud : Nat} {Q : AV → St → Prop} {R : List UInt8 → St → Prop} {st : St} {gl ns : List Str} {i : Nat} {x : Str} {pos : Pos}
noncomputable def AV.isUn : AV → Bool
 | .un => true
 | _ => false
theorem Ev_l {av : AV} (ok : c.Ok) (hn : c.ns = ns) (hx : Nth ns i x) (hv : Nth st.vs i av) (hu : av.isUn = false) (q : Q av st) : Ev (GP P w) c bud (.Name x pos) Q R st :=
 Ev_loc i ok (hn ▸ hx) hv (fun e => by rw [e] at hu; cases hu) q
theorem Ev_l0 {x0 : Str} {ns' : List Str} {v0 : AV} {vs' : List AV} {H : List AO} (ok : c.Ok) (hn : c.ns = x0 :: ns') (q : Q v0 ⟨v0 :: vs', H⟩) (hu : v0.isUn = false := by rfl) : Ev (GP P w) c bud (.Name x0 pos) Q R ⟨v0 :: vs', H⟩ := Ev_l ok hn .z .z hu q
theorem Ev_l1 {x0 x1 : Str} {ns' : List Str} {v0 v1 : AV} {vs' : List AV} {H : List AO} (ok : c.Ok) (hn : c.ns = x0 :: x1 :: ns') (q : Q v1 ⟨v0 :: v1 :: vs', H⟩) (hu : v1.isUn = false := by rfl) : Ev (GP P w) c bud (.Name x1 pos) Q R ⟨v0 :: v1 :: vs', H⟩ := Ev_l ok hn (.s .z) (.s .z) hu q
theorem Ev_l2 {x0 x1 x2 : Str} {ns' : List Str} {v0 v1 v2 : AV} {vs' : List AV} {H : List AO} (ok : c.Ok) (hn : c.ns = x0 :: x1 :: x2 :: ns') (q : Q v2 ⟨v0 :: v1 :: v2 :: vs', H⟩) (hu : v2.isUn = false := by rfl) : Ev (GP P w) c bud (.Name x2 pos) Q R ⟨v0 :: v1 :: v2 :: vs', H⟩ := Ev_l ok hn (.s (.s .z)) (.s (.s .z)) hu q
theorem Ev_l3 {x0 x1 x2 x3 : Str} {ns' : List Str} {v0 v1 v2 v3 : AV} {vs' : List AV} {H : List AO} (ok : c.Ok) (hn : c.ns = x0 :: x1 :: x2 :: x3 :: ns') (q : Q v3 ⟨v0 :: v1 :: v2 :: v3 :: vs', H⟩) (hu : v3.isUn = false := by rfl) : Ev (GP P w) c bud (.Name x3 pos) Q R ⟨v0 :: v1 :: v2 :: v3 :: vs', H⟩ := Ev_l ok hn (.s (.s (.s .z))) (.s (.s (.s .z))) hu q
theorem Ev_l4 {x0 x1 x2 x3 x4 : Str} {ns' : List Str} {v0 v1 v2 v3 v4 : AV} {vs' : List AV} {H : List AO} (ok : c.Ok) (hn : c.ns = x0 :: x1 :: x2 :: x3 :: x4 :: ns') (q : Q v4 ⟨v0 :: v1 :: v2 :: v3 :: v4 :: vs', H⟩) (hu : v4.isUn = false := by rfl) : Ev (GP P w) c bud (.Name x4 pos) Q R ⟨v0 :: v1 :: v2 :: v3 :: v4 :: vs', H⟩ := Ev_l ok hn (.s (.s (.s (.s .z)))) (.s (.s (.s (.s .z)))) hu q
theorem Ev_l5 {x0 x1 x2 x3 x4 x5 : Str} {ns' : List Str} {v0 v1 v2 v3 v4 v5 : AV} {vs' : List AV} {H : List AO} (ok : c.Ok) (hn : c.ns = x0 :: x1 :: x2 :: x3 :: x4 :: x5 :: ns') (q : Q v5 ⟨v0 :: v1 :: v2 :: v3 :: v4 :: v5 :: vs', H⟩) (hu : v5.isUn = false := by rfl) : Ev (GP P w) c bud (.Name x5 pos) Q R ⟨v0 :: v1 :: v2 :: v3 :: v4 :: v5 :: vs', H⟩ := Ev_l ok hn (.s (.s (.s (.s (.s .z))))) (.s (.s (.s (.s (.s .z))))) hu q
theorem Ev_l6 {x0 x1 x2 x3 x4 x5 x6 : Str} {ns' : List Str} {v0 v1 v2 v3 v4 v5 v6 : AV} {vs' : List AV} {H : List AO} (ok : c.Ok) (hn : c.ns = x0 :: x1 :: x2 :: x3 :: x4 :: x5 :: x6 :: ns') (q : Q v6 ⟨v0 :: v1 :: v2 :: v3 :: v4 :: v5 :: v6 :: vs', H⟩) (hu : v6.isUn = false := by rfl) : Ev (GP P w) c bud (.Name x6 pos) Q R ⟨v0 :: v1 :: v2 :: v3 :: v4 :: v5 :: v6 :: vs', H⟩ := Ev_l ok hn (.s (.s (.s (.s (.s (.s .z)))))) (.s (.s (.s (.s (.s (.s .z)))))) hu q
theorem Ev_g {av : AV} {v : Value} (ok : c.Ok) (hg : Glb c gl) (hx : Nth gl i x) (h : gI w x = some (some v)) (hc : ∀ E F, CV E F av v) (q : Q av st) : Ev (GP P w) c bud (.Name x pos) Q R st :=
 Ev_glob ok (hg.of x (List.mem_of_getElem? hx.get)).1 (hg.of x (List.mem_of_getElem? hx.get)).2 h hc q
theorem Ev_gi {t : Tok} {k : Int} (ok : c.Ok) (hg : Glb c gl) (hx : Nth gl i x) (h : gI w x = some (some (.int k t))) (q : Q (.int k) st) : Ev (GP P w) c bud (.Name x pos) Q R st :=
 Ev_g ok hg hx h (fun _ _ => by simp [CV]) q
theorem Ev_gs {t : Tok} {k : Str} (ok : c.Ok) (hg : Glb c gl) (hx : Nth gl i x) (h : gI w x = some (some (.str k t))) (q : Q (.str k) st) : Ev (GP P w) c bud (.Name x pos) Q R st :=
 Ev_g ok hg hx h (fun _ _ => by simp [CV]) q
theorem Ev_gb {t : Tok} {k : List UInt8} (ok : c.Ok) (hg : Glb c gl) (hx : Nth gl i x) (h : gI w x = some (some (.bytes k.toArray t))) (q : Q (.bytes k) st) : Ev (GP P w) c bud (.Name x pos) Q R st :=
 Ev_g ok hg hx h (fun _ _ => by simp [CV]) q
theorem Ev_gr {a : Addr} (ok : c.Ok) (hg : Glb c gl) (hx : Nth gl i x) (h : gI w x = some (some (.ref a))) (q : Q (.val (.ref a)) st) : Ev (GP P w) c bud (.Name x pos) Q R st :=
 Ev_g ok hg hx h (fun _ _ => by simp [CV]) q
theorem Ev_gu {v : Value} (ok : c.Ok) (hg : Glb c gl) (hx : Nth gl i x) (h : gI w x = some none ∧ bootBuiltins x = some v ∧ x ≠ ("__name__" : Str)) (q : Q (.val v) st) : Ev (GP P w) c bud (.Name x pos) Q R st :=
 Ev_built ok (hg.of x (List.mem_of_getElem? hx.get)).1 (hg.of x (List.mem_of_getElem? hx.get)).2 h.1 h.2.1 h.2.2 q
inductive SetN : List AV → Nat → AV → List AV → Prop
 | z {a v : AV} {l : List AV} : SetN (a :: l) 0 v (v :: l)
 | s {a v : AV} {l l' : List AV} {i : Nat} : SetN l i v l' → SetN (a :: l) (i + 1) v (a :: l')
theorem SetN.eq {l l' : List AV} {v : AV} (h : SetN l i v l') : l.set i v = l' := by
 induction h with
 | z => rfl
 | s _ ih => rw [List.set_cons_succ, ih]
inductive kSt (i : Nat) (Q : PF) (v : AV) (st : St) : Prop
 | mk (vs' : List AV) (h : SetN st.vs i v vs') (q : Q .next ⟨vs', st.H⟩) : kSt i Q v st
noncomputable def kFin (H : List AO) (Q : QT) : PF := fun fl st => Fin H Q fl.val st.H
noncomputable def kFinE (H : List AO) (R : RT) : PR := fun b st => FinE H R b st.H
noncomputable def kV {α : Type} (vs : List AV) (Q : α → St → Prop) : α → List AO → Prop := fun v H => Q v ⟨vs, H⟩
theorem sT {Q : PF} {v : AV} {vs vs' : List AV} {H : List AO} (hs : SetN vs i v vs') (q : Q .next ⟨vs', H⟩) : kSt i Q v ⟨vs, H⟩ := ⟨vs', hs, q⟩
theorem sT1 {Q : PF} {v v0 v1 : AV} {vs' : List AV} {H : List AO} (q : Q .next ⟨v0 :: v :: vs', H⟩) : kSt 1 Q v ⟨v0 :: v1 :: vs', H⟩ := sT (.s .z) q
theorem sT2 {Q : PF} {v v0 v1 v2 : AV} {vs' : List AV} {H : List AO} (q : Q .next ⟨v0 :: v1 :: v :: vs', H⟩) : kSt 2 Q v ⟨v0 :: v1 :: v2 :: vs', H⟩ := sT (.s (.s .z)) q
theorem sT3 {Q : PF} {v v0 v1 v2 v3 : AV} {vs' : List AV} {H : List AO} (q : Q .next ⟨v0 :: v1 :: v2 :: v :: vs', H⟩) : kSt 3 Q v ⟨v0 :: v1 :: v2 :: v3 :: vs', H⟩ := sT (.s (.s (.s .z))) q
theorem sT4 {Q : PF} {v v0 v1 v2 v3 v4 : AV} {vs' : List AV} {H : List AO} (q : Q .next ⟨v0 :: v1 :: v2 :: v3 :: v :: vs', H⟩) : kSt 4 Q v ⟨v0 :: v1 :: v2 :: v3 :: v4 :: vs', H⟩ := sT (.s (.s (.s (.s .z)))) q
theorem sT5 {Q : PF} {v v0 v1 v2 v3 v4 v5 : AV} {vs' : List AV} {H : List AO} (q : Q .next ⟨v0 :: v1 :: v2 :: v3 :: v4 :: v :: vs', H⟩) : kSt 5 Q v ⟨v0 :: v1 :: v2 :: v3 :: v4 :: v5 :: vs', H⟩ := sT (.s (.s (.s (.s (.s .z))))) q
theorem sT6 {Q : PF} {v v0 v1 v2 v3 v4 v5 v6 : AV} {vs' : List AV} {H : List AO} (q : Q .next ⟨v0 :: v1 :: v2 :: v3 :: v4 :: v5 :: v :: vs', H⟩) : kSt 6 Q v ⟨v0 :: v1 :: v2 :: v3 :: v4 :: v5 :: v6 :: vs', H⟩ := sT (.s (.s (.s (.s (.s (.s .z)))))) q
theorem sSet {Q : PF} {e : Expr} {p : Pos} (ok : c.Ok) (hn : c.ns = ns) (hx : Nth ns i x) (h : Ev (GP P w) c bud e (kSt i Q) R st) (hs : eNcp e = true := by rfl) :
  Es (GP P w) c bud (.Assign [.Name x p] e pos) Q R st := Es_set i ok (hn ▸ hx) (fun r E F s rk a => wpP_mono (h r E F s rk a) (fun v s1 ⟨E1, F1, st1, av, g1, a1, c1, vs', hs, q⟩ => ⟨E1, F1, st1, av, g1, a1, c1, by show Q .next ⟨st1.vs.set i av, st1.H⟩; rw [hs.eq]; exact q⟩) fun _ _ z => z) (swap_of hs)
theorem calFn {G : Gl} {fa : Addr} {sem : Sem'} {b : Nat} {as vs : List AV} {H : List AO} (ok : c.Ok) (h : OK G fa sem) (hs : sem b as H (kV vs Q) (kV vs R)) : Cal G c (b + 1) (.val (.ref fa)) as Q R ⟨vs, H⟩ := Cal_fn ok h hs
theorem Asg_n {v : AV} {vs' : List AV} {QU : St → Prop} (ok : c.Ok) (hn : c.ns = ns) (hx : Nth ns i x) (hs : SetN st.vs i v vs') (q : QU ⟨vs', st.H⟩) : Asg (GP P w) c bud (.Name x pos) v QU R st :=
 Asg_name i ok (hn ▸ hx) (by show QU ⟨st.vs.set i v, st.H⟩; rw [hs.eq]; exact q)
theorem mkOK {fa : Addr} {sem : Sem'} {fd : FuncData} {body : List Stmt} (gl ns : List Str) (n : Nat)
  (hl : ∃ oc od osl, (GP P w).K.lookup fa = some ⟨oc, od, .func fd, osl⟩) (hb : fd.body = .stmts body) (hc : chk (GP P w).K fd (ns.take n ++ ns.drop n) gl = true) (hps : (ns.take n).length = n)
  (hbi : ∀ (vs : List Value), vs.length = n → bindArgs fd ⟨vs, []⟩ = pure ((ns.take n).zip vs))
  (hs : ∀ c : FnC, c.Ok → c.ns = ns → Glb c gl → ∀ bud args H Q R, sem bud args H Q R → ltL H.length args → ∃ vs0, (args.length = n ∧ args ++ List.replicate (ns.drop n).length .un = vs0) ∧ Ex (GP P w) c bud body (kFin H Q) (kFinE H R) ⟨vs0, H⟩) : OK (GP P w) fa sem :=
 fn_ok' gl (ns.take n) (ns.drop n) n [] [] hl hb hc (fun _ _ => CVs.nil) (by simpa using hps) (fun s vs _ hv => by rw [List.append_nil]; exact BindsTo.of_eq (hbi vs hv))
  (fun c ok hn hg bud args H Q R q hlt => by
   obtain ⟨vs0, ⟨h1, h2⟩, h3⟩ := hs c ok (by rw [hn, List.take_append_drop]) hg bud args H Q R q hlt
   rw [List.append_nil, h2]
   exact ⟨h1, h3⟩)
theorem len1 {vs : List Value} (h : vs.length = 1) : ∃ a, vs = [a] := by cases vs with | nil => cases h | cons a t => cases t with | nil => exact ⟨a, rfl⟩ | cons _ _ => cases h
theorem len2 {vs : List Value} (h : vs.length = 2) : ∃ a b, vs = [a, b] := by cases vs with | nil => cases h | cons a t => (cases t with | nil => cases h | cons b t => cases t with | nil => exact ⟨a, b, rfl⟩ | cons _ _ => cases h)
theorem len3 {vs : List Value} (h : vs.length = 3) : ∃ a b d, vs = [a, b, d] := by cases vs with | nil => cases h | cons a t => (obtain ⟨b, d, rfl⟩ := len2 (Nat.succ.inj h); exact ⟨a, b, d, rfl⟩)
theorem len4 {vs : List Value} (h : vs.length = 4) : ∃ a b d e, vs = [a, b, d, e] := by cases vs with | nil => cases h | cons a t => (obtain ⟨b, d, e, rfl⟩ := len3 (Nat.succ.inj h); exact ⟨a, b, d, e, rfl⟩)
theorem len5 {vs : List Value} (h : vs.length = 5) : ∃ a b d e f, vs = [a, b, d, e, f] := by cases vs with | nil => cases h | cons a t => (obtain ⟨b, d, e, f, rfl⟩ := len4 (Nat.succ.inj h); exact ⟨a, b, d, e, f, rfl⟩)
theorem Fin.id {H : List AO} {Q : QT} {av : AV} (l : av.lt H.length) (q : Q av H) : Fin H Q av H := ⟨H, [], by simp, Nat.le_refl _, l, fun _ _ e => .inl e, q⟩
theorem FinE.id {H : List AO} {R : RT} {b : List UInt8} (q : R b H) : FinE H R b H := ⟨H, [], by simp, Nat.le_refl _, fun _ _ e => .inl e, q⟩
end
end
section
noncomputable def clsB (K : Frag) (C : Addr) : Bool :=
 (match findIn K (.ref C) "__getattribute__" with | some (some (.builtin x)) => x == "object.__getattribute__" | _ => false) && (findIn K (.ref C) "__getattr__" == some none) && hasDictIn K C && plainOver K C &&
 (match findIn K (.ref C) "__setattr__" with | some (some (.builtin x)) => x == "object.__setattr__" | _ => false)
theorem cls_of {K : Frag} {C : Addr} (h : clsB K C = true) : ClsOK K C := by
 unfold clsB at h
 simp only [Bool.and_eq_true, beq_iff_eq] at h
 obtain ⟨⟨⟨⟨h1, h2⟩, h3⟩, h4⟩, h5⟩ := h
 refine ⟨?_, h2, h3, h4, ?_⟩
 ·split at h1
  ·rename_i e; rw [e, beq_iff_eq.mp h1]
  ·cases h1
 ·split at h5
  ·rename_i e; rw [e, beq_iff_eq.mp h5]
  ·cases h5
noncomputable def attrOk (K : Frag) (C : Addr) (x : Str) : Bool := match findIn K (.ref C) x with
 | some a => noGet K a
 | none => false
noncomputable def AV.isVal : AV → Bool
 | .val _ => true
 | _ => false
section
variable {w : World} {c : FnC} {bud : Nat} {Q : AV → St → Prop} {R : List UInt8 → St → Prop} {st : St} {gl ns : List Str} {i : Nat} {x : Str} {pos : Pos}
theorem attr_of {K : Frag} {C : Addr} (h : attrOk K C x = true) : ∃ a, findIn K (.ref C) x = some a ∧ noGet K a = true := by
 unfold attrOk at h
 split at h
 ·exact ⟨_, ‹_›, h⟩
 ·cases h
theorem Get_o {G : Gl} {k : Nat} {C : Addr} {vs : List AV} {v : AV} (co : ClsOK G.K C) (ho : st.H[k]? = some (.inst C ns vs)) (hx : Nth ns i x) (hv : Nth vs i v) (ha : attrOk G.K C x = true) (hh : v.isVal = false) (q : Q v st) : Get G c bud (.obj k) x Q R st :=
 let ⟨_, h1, h2⟩ := attr_of ha
 Get_own co ho hx hv h1 h2 (fun u e => by rw [e] at hh; cases hh) q
theorem Get_i {G : Gl} {C : Addr} {vs : List AV} {v : AV} (co : ClsOK G.K C) (hx : Nth ns i x) (hv : Nth vs i v) (ha : attrOk G.K C x = true) (hh : v.isVal = false) (q : Q v st) : Get G c bud (.ins C ns vs) x Q R st :=
 let ⟨_, h1, h2⟩ := attr_of ha
 Get_ins co hx hv h1 h2 (fun u e => by rw [e] at hh; cases hh) q
noncomputable def methAt (K : Frag) (C : Addr) (x : Str) : Option Addr := match findIn K (.ref C) x with
 | some (some (.ref f)) => if typeIn K (.ref f) == some (.type "function") then some f else none
 | _ => none
theorem meth_of {K : Frag} {C f : Addr} (h : methAt K C x = some f) : findIn K (.ref C) x = some (some (.ref f)) ∧ typeIn K (.ref f) = some (.type "function") := by
 unfold methAt at h
 split at h
 ·rename_i e
  split at h
  ·rename_i t; cases h; exact ⟨e, by simpa using t⟩
  ·cases h
 ·cases h
theorem Meth_o {G : Gl} {k : Nat} {C f : Addr} {vs : List AV} {QM : AV → List AV → St → Prop} (co : ClsOK G.K C) (ho : st.H[k]? = some (.inst C ns vs)) (hx : ns.contains x = false) (hf : methAt G.K C x = some f) (q : QM (.val (.ref f)) [.obj k] st) : Meth G c bud (.obj k) x QM R st :=
 Meth_own co ho (fun h => by rw [List.contains_iff_mem.mpr h] at hx; cases hx) (meth_of hf).1 (meth_of hf).2 q
theorem Seta_o {G : Gl} {k : Nat} {C : Addr} {vs vs' ls : List AV} {v : AV} {H : List AO} {Q : St → Prop} (co : ClsOK G.K C) (ho : H[k]? = some (.inst C ns vs)) (ht : takerIn G.K C x = some none) (hx : Nth ns i x) (nd : decide (ns.Nodup ∧ ns.length ≤ 1000) = true) (hs : SetN vs i v vs')
  (q : Q ⟨ls, H.set k (.inst C ns vs')⟩) : Seta G c bud (.obj k) x v Q R ⟨ls, H⟩ :=
 Seta_old co ht ho hx (of_decide_eq_true nd).1 (of_decide_eq_true nd).2 (by rw [hs.eq]; exact q)
theorem Seta_n {G : Gl} {k : Nat} {C : Addr} {vs ls : List AV} {v : AV} {H : List AO} {Q : St → Prop} (co : ClsOK G.K C) (ho : H[k]? = some (.inst C ns vs)) (ht : takerIn G.K C x = some none) (hx : (ns.contains x || decide (1000 < ns.length)) = false)
  (q : Q ⟨ls, H.set k (.inst C (ns ++ [x]) (vs ++ [v]))⟩) : Seta G c bud (.obj k) x v Q R ⟨ls, H⟩ := by
 simp only [Bool.or_eq_false_iff, decide_eq_false_iff_not] at hx
 exact Seta_new co ht ho (fun h => by rw [List.contains_iff_mem.mpr h] at hx; cases hx.1) (by omega) q
inductive Snoc {α : Type} : List α → α → List α → Prop
 | nil {x : α} : Snoc [] x [x]
 | cons {a x : α} {l l' : List α} : Snoc l x l' → Snoc (a :: l) x (a :: l')
theorem Snoc.eq {α : Type} {l l' : List α} {x : α} (h : Snoc l x l') : l ++ [x] = l' := by
 induction h with
 | nil => rfl
 | cons _ ih => rw [List.cons_append, ih]
theorem Seta_1 {G : Gl} {k : Nat} {C : Addr} {vs vs' ls : List AV} {ns' : List Str} {v : AV} {H : List AO} {Q : St → Prop} (co : ClsOK G.K C) (ho : H[k]? = some (.inst C ns vs)) (ht : takerIn G.K C x = some none) (hx : (ns.contains x || decide (1000 < ns.length)) = false) (s1 : Snoc ns x ns') (s2 : Snoc vs v vs')
  (q : Q ⟨ls, H.set k (.inst C ns' vs')⟩) : Seta G c bud (.obj k) x v Q R ⟨ls, H⟩ := Seta_n co ho ht hx (by rw [s1.eq, s2.eq]; exact q)
theorem Seta_2 {G : Gl} {k : Nat} {C : Addr} {vs vs' ls : List AV} {ns' : List Str} {v : AV} {H : List AO} {Q : St → Prop} (co : ClsOK G.K C) (hk : k < H.length) (ht : takerIn G.K C x = some none) (hx : (ns.contains x || decide (1000 < ns.length)) = false) (s1 : Snoc ns x ns') (s2 : Snoc vs v vs')
  (q : Q ⟨ls, H.set k (.inst C ns' vs')⟩) : Seta G c bud (.obj k) x v Q R ⟨ls, H.set k (.inst C ns vs)⟩ :=
 Seta_n co (by rw [List.getElem?_set_self hk]) ht hx (by rw [List.set_set, s1.eq, s2.eq]; exact q)
theorem cAppend {G : Gl} {k : Nat} {vs ls : List AV} {v : AV} {H : List AO} (ho : H[k]? = some (.list vs)) (hz : vs.length ≤ 100000) (q : Q .none ⟨ls, H.set k (.list (vs ++ [v]))⟩) : Cal G c bud (.val (.builtin "list.append")) [.obj k, v] Q R ⟨ls, H⟩ := Cal_append ho hz q
theorem cPop {G : Gl} {k : Nat} {vs ls : List AV} {v : AV} {H : List AO} (ho : H[k]? = some (.list (vs ++ [v]))) (hz : vs.length ≤ 100000) (q : Q v ⟨ls, H.set k (.list vs)⟩) : Cal G c bud (.val (.builtin "list.pop")) [.obj k] Q R ⟨ls, H⟩ := Cal_pop ho hz q
theorem cBarr {G : Gl} {ls : List AV} {H : List AO} (hP : G.P = decP) (q : Q (.obj H.length) ⟨ls, H ++ [.barr []]⟩) : Cal G c bud (.val (.type "bytearray")) [] Q R ⟨ls, H⟩ := Cal_barr hP q
theorem cBappend {G : Gl} {k : Nat} {b : List UInt8} {ls : List AV} {H : List AO} {y : UInt8} (hP : G.P = decP) (ho : H[k]? = some (.barr b)) (hz : b.length < 100000) (q : Q .none ⟨ls, H.set k (.barr (b ++ [y]))⟩) : Cal G c bud (.val (.builtin "bytearray.append")) [.obj k, .int y.toNat] Q R ⟨ls, H⟩ := Cal_bappend hP ho hz q
theorem vLsoE {G : Gl} {pos : Pos} {ls : List AV} {H : List AO} (q : Q (.obj H.length) ⟨ls, H ++ [.list []]⟩) : Ev G c bud (.List [] pos) Q R ⟨ls, H⟩ := vLso (aNil ⟨by decide, q⟩)
theorem vLstE {G : Gl} {pos : Pos} (q : Q (.lst []) st) : Ev G c bud (.List [] pos) Q R st := vLst (aNil ⟨by decide, q⟩)
theorem co_205 : ClsOK (Kd w.params) 205 := cls_of (by kernel_rfl)
theorem co_247 : ClsOK (Kd w.params) 247 := cls_of (by kernel_rfl)
theorem co_268 : ClsOK (Kd w.params) 268 := cls_of (by kernel_rfl)
theorem co_393 : ClsOK (Kd w.params) 393 := cls_of (by kernel_rfl)
theorem co_585 : ClsOK (Kd w.params) 585 := cls_of (by kernel_rfl)
theorem co_615 : ClsOK (Kd w.params) 615 := cls_of (by kernel_rfl)
theorem co_896 : ClsOK (Kd w.params) 896 := cls_of (by kernel_rfl)
theorem m_393_next : methAt (Kd w.params) 393 "next" = some 383 := by kernel_rfl
theorem m_393_back : methAt (Kd w.params) 393 "back" = some 390 := by kernel_rfl
theorem m_585_procedure : methAt (Kd w.params) 585 "procedure" = some 530 := by kernel_rfl
theorem m_585_slashed : methAt (Kd w.params) 585 "slashed" = some 537 := by kernel_rfl
theorem m_585_pointed : methAt (Kd w.params) 585 "pointed" = some 544 := by kernel_rfl
theorem m_585_closed : methAt (Kd w.params) 585 "closed" = some 551 := by kernel_rfl
theorem m_585_plain : methAt (Kd w.params) 585 "plain" = some 558 := by kernel_rfl
theorem m_585_token : methAt (Kd w.params) 585 "token" = some 566 := by kernel_rfl
theorem m_585_things : methAt (Kd w.params) 585 "things" = some 574 := by kernel_rfl
theorem m_585_token_in : methAt (Kd w.params) 585 "token_in" = some 582 := by kernel_rfl
theorem m_896_make_row : methAt (Kd w.params) 896 "make_row" = some 704 := by kernel_rfl
theorem m_896_take_room : methAt (Kd w.params) 896 "take_room" = some 676 := by kernel_rfl
theorem m_896_check_room : methAt (Kd w.params) 896 "check_room" = some 683 := by kernel_rfl
theorem m_896_body_level : methAt (Kd w.params) 896 "body_level" = some 669 := by kernel_rfl
noncomputable abbrev src (b : List UInt8) (n : Nat) : AO := .inst 393 ["octets", "at"] [.bytes b, .int (n : Int)]
noncomputable def oct (b : List UInt8) (n : Nat) : AV := match b[n]? with
 | some x => .int x.toNat
 | none => .none
noncomputable def nx (b : List UInt8) (n : Nat) : Nat := if n < b.length then n + 1 else n
noncomputable def feed (b : List UInt8) (n : Nat) : Nat := if b[n]? = some 10 then n + 1 else n
theorem oct_some {b : List UInt8} {n : Nat} {x : UInt8} (h : b[n]? = some x) : oct b n = .int x.toNat := by rw [oct, h]
theorem oct_none {b : List UInt8} {n : Nat} (h : b[n]? = none) : oct b n = .none := by rw [oct, h]
theorem nx_some {b : List UInt8} {n : Nat} {x : UInt8} (h : b[n]? = some x) : nx b n = n + 1 := by rw [nx, if_pos (List.getElem?_eq_some_iff.mp h).1]
theorem nx_none {b : List UInt8} {n : Nat} (h : b[n]? = none) : nx b n = n := by rw [nx, if_neg]; rw [List.getElem?_eq_none_iff] at h; omega
theorem noT {b : Bool} {p : Prop} (h : b = false) (e : b = true) : p := by rw [h] at e; cases e
theorem u8i {x y : UInt8} (h : (x.toNat : Int) = (y.toNat : Int)) : x = y := UInt8.toNat_inj.mp (Int.ofNat.inj h)
theorem set_self {H : List AO} {k : Nat} {o : AO} (h : H[k]? = some o) : H.set k o = H := by
 apply List.ext_getElem?
 intro i
 rw [List.getElem?_set]
 by_cases e : k = i
 ·subst e
  rw [if_pos rfl, if_pos (List.getElem?_eq_some_iff.mp h).1, h]
 ·rw [if_neg e]
theorem get_set {H : List AO} {k : Nat} {o : AO} (h : k < H.length) : (H.set k o)[k]? = some o := by simp [h]
theorem get_set' {H : List AO} {k : Nat} {o o' : AO} (h : H[k]? = some o') : (H.set k o)[k]? = some o := get_set (List.getElem?_eq_some_iff.mp h).1
theorem get_ne {H : List AO} {j k : Nat} {o o' : AO} (e : j ≠ k) (h : H[k]? = some o') : (H.set j o)[k]? = some o' := by rw [List.getElem?_set_ne e]; exact h
theorem get_app {H X : List AO} {k : Nat} {o : AO} (h : H[k]? = some o) : (H ++ X)[k]? = some o := by
 rw [List.getElem?_append_left (List.getElem?_eq_some_iff.mp h).1]; exact h
theorem get_end {H : List AO} {o : AO} : (H ++ [o])[H.length]? = some o := by simp
theorem Fin.set {H : List AO} {Q : QT} {av : AV} {k : Nat} {o : AO} (l : av.lt H.length) (ho : o.lt H.length) (q : Q av (H.set k o)) : Fin H Q av (H.set k o) := by
 refine ⟨H.set k o, [], (List.append_nil _).symm, by simp, by rwa [List.length_set], fun i o' e => ?_, q⟩
 rw [List.getElem?_set] at e
 split at e
 ·split at e
  ·cases e; exact .inr (by rwa [List.length_set])
  ·cases e
 ·exact .inl e
theorem Fin.setx {H X : List AO} {Q : QT} {av : AV} {k : Nat} {o : AO} (l : av.lt H.length) (ho : o.lt H.length) (q : Q av (H.set k o)) : Fin H Q av (H.set k o ++ X) := by
 obtain ⟨H1, Y, e, a1, a2, a3, a4⟩ := Fin.set (k := k) l ho q
 exact ⟨H1, Y ++ X, by rw [e, List.append_assoc], a1, a2, a3, a4⟩
theorem Fin.ext {H : List AO} {Q : QT} {av : AV} {k : Nat} {o o' : AO} (l : av.lt H.length) (ho : o.lt (H.length + 1)) (ho' : o'.lt (H.length + 1)) (q : Q av (H.set k o ++ [o'])) : Fin H Q av (H.set k o ++ [o']) := by
 have el : (H.set k o ++ [o']).length = H.length + 1 := by rw [List.length_append, List.length_set]; rfl
 refine ⟨_, [], (List.append_nil _).symm, by omega, AV.lt_mono (by omega) _ l, fun i x e => ?_, q⟩
 rw [el]
 by_cases hi : i < (H.set k o).length
 ·rw [List.getElem?_append_left hi, List.getElem?_set] at e
  split at e
  ·split at e
   ·cases e; exact .inr ho
   ·cases e
  ·exact .inl e
 ·rw [List.getElem?_append_right (Nat.le_of_not_lt hi)] at e
  cases z : i - (H.set k o).length with
  | zero => rw [z] at e; cases e; exact .inr ho'
  | succ n => rw [z] at e; simp at e
theorem lt_of_get {H : List AO} {k : Nat} {o : AO} (h : H[k]? = some o) : k < H.length := (List.getElem?_eq_some_iff.mp h).1
end
end
section
theorem wpP_raise_made {P : CP} {M : Model} {A : Around} {E : Value → Shared → Prop} {s : Shared} {env : Env} {C D : Addr} {nm q : Str} {N : Addr} {bs : List Value} {sn : List Str} {sub : List Value} {ab : Bool} {col : Option Bool} {dd : Option Addr} {k0 k1 k2 k3 k5 : Option Value}
  {x : Sem Value} {Q : Flow → Shared → Prop} (hh : A.handled = none)
  (h : wpP P M A x (fun v s₁ => ∃ e d t0, v = .ref e ∧ s₁.heap.get? C = some (excClassObj nm q C N bs (bmD D) true sn sub ab col dd k0 k1 k2 k3 k5 "Exception.__new__") ∧
   s₁.heap.get? e = some (excO C (some d) #[.ref t0, .none, .none, .none, .bool false, .none]) ∧ E (.ref e) s₁) E s) : wpP P M A (raiseStmt env (some x) none) Q E s := by
 have hcB : (Value.ref C :: bmD D).contains (.type "BaseException") = true := by rw [List.contains_cons, bmD_has (b := true) (by decide +kernel), Bool.or_true]
 unfold raiseStmt
 refine wpP_bind (wpP_mono h (fun v s₁ h₁ => .of ?_) fun _ _ x => x)
 obtain ⟨e, d, t0, rfl, hC, he, hE⟩ := h₁
 obtain ⟨hp, g, dr, tk, os⟩ := s₁
 repeat (first | with_reducible refine wpAny_loadPart_at he ?_ | with_reducible refine wpAny_loadPart_at hC ?_ | (with_reducible refine wpAny_isSubtype_exc hC ?_; rw [hcB]) | wp_step)
 exact wpAny_raiseNew_none hh hE
section
variable {P : CP} {w : World} {c : FnC} {bud : Nat} {R : List UInt8 → St → Prop} {st : St} {gl : List Str} {i : Nat} {pos : Pos}
noncomputable def k52 : Obj := excClassObj "PsError" "PsError" 52 51 [.ref 39] (bmD 39) true [] [] false none none (some (.ref 43)) none (some (.str "PsError" 246)) (some (.str "PsError" 254)) (some (.bool true)) "Exception.__new__"
theorem look52 : (Kd w.params).lookup 52 = some k52 := by kernel_rfl
noncomputable def kRs (R : PR) : PV := fun v st => ∃ b, v = .bytes b ∧ R b st
theorem rsB {b : List UInt8} (q : R b st) : kRs R (.bytes b) st := ⟨b, rfl, q⟩
theorem fnAt_of {K : Frag} {fa : Addr} {fd : FuncData} {body : List Stmt} (gl ns : List Str) (hl : ∃ oc od osl, K.lookup fa = some ⟨oc, od, .func fd, osl⟩) (hb : fd.body = .stmts body) (hc : chk K fd ns gl = true) :
  FnC.Ok ⟨fd.qualname, fd.scope, ns, fa, fd.code⟩ ∧ FnAt K ⟨fd.qualname, fd.scope, ns, fa, fd.code⟩ fd body := by
 unfold chk at hc
 simp only [Bool.and_eq_true, beq_iff_eq, Bool.not_eq_true', List.all_eq_true, decide_eq_true_eq, bne_iff_ne, List.isEmpty_iff] at hc
 obtain ⟨⟨⟨⟨⟨⟨⟨⟨⟨⟨h1, h2⟩, h3⟩, h4⟩, h5⟩, h6⟩, h7⟩, h8⟩, h9⟩, h10⟩, h11⟩ := hc
 refine ⟨⟨h4, h5, h6, h7, h8, h9⟩, ⟨hl, hb, fun L => ?_, rfl, h11⟩⟩
 unfold callEnv newEnv FnC.env envX
 rw [h1, h2, h3]
theorem at36 : ∃ fd p1 p2 p3 pos, FnC.Ok ⟨fd.qualname, fd.scope, ["self", "told"], 36, fd.code⟩ ∧ FnAt (Kd w.params) ⟨fd.qualname, fd.scope, ["self", "told"], 36, fd.code⟩ fd [.Assign [.Attribute (.Name "self" p1) "told" p2] (.Name "told" p3) pos] ∧
  ∀ (s : Shared) x v, Sta (Kd w.params) s.heap → BindsTo s fd ⟨[x, v], []⟩ [(("self" : Str), x), ("told", v)] := by
 obtain ⟨a, b⟩ := fnAt_of (K := Kd w.params) (fa := 36) [] ["self", "told"] ⟨_, _, _, rfl⟩ rfl (by kernel_rfl)
 exact ⟨_, _, _, _, _, a, b, fun s x v S => .of_defaults rfl (S.k 29 ⟨.type "tuple", none, .seq #[.none] 0, #[]⟩ (by kernel_rfl)) rfl rfl rfl⟩
theorem sRaise {Q : PF} {e : Expr} {np cpos : Pos} (ok : c.Ok) (hg : Glb c gl) (hx : Nth gl i "PsError") (h : Ev (GP P w) c bud e (kRs R) R st) (he : eNst e = true := by rfl) :
  Es (GP P w) c bud (.Raise (some (.Call (.Name "PsError" np) [e] [] cpos)) none pos) Q R st := fun r E F s rk a => by
 rw [arm_exec_Raise]
 refine wpP_bind (wpP_standAt (wpP_raise_made (C := 52) (D := 39) rk.hd (wpP_bind (wpP_mono (Q := fun v s₁ => ∃ e d t0, v = .ref e ∧ s₁.heap.get? 52 = some k52 ∧ s₁.heap.get? e = some (excO 52 (some d) #[.ref t0, .none, .none, .none, .bool false, .none]) ∧ Err (GP P w) c r E F R (.ref e) s₁)
  (wpP_Call (he := rfl) ?_) (fun v s₃ h₃ => wpP_bind (wpP_standAt (wpP_pure h₃))) fun _ _ x => x))))
 refine wpP_mono ((Ev_gr (P := P) (w := w) (bud := bud) (R := R) (pos := np) ok hg hx g_PsError (Q := fun f st1 => f = .val (.ref 52) ∧ st1 = st) ⟨rfl, rfl⟩) r E F s rk a) (fun cf s1 ⟨E1, F1, st1, av, g1, a1, c1, e1, e2⟩ => ?_) fun _ _ z => z
 subst e1 e2
 simp only [CV] at c1
 subst c1
 have items : wpP P (model pw w) (r.A c) (spliced (backTo cpos (starEach [e] (c.env r.L)))) (fun vs s' => ∃ b t E2 F2 st2, vs = [.bytes (List.toArray b) t] ∧ Grow E1 F1 E2 F2 ∧ Abs (Kd w.params) c r E2 F2 st2 s' ∧ R b st2) (Err (GP P w) c r E1 F1 R) s1 :=
  wpP_items_cons (he := star_of he _) (wpP_mono (h r E1 F1 s1 rk a1) (fun cv s2 ⟨E2, F2, st2, v, g2, a2, c2, b, e2, q2⟩ => wpP_items_nil (by
   subst e2
   simp only [CV] at c2
   obtain ⟨t, rfl⟩ := c2
   exact ⟨b, t, E2, F2, st2, rfl, g2, a2, q2⟩)) fun _ _ z => z)
 rw [star_of he] at items ⊢
 refine callWith_plainP rfl (evalArgs_plainP (wpP_mono items (fun vs s2 p => ?_) fun _ _ => Err.back g1))
 obtain ⟨b, t, E2, F2, st2, rfl, g2, a2, q2⟩ := p
 have S := a2.sta rk
 refine ⟨keep_fn (G := GP P w) (fa := 52) (by kernel_rfl) E F (.ref 52) (by simp [CV]) _ S.k, .of (wpAny_call ?_)⟩
 obtain ⟨hp, g, d, tk, os⟩ := s2
 have hC := S.k _ _ look52
 refine exc_call (K := Kd w.params) (D := 39) (fI := 36) S.k hC (by kernel_rfl) (by kernel_rfl) ?_
 have up : ∀ bb o, hp.get? bb = some o → ((hp.push { cls := .type "tuple", data := .seq #[.bytes b.toArray t] }).push (excO 52 none #[.ref hp.objs.size, .none, .none, .none, .bool false, .none])).get? bb = some o := fun bb o e => Heap.get?_push_of_some _ (Heap.get?_push_of_some _ e)
 obtain ⟨fd, p1, p2, p3, pp, ok36, at36, bd36⟩ := at36 (w := w)
 have hroom : ((r.A c).under (.builtin "type.__call__" ⟨[.ref 52, .bytes b.toArray t], []⟩)).depth < recursionLimit := by
  rw [(under_tc (r.A c) 52 [.bytes b.toArray t]).2.2.1]
  have := rk.dep
  show r.A₀.depth + 1 + 1 < 1000
  omega
 have he2 : ((hp.push { cls := .type "tuple", data := .seq #[.bytes b.toArray t] }).push (excO 52 none #[.ref hp.objs.size, .none, .none, .none, .bool false, .none])).get? (hp.objs.size + 1) = some (excO 52 none #[.ref hp.objs.size, .none, .none, .none, .bool false, .none]) := by heap_get
 refine init_told (cd := ⟨"PsError", [.ref 39], .ref 52 :: bmD 39, 51, "PsError", true, [], [], false, none, false⟩) ok36 rfl at36 hroom (S.keeps up) (bd36 _ _ _ (S.keeps up)) he2 (by kernel_rfl) (by kernel_rfl) rfl rfl (by kernel_rfl) fun h' tk' d' m z1 z2 z3 z4 z5 z6 => ?_
 have es : ((hp.push { cls := .type "tuple", data := .seq #[.bytes b.toArray t] }).push (excO 52 none #[.ref hp.objs.size, .none, .none, .none, .bool false, .none])).objs.size = hp.objs.size + 1 + 1 := by rw [Heap.size_push, Heap.size_push]
 have z1' : hp.objs.size + 1 + 1 ≤ d' := es ▸ z1
 have z6' : hp.objs.size + 1 + 1 ≤ h'.objs.size := es ▸ z6
 have kb : KB [] hp h' := ⟨by omega, fun bb o _ e => z5 _ _ (Nat.ne_of_lt (Nat.lt_succ_of_lt (Heap.lt_size e))) (up _ _ e)⟩
 have a3 := a2.step0 (tk := tk') kb
 have hlt : ∀ a, Prot r E2 F2 a → a < hp.objs.size := fun a q => a2.prot_lt q
 refine ⟨rfl, _, d', _, rfl, kb.2 _ _ (by simp) hC, z2, E2, F2, st2, b, _, rfl, g1.trans g2, a3, ⟨d', _, _, t, m, z2, ⟨by simp, rfl⟩, z3, z4, fun q => ?_, fun q => ?_, .inl rfl⟩, q2⟩
 ·exact absurd (Nat.lt_trans (Nat.lt_succ_self _) (hlt _ q)) (Nat.lt_irrefl _)
 ·exact absurd (Nat.lt_of_lt_of_le (hlt _ q) (Nat.le_trans (Nat.le_add_right _ 2) z1')) (Nat.lt_irrefl _)
end
end
section
section
variable {G : Gl} {c : FnC} {bud : Nat} {Q : AV → St → Prop} {R : List UInt8 → St → Prop} {st : St}
noncomputable def kNew (st : St) (C : Addr) (ns : List Str) (vs : List AV) : QT := fun v H' => v = .none ∧ AV.obj st.H.length = .obj st.H.length ∧ St.mk st.vs H' = ⟨st.vs, st.H ++ [.inst C ns vs]⟩
theorem newOf {C : Addr} {ns : List Str} {vs : List AV} {H' : List AO} (e : H' = st.H ++ [.inst C ns vs]) : kNew st C ns vs .none H' := ⟨rfl, rfl, by rw [e]⟩
theorem Cal_newF0 {C f : Addr} {sem : Sem'} {b : Nat} {as : List AV} (ns : List Str) (vs : List AV) (ok : c.Ok) (mk : MakesOK G.K C f) (h : OK G.any f sem)
  (hs : sem b (.obj st.H.length :: as) (st.H ++ [.inst C [] []]) (kNew st C ns vs) (kV st.vs R)) (q : Q (.ins C ns vs) ⟨st.vs, st.H ++ [.gone]⟩) : Cal G c (b + 2) (.val (.ref C)) as Q R st := fun r E F s cf cs rk x hf hc => by
 refine wpP_mono (Cal_new (G := G) (Q := fun av st1 => av = .obj st.H.length ∧ st1 = ⟨st.vs, st.H ++ [.inst C ns vs]⟩) (R := R) ok mk h hs r E F s cf cs rk x hf hc) (fun v s1 ⟨E1, F1, st1, av, g1, a1, c1, e1, e2⟩ => ?_) fun _ _ z => z
 subst e1 e2
 have hH : (st.H ++ [AO.inst C ns vs])[st.H.length]? = some (.inst C ns vs) := get_end
 simp only [CV] at c1
 obtain ⟨a, rr, he, rfl⟩ := c1
 obtain ⟨as', e3, d, d2, es, n, m, e4, h1, h5, h6, hz, h3, h4⟩ := a1.hp.at hH
 rw [he] at e3; cases e3; cases e4
 have a2 := a1.ice (X := [(a, instObj C d2), (d2, dictOf es n)]) he hH (fun p hp => by
  rcases hp with _ | ⟨_, _ | ⟨_, hp⟩⟩
  ·exact ⟨.head _, h1⟩
  ·exact ⟨.tail _ (.head _), h5⟩
  ·cases hp) (by intro e; cases e)
 have e5 : (st.H ++ [AO.inst C ns vs]).set st.H.length .gone = st.H ++ [.gone] := by simp
 dsimp only at a2
 rw [e5] at a2
 have g2 := Grow.froz E1 F1 [(a, instObj C d2), (d2, dictOf es n)]
 refine ⟨E1, _, _, _, g1.trans g2, a2, ?_, q⟩
 simp only [CV]
 exact ⟨a, d2, _, m, rfl, .head _, .tail _ (.head _), h6, h3, CVf.grow g2 _ _ _ h4⟩
theorem Cal_newF {C f : Addr} {sem : Sem'} {b : Nat} {as ls : List AV} {H : List AO} (ns : List Str) (vs : List AV) (ok : c.Ok) (mk : MakesOK G.K C f) (h : OK G.any f sem)
  (hs : sem b (.obj H.length :: as) (H ++ [.inst C [] []]) (kNew ⟨ls, H⟩ C ns vs) (kV ls R)) (q : Q (.ins C ns vs) ⟨ls, H ++ [.gone]⟩) : Cal G c (b + 2) (.val (.ref C)) as Q R ⟨ls, H⟩ := Cal_newF0 ns vs ok mk h hs q
end
section
variable {w : World}
theorem mk_205 : MakesOK (Kd w.params) 205 202 := ⟨by kernel_rfl, by kernel_rfl, by kernel_rfl⟩
theorem mk_247 : MakesOK (Kd w.params) 247 244 := ⟨by kernel_rfl, by kernel_rfl, by kernel_rfl⟩
theorem mk_268 : MakesOK (Kd w.params) 268 265 := ⟨by kernel_rfl, by kernel_rfl, by kernel_rfl⟩
theorem mk_393 : MakesOK (Kd w.params) 393 368 := ⟨by kernel_rfl, by kernel_rfl, by kernel_rfl⟩
theorem mk_585 : MakesOK (Kd w.params) 585 516 := ⟨by kernel_rfl, by kernel_rfl, by kernel_rfl⟩
theorem mk_615 : MakesOK (Kd w.params) 615 612 := ⟨by kernel_rfl, by kernel_rfl, by kernel_rfl⟩
theorem mk_896 : MakesOK (Kd w.params) 896 654 := ⟨by kernel_rfl, by kernel_rfl, by kernel_rfl⟩
end
theorem mkOKd {P : CP} {w : World} {fa : Addr} {sem : Sem'} {fd : FuncData} {body : List Stmt} {T : Addr} {its : List Value} {m : Nat} (gl ns : List Str) (nd n : Nat) (das : List AV) (dvs : List Value)
  (hl : ∃ oc od osl, (GP P w).K.lookup fa = some ⟨oc, od, .func fd, osl⟩) (hb : fd.body = .stmts body) (hc : chk (GP P w).K fd (ns.take nd ++ ns.drop nd) gl = true) (hda : ∀ E F, CVs E F das dvs) (hps : (ns.take nd).length = n + dvs.length)
  (hT : (Kd w.params).lookup T = some ⟨.type "tuple", none, .seq its.toArray m, #[]⟩) (hfd : fd.defaults = .ref T)
  (hbi : ∀ (vs : List Value), vs.length = n → ∃ k, bindArgs fd ⟨vs, []⟩ = seqItems? fd.defaults >>= k ∧ k (some its.toArray) = pure ((ns.take nd).zip (vs ++ dvs)))
  (hs : ∀ c : FnC, c.Ok → c.ns = ns → Glb c gl → ∀ bud args H Q R, sem bud args H Q R → ltL H.length args → ∃ vs0, (args.length = n ∧ args ++ das ++ List.replicate (ns.drop nd).length .un = vs0) ∧ Ex (GP P w) c bud body (kFin H Q) (kFinE H R) ⟨vs0, H⟩) : OK (GP P w) fa sem :=
 fn_ok' gl (ns.take nd) (ns.drop nd) n das dvs hl hb hc hda hps (fun s vs S hv => by
   obtain ⟨k, h1, h2⟩ := hbi vs hv
   exact .of_defaults hfd (S.k _ _ hT) rfl h1 h2)
  (fun c ok hn hg bud args H Q R q hlt => by
   obtain ⟨vs0, ⟨h1, h2⟩, h3⟩ := hs c ok (by rw [hn, List.take_append_drop]) hg bud args H Q R q hlt
   rw [h2]
   exact ⟨h1, h3⟩)
end
section
section
variable {G : Gl} {c : FnC} {bud : Nat} {Q : AV → St → Prop} {R : List UInt8 → St → Prop} {st : St}
structure PropAt (K : Frag) (C : Addr) (x : Str) (f : Addr) : Prop where
 has : (clsIn K C).isSome = true
 at_ : ∃ (p : Addr) (rest : List Value), findIn K (.ref C) x = some (some (.ref p)) ∧ specialIn K (.ref p) "__get__" = some (some (.builtin "property.__get__")) ∧ takesIn K (.ref p) = some true ∧ recIn K p "property" = some (.ref f :: rest)
noncomputable def kPr (st : St) (Q : PV) : QT := fun v H' => v.isVal = false ∧ Q v ⟨st.vs, H'⟩
theorem prOf {v : AV} {H' : List AO} (h : v.isVal = false) (q : Q v ⟨st.vs, H'⟩) : kPr st Q v H' := ⟨h, q⟩
theorem Get_prop {k : Nat} {C f : Addr} {x : Str} {ns : List Str} {vs : List AV} {sem : Sem'} {b : Nat} (ok : c.Ok) (co : ClsOK G.K C) (ho : st.H[k]? = some (.inst C ns vs)) (pa : PropAt G.K C x f) (h : OK G.any f sem)
  (hs : sem b [.obj k] st.H (kPr st Q) (fun _ _ => False)) : Get G c (b + 1) (.obj k) x Q R st := fun r E F s cv ex rk a hc => by
 have hc0 := hc
 simp only [CV] at hc
 obtain ⟨bb, rr, he, rfl⟩ := hc
 obtain ⟨as, e2, d, d2, es, n, m, e3, h1, h5, h6, hz, h3, h4⟩ := a.hp.at ho
 rw [he] at e2; cases e2; cases e3
 obtain ⟨p, rest, p1, p2, p3, p4⟩ := pa.at_
 have X := (a.sta rk).k
 have a1 := a.toks (tk := s.toks + 1)
 refine .of (get_bind X (inst_at h1 h5) co.ga (findObj_data pa.has p1 p2 p3) co.gt (wpAny_call (prop_get (s := { s with toks := s.toks + 1 }) X p4 ?_)))
 refine codeAny_mono (codeP.any (h (r.A c).in1 (c.env r.L :: r.outer) E F st.H [.obj k] [.ref bb] { s with toks := s.toks + 1 } b _ _ (Around.frames_deeper rk.fr) rk.hd ?_ ?_ a1.hp (a1.toSta rk) (a1.toFF rk ok) (CVs.one hc0) hs)) fun res s' hr => ?_
 ·have := rk.dep
  show r.A₀.depth + 1 + b ≤ 900
  omega
 ·have := rk.un
  show r.A₀.units + 3 + 1 + 8 * b ≤ 9000
  omega
 ·rcases res with e | (v | _ | _ | _)
  ·obtain ⟨_, _, _, _, _, _, _, _, _, q⟩ := hr
   exact q.elim
  ·exact hr.elim
  ·exact hr.elim
  ·exact hr.elim
  ·rename_i v
   obtain ⟨E', F', H', av, g, af, hv, q0, q⟩ := hr
   show wpAny _ _ (handedOut v) _ _ _
   rw [handedOut_of (handed_cv hv fun u e => by rw [e] at q0; cases q0)]
   exact wpAny_pure ⟨E', F', _, av, g, a1.after g af, hv, q⟩
end
section
variable {w : World}
theorem pr_level : PropAt (Kd w.params) 896 "level" 661 := ⟨by kernel_rfl, 662, [.none, .none, .none, .str "level" 1169, .bool false], by kernel_rfl, by kernel_rfl, by kernel_rfl, by kernel_rfl⟩
theorem pr_place : PropAt (Kd w.params) 393 "place" 375 := ⟨by kernel_rfl, 376, [.none, .none, .none, .str "place" 740, .bool false], by kernel_rfl, by kernel_rfl, by kernel_rfl, by kernel_rfl⟩
end
end
section
section
variable (G : Gl) (c : FnC) (bud : Nat)
noncomputable def Seti (o i v : AV) (Q : PU) (R : PR) (st : St) : Prop :=
 ∀ r E F s co ci cv, RtOk G.K r bud → Abs G.K c r E F st s → CV E F o co → CV E F i ci → CV E F v cv → wpP G.P (model G.prog G.w) (r.A c) (setItem co ci cv) (PostU G c r E F Q) (Err G c r E F R) s
noncomputable def kSi2 (v o : AV) (Q : PF) (R : PR) : PV := fun i st => Seti G c bud o i v (kNx Q) R st
noncomputable def kSi1 (i : Expr) (v : AV) (Q : PF) (R : PR) : PV := fun o st => Ev G c bud i (kSi2 G c bud v o Q R) R st
noncomputable def kSi (o i : Expr) (Q : PF) (R : PR) : PV := fun v st => Ev G c bud o (kSi1 G c bud i v Q R) R st
end
section
variable {G : Gl} {c : FnC} {bud : Nat} {R : PR} {st : St}
theorem sSeti {Q : PF} {o i e : Expr} {p pos : Pos} (h : Ev G c bud e (kSi G c bud o i Q R) R st) (hs : eNcp e = true := by rfl) : Es G c bud (.Assign [.Subscript o i p] e pos) Q R st := fun r E F s rk a =>
 wpP_Assign_Subscript (hs := swap_of hs _) (wpP_mono (h r E F s rk a) (fun cv s1 ⟨E1, F1, st1, v, g1, a1, c1, q1⟩ => wpP_mono (q1 r E1 F1 s1 rk a1) (fun co s2 ⟨E2, F2, st2, ov, g2, a2, c2, q2⟩ =>
  wpP_mono (q2 r E2 F2 s2 rk a2) (fun ci s3 ⟨E3, F3, st3, iv, g3, a3, c3, q3⟩ => wpP_mono (q3 r E3 F3 s3 co ci cv rk a3 (CV.grow g3 _ _ c2) c3 (CV.grow (g2.trans g3) _ _ c1)) (fun _ s4 ⟨E4, F4, st4, g4, a4, q4⟩ =>
   ⟨E4, F4, st4, .next, ((g1.trans g2).trans g3).trans g4, a4, rfl, q4⟩) fun _ _ => Err.back ((g1.trans g2).trans g3)) fun _ _ => Err.back (g1.trans g2)) fun _ _ => Err.back g1) fun _ _ z => z)
theorem Ev_dict0 {Q : PV} {pos : Pos} {ls : List AV} {H : List AO} (q : Q (.obj H.length) ⟨ls, H ++ [.idict 0]⟩) : Ev G c bud (.Dict [] [] pos) Q R ⟨ls, H⟩ := fun r E F s rk a => by
 refine .of (wpAny_Dict_empty ?_)
 have a1 := a.new (tk := s.toks) (as := [s.heap.objs.size]) (o := .idict 0) (KB.push [] s.heap { cls := .type "dict", data := .dict #[] }) (by simp) (fun x hx => by
  rw [List.mem_singleton] at hx; subst hx; rw [Heap.size_push]; exact ⟨Nat.le_refl _, Nat.lt_succ_self _⟩)
  ⟨_, _, rfl, Heap.get?_push_size _ rfl, rfl, #[], _, fun _ => none, rfl, fun e he => absurd he (by simp), fun _ => rfl, Nat.le_refl _⟩
 refine ⟨_, F, _, _, Grow.own E _ F, a1, ?_, q⟩
 simp only [CV]
 exact ⟨s.heap.objs.size, [], by rw [← a.hp.len]; simp, rfl⟩
theorem Seti_id {Q : PU} {k n : Nat} {i : Int} {v : AV} {ls : List AV} {H : List AO} (ho : H[k]? = some (.idict n)) (hz : n ≤ 1000) (q : Q ⟨ls, H.set k (.idict (n + 1))⟩) : Seti G c bud (.obj k) (.int i) v Q R ⟨ls, H⟩ := fun r E F s co ci cv rk a h1 h2 h3 => by
 simp only [CV] at h1 h2
 obtain ⟨b, rr, he, rfl⟩ := h1
 obtain ⟨t, rfl⟩ := h2
 obtain ⟨as, e2, b2, o, e3, hg, hc, es, ep, f, hd, hk, hf, hl⟩ := a.hp.at ho
 rw [he] at e2; cases e2; cases e3
 refine .of (wpAny_setItem_intMap_le (n := n) ⟨o, es, ep, hg, hc, hd, hk, hf⟩ (fun o' es' ep' ho' hd' => by rw [hg] at ho'; cases ho'; rw [hd] at hd'; cases hd'; exact hl) (Nat.le_trans hz (by rw [sizeLine_eq]; omega)) fun h' m' l' sb => ?_)
 obtain ⟨o', es', ep', hg', hc', hd', hk', hf'⟩ := m'
 exact ⟨E, F, _, Grow.refl _ _, a.set (tk := s.toks + 1) (o' := .idict (n + 1)) he (by rw [ho]; simp) (KB.same sb) ⟨b, o', rfl, hg', hc', es', ep', _, hd', hk', hf', l' _ _ _ hg' hd'⟩, q⟩
end
end
section
section
variable {G : Gl} {c : FnC} {bud : Nat} {Q : PV} {R : PR} {st : St} {r : Rt} {E : Own} {F : Led} {s : Shared}
noncomputable def kIce (Q : PV) : PV := fun v st => ∃ k vs, v = .obj k ∧ st.H[k]? = some (.list vs) ∧ Q (.lst vs) ⟨st.vs, st.H.set k .gone⟩
theorem iceOf {k : Nat} {vs ls : List AV} {H : List AO} (ho : H[k]? = some (.list vs)) (q : Q (.lst vs) ⟨ls, H.set k .gone⟩) : kIce Q (.obj k) ⟨ls, H⟩ := ⟨k, vs, rfl, ho, q⟩
theorem Ev_ice {e : Expr} (h : Ev G c bud e (kIce Q) R st) : Ev G c bud e Q R st := fun r E F s rk a =>
 wpP_mono (h r E F s rk a) (fun v s1 ⟨E1, F1, st1, av, g1, a1, c1, k, vs, e1, e2, q⟩ => by
  subst e1
  obtain ⟨l, n, cs, rfl, he, hl, hcs⟩ := own_list a1 e2 c1
  have a2 := a1.ice (X := [(l, listOf cs.toArray n)]) he e2 (fun p hp => by
   rcases hp with _ | ⟨_, hp⟩
   ·exact ⟨.head _, hl⟩
   ·cases hp) (by intro e; cases e)
  have g2 := Grow.froz E1 F1 [(l, listOf cs.toArray n)]
  refine ⟨E1, _, _, _, g1.trans g2, a2, ?_, q⟩
  simp only [CV]
  exact ⟨l, cs, _, rfl, .head _, ⟨rfl, n, rfl⟩, CVs.grow g2 _ _ hcs⟩) fun _ _ z => z
theorem pairs_any {prog prog' : Program} {w w' : World} {es : List DictEntry} {kvs : List (Str × Value)} (h : Pairs (strKind prog w) es kvs) : Pairs (strKind prog' w') es kvs := by
 induction h with
 | nil => exact .nil
 | cons h1 h2 _ ih => exact .cons h1 h2 ih
theorem own_sd {k : Nat} {ns : List Str} {vs : List AV} {co : Value} (a : Abs G.K c r E F st s) (ho : st.H[k]? = some (.sdict (hashStr G.w) ns vs)) (h : CV E F (.obj k) co) :
  ∃ l kvs, co = .ref l ∧ E[k]? = some [l] ∧ s.heap.DictOf (strKind G.prog G.w) l kvs ∧ kvs.map (·.1) = ns ∧ CVs E F vs (kvs.map (·.2)) := by
 simp only [CV] at h
 obtain ⟨b, rr, he, rfl⟩ := h
 obtain ⟨as, e2, l, o, kvs, e3, h1, ⟨es, ep, x1, x2, x3, x4, x5⟩, h3, h4⟩ := a.hp.at ho
 rw [he] at e2; cases e2; cases e3
 exact ⟨b, kvs, rfl, he, ⟨o, es, ep, h1, x1, x2, x3, x4 _ _, x5⟩, h3, h4⟩
theorem rep_sd {E : Own} {F : Led} {h : Heap} {l : Addr} {kvs : List (Str × Value)} {ns : List Str} {vs : List AV} (hd : h.DictOf (strKind G.prog G.w) l kvs) (h3 : kvs.map (·.1) = ns) (h4 : CVs E F vs (kvs.map (·.2))) : RepO E F h (.sdict (hashStr G.w) ns vs) [l] := by
 obtain ⟨o, es, ep, h1, x1, x2, x3, x4, x5⟩ := hd
 exact ⟨l, o, kvs, rfl, h1, ⟨es, ep, x1, x2, x3, fun _ _ => pairs_any x4, x5⟩, h3, h4⟩
theorem valAt {ns : List Str} {vs : List AV} {kvs : List (Str × Value)} {i : Nat} {x : Str} {v : AV} (h3 : kvs.map (·.1) = ns) (h4 : CVs E F vs (kvs.map (·.2))) (hn : (kvs.map (·.1)).Nodup) (hx : Nth ns i x) (hv : Nth vs i v) : ∃ cv, valueAt kvs x = some cv ∧ CV E F v cv := by
 obtain ⟨cv, e1, e2⟩ := h4.get hv.get
 refine ⟨cv, valueAt_of_get hn (i := i) ?_, e2⟩
 have e3 := hx.get
 rw [← h3] at e3
 rw [List.getElem?_map] at e1 e3
 cases z : kvs[i]? with
 | none => rw [z] at e1; cases e1
 | some p => rw [z] at e1 e3; cases e1; cases e3; rfl
theorem Item_sd {k i : Nat} {ns : List Str} {vs : List AV} {x : Str} {v : AV} (ho : st.H[k]? = some (.sdict (hashStr G.w) ns vs)) (hx : Nth ns i x) (hv : Nth vs i v) (q : Q v st) : Item G c bud (.obj k) (.str x) Q R st :=
 ⟨"dict", _, slot_dict_getitem.lookup, fun r E F s co ci rk a hk hi => by
  obtain ⟨l, kvs, rfl, he, hd, h3, h4⟩ := own_sd a ho hk
  simp only [CV] at hi
  obtain ⟨u, rfl⟩ := hi
  obtain ⟨o, es, ep, h1, x1, x2, x3, x4, x5⟩ := id hd
  obtain ⟨cv, e1, e2⟩ := valAt h3 h4 x5 hx hv
  exact ⟨hd.typeIs, wpAny_getItem_of (strKind_is _ _ _ _) hd.mapOf e1 (post_mk a e2 q)⟩⟩
theorem stored_vals : ∀ {kvs : List (Str × Value)} {i : Nat} {x : Str} {cv : Value}, (kvs.map (·.1)).Nodup → (kvs.map (·.1))[i]? = some x → (kvs.map fun kv => if kv.1 = x then (kv.1, cv) else kv).map (·.2) = (kvs.map (·.2)).set i cv
 | [], _, _, _, _, h => by simp at h
 | p :: kvs, 0, x, cv, nd, h => by
  simp at h; subst h
  rw [List.map_cons, List.nodup_cons] at nd
  rw [List.map_cons, if_pos rfl, map_store_of_not_mem _ _ _ nd.1]; rfl
 | p :: kvs, i + 1, x, cv, nd, h => by
  simp only [List.map_cons, List.getElem?_cons_succ] at h
  rw [List.map_cons, List.nodup_cons] at nd
  have : p.1 ≠ x := fun e => nd.1 (by rw [e]; exact List.mem_of_getElem? h)
  rw [List.map_cons, if_neg this, List.map_cons, stored_vals nd.2 h]; rfl
theorem CVs.set {E : Own} {F : Led} {v : AV} {cv : Value} (hv : CV E F v cv) : ∀ {vs : List AV} {cs : List Value} (i : Nat), CVs E F vs cs → CVs E F (vs.set i v) (cs.set i cv)
 | [], _, _, h => by simp only [CVs] at h; subst h; simp [CVs]
 | u :: vs, _, 0, h => by
  simp only [CVs] at h
  obtain ⟨c, r, rfl, _, h2⟩ := h
  exact CVs.cons hv h2
 | u :: vs, _, i + 1, h => by
  simp only [CVs] at h
  obtain ⟨c, r, rfl, h1, h2⟩ := h
  exact CVs.cons h1 (CVs.set hv i h2)
theorem Seti_sd {k i : Nat} {ns : List Str} {vs vs' ls : List AV} {x : Str} {v : AV} {H : List AO} {Q : PU} (ho : H[k]? = some (.sdict (hashStr G.w) ns vs)) (hx : Nth ns i x) (hs : SetN vs i v vs') (hl : decide (ns.length ≤ 1000) = true)
  (q : Q ⟨ls, H.set k (.sdict (hashStr G.w) ns vs')⟩) : Seti G c bud (.obj k) (.str x) v Q R ⟨ls, H⟩ := fun r E F s co ci cv rk a hk hi hv => by
 obtain ⟨l, kvs, rfl, he, hd, h3, h4⟩ := own_sd a ho hk
 simp only [CV] at hi
 obtain ⟨u, rfl⟩ := hi
 obtain ⟨o, es, ep, h1, x1, x2, x3, x4, x5⟩ := id hd
 have hl' := of_decide_eq_true hl
 have hsz : kvs.length ≤ sizeLine := by
  have : kvs.length = ns.length := by rw [← h3, List.length_map]
  rw [sizeLine_eq]; omega
 refine .of (wpAny_setItem_pairs (strKind_is _ _ _ _) hd (fun h' hd' sb => ?_) hsz)
 have hxi : (kvs.map (·.1))[i]? = some x := by rw [h3]; exact hx.get
 have hany : (kvs.any fun kv => decide (kv.1 = x)) = true := by
  obtain ⟨p, hp, e⟩ := List.mem_map.mp (List.mem_of_getElem? hxi)
  exact List.any_eq_true.mpr ⟨p, hp, decide_eq_true e⟩
 rw [stored, if_pos hany] at hd'
 refine ⟨E, F, _, Grow.refl _ _, a.set (tk := s.toks + 1) (o' := .sdict (hashStr G.w) ns vs') he (by rw [ho]; simp) (KB.same sb) (rep_sd hd' ((keys_map_store ..).trans h3) ?_), q⟩
 rw [stored_vals x5 hxi, ← hs.eq]
 exact CVs.set hv _ h4
noncomputable def kDd2 (n : Nat) (hs : Str → Int) (k1 k2 : Str) (o : Obj) (v : AV) (Q : PV) : PV := fun u st => st.H[n]? = some (.raw [o]) ∧ Q (.obj n) ⟨st.vs, st.H.set n (.sdict hs [k1, k2] [v, u])⟩
noncomputable def kDd1 (G : Gl) (c : FnC) (bud : Nat) (n : Nat) (k1 k2 : Str) (o : Obj) (e : Expr) (Q : PV) (R : PR) : PV := fun v st => Ev G c bud e (kDd2 n (hashStr G.w) k1 k2 o v Q) R st
theorem Ev_dict2 {k1 k2 : Str} {e1 e2 : Expr} {c1 c2 : Nat} {p1 p2 pos : Pos} {ls : List AV} {H : List AO} (hP : G.P = anyP) (hne : (k1 == k2) = false)
  (h : ∀ o, Ev G c bud e1 (kDd1 G c bud H.length k1 k2 o e2 Q R) R ⟨ls, H ++ [.raw [o]]⟩) : Ev G c bud (.Dict [some (.Constant (.str k1) c1 p1), some (.Constant (.str k2) c2 p2)] [e1, e2] pos) Q R ⟨ls, H⟩ := fun r E F s rk a => by
 have hn : k1 ≠ k2 := fun e => by rw [e, beq_self_eq_true] at hne; cases hne
 obtain ⟨P, prog, w, K, PE⟩ := G
 dsimp only at hP
 subst hP
 have a1 := a.new (tk := s.toks + 1) (as := [s.heap.objs.size]) (o := .raw [{ cls := .type "dict", data := .dict #[] }]) (KB.push [] s.heap { cls := .type "dict", data := .dict #[] }) (by simp) (fun x hx => by
  rw [List.mem_singleton] at hx; subst hx; rw [Heap.size_push]; exact ⟨Nat.le_refl _, Nat.lt_succ_self _⟩) (by
  show [Heap.get? _ _] = _
  rw [Heap.get?_push_size _ rfl]; rfl)
 have g1 : Grow E F (E ++ [[s.heap.objs.size]]) F := Grow.own E [[s.heap.objs.size]] F
 have he : (E ++ [[s.heap.objs.size]])[H.length]? = some [s.heap.objs.size] := by
  have e1 : E.length = H.length := a.hp.len
  rw [← e1]; simp
 refine .of (wpAny_Dict_walk (knd := strKind prog w) rfl rfl (by simp) (Nat.le_of_ble_eq_true rfl) (pairTrees_cons_walk (wpAny_Constant_str ?_)))
 refine wpAny_mono (wpP.any (h _ r _ F _ rk a1)) (fun c1 s2 ⟨E2, F2, st2, v1, g2, a2, cv1, q2⟩ => ?_) fun _ _ => Err.back g1
 refine pairTrees_cons_walk (wpAny_Constant_str ?_)
 have a2' := a2.toks (tk := s2.toks + 1)
 refine wpAny_mono (wpP.any (q2 r _ F2 _ rk a2')) (fun c2 s3 ⟨E3, F3, st3, v2, g3, a3, cv2, q3, q4⟩ => ?_) fun _ _ => Err.back (g1.trans g2)
 refine pairTrees_nil_walk ?_
 have he3 : E3[H.length]? = some [s.heap.objs.size] := g3.get (g2.get he)
 have hd : s3.heap.get? s.heap.objs.size = some { cls := .type "dict", data := .dict #[] } := by
  obtain ⟨as, e1, z⟩ := a3.hp.at q3
  rw [he3] at e1; cases e1
  simp only [RepO, List.map_cons, List.map_nil, List.cons.injEq, and_true] at z
  exact z
 refine display_done_str (vs := [(.str k1 _, c1), (.str k2 _, c2)]) rfl (by simp [strPairs, hn]) ⟨_, #[], _, hd, ⟨rfl, rfl, rfl⟩, rfl, fun e he => absurd he (by simp), .nil, by simp⟩ fun h' hd' sb => ?_
 refine ⟨E3, F3, _, _, (g1.trans g2).trans g3, a3.set (o' := .sdict (hashStr w) [k1, k2] [v1, v2]) he3 (by rw [q3]; simp) (KB.same sb) (rep_sd (G := ⟨anyP, prog, w, K, PE⟩) hd' rfl (CVs.cons (CV.grow g3 _ _ cv1) (CVs.one cv2))), ?_, q4⟩
 simp only [CV]
 exact ⟨_, [], he3, rfl⟩
end
end
section
inductive kTu (i j : Nat) (Q : PF) (v : AV) (st : St) : Prop
 | mk (u w : AV) (vs1 vs2 : List AV) (e : v = .tup [u, w]) (h1 : SetN st.vs i u vs1) (h2 : SetN vs1 j w vs2) (q : Q .next ⟨vs2, st.H⟩) : kTu i j Q v st
inductive kTs (i j : Nat) (Q : PF) (v : AV) (st : St) : Prop
 | mk (u w : AV) (vs1 vs2 : List AV) (e : v = .tup [u, w]) (h1 : SetN st.vs j w vs1) (h2 : SetN vs1 i u vs2) (q : Q .next ⟨vs2, st.H⟩) : kTs i j Q v st
section
variable {i j : Nat} {Q : PF} {u v : AV} {vs vs1 vs2 : List AV} {H : List AO}
theorem tuN (h1 : SetN vs i u vs1) (h2 : SetN vs1 j v vs2) (q : Q .next ⟨vs2, H⟩) : kTu i j Q (.tup [u, v]) ⟨vs, H⟩ := ⟨u, v, vs1, vs2, rfl, h1, h2, q⟩
theorem tsN (h1 : SetN vs j v vs1) (h2 : SetN vs1 i u vs2) (q : Q .next ⟨vs2, H⟩) : kTs i j Q (.tup [u, v]) ⟨vs, H⟩ := ⟨u, v, vs1, vs2, rfl, h1, h2, q⟩
end
section
variable {P : CP} {w : World} {c : FnC} {bud : Nat} {Q : PF} {R : PR} {st : St} {ns : List Str} {i j : Nat} {x y : Str} {p p' pt pos : Pos} {k : Nat}
theorem sTupN {e : Expr} (ok : c.Ok) (hn : c.ns = ns) (hx : Nth ns i x) (hy : Nth ns j y) (h : Ev (GP P w) c bud e (kTu i j Q) R st)
  (hs : ∀ env, swapsWithSole [.Tuple [.Name x p, .Name y p'] k pt] e pos.line env = pure false := by intro _; rfl) (hw : ∀ env, swappedStores [.Tuple [.Name x p, .Name y p'] k pt] e env = pure none := by intro _; rfl) :
  Es (GP P w) c bud (.Assign [.Tuple [.Name x p, .Name y p'] k pt] e pos) Q R st :=
 Es_tup (fun r E F s rk a => wpP_mono (h r E F s rk a) (fun v s1 ⟨E1, F1, st1, av, g1, a1, c1, u, z, vs1, vs2, e1, h1, h2, q⟩ => ⟨E1, F1, st1, av, g1, a1, c1, by
  subst e1
  refine Asg_tup2 i j ok (hn ▸ hx) (hn ▸ hy) ?_
  rw [h1.eq, h2.eq]; exact q⟩) fun _ _ z => z) hs hw
noncomputable def swapsT (es : List Expr) (l l' : Nat) (x y : Str) : Bool := es.length == 2 && !(es.any fun | .Starred .. => true | _ => false) && l == l' && !(x == y) && !(es.all (foldedForSure 8)) && !(es.all (constantsAlone 8))
theorem fm2 {g : Expr → Option Str} {a b : Expr} {x y : Str} (h1 : g a = some x) (h2 : g b = some y) : List.filterMap g [a, b] = [x, y] := by
 rw [List.filterMap_cons_some h1, List.filterMap_cons_some h2]; rfl
theorem ed2 {x y : Str} (h : (!(x == y)) = true) : [x, y].eraseDups.length = 2 := by
 have h' : (y == x) = false := by
  rw [beq_eq_false_iff_ne]; rintro rfl; rw [beq_self_eq_true] at h; cases h
 simp [List.eraseDups_cons, h']
theorem lenB {x y : Str} {l : List Str} (h : l = [x, y]) (e : (!(x == y)) = true) : (l.length != 2 || l.eraseDups.length != l.length) = false := by
 subst h; rw [ed2 e]; rfl
theorem bangF {b : Bool} (h : (!b) = true) : b = false := by cases b with
 | false => rfl
 | true => cases h
theorem swapped_of {es : List Expr} {ke : Nat} {pe : Pos} {L : Addr} (ok : c.Ok) (hn : c.ns = ns) (hx : Nth ns i x) (hy : Nth ns j y) (hb : swapsT es p.line p'.line x y = true) :
  swappedStores [.Tuple [.Name x p, .Name y p'] k pt] (.Tuple es ke pe) (c.env L) = pure (some [x, y]) := by
 have hb := Bool.and_eq_true_iff.mp hb; have h6 := hb.2
 have hb := Bool.and_eq_true_iff.mp hb.1; have h5 := hb.2
 have hb := Bool.and_eq_true_iff.mp hb.1; have h4 := hb.2
 have hb := Bool.and_eq_true_iff.mp hb.1; have h3 := hb.2
 have hb := Bool.and_eq_true_iff.mp hb.1
 have kx : (c.env L).kindOf x = some .local := (ok.loc x (by rw [hn]; exact List.mem_of_getElem? hx.get)).1
 have ky : (c.env L).kindOf y = some .local := (ok.loc y (by rw [hn]; exact List.mem_of_getElem? hy.get)).1
 have kb : (c.env L).blockKind = .function := by
  show (if c.scope.kind.isAnnotationScope then ScopeKind.function else c.scope.kind) = _
  rw [ok.kind]; rfl
 delta swappedStores
 dsimp only
 generalize hl : List.filterMap _ [Expr.Name x p, Expr.Name y p'] = l
 have hl : l = [x, y] := hl.symm.trans (fm2 (if_pos (by rw [kx]; exact beq_self_eq_true p.line)) (if_pos (by rw [ky]; show (true && p'.line == p.line) = true; rw [eq_of_beq h3]; exact beq_self_eq_true p'.line)))
 refine (if_neg (ne_true_of_eq_false ?_)).trans ((if_neg (ne_true_of_eq_false (bangF hb.2))).trans ((if_neg (ne_true_of_eq_false (lenB hl h4))).trans ((if_neg (ne_true_of_eq_false (bangF h5))).trans ((if_neg (ne_true_of_eq_false (bangF h6))).trans (congrArg (fun l => pure (some l)) hl)))))
 rw [kb, eq_of_beq hb.1]; rfl
theorem bind_l {G : Gl} {r : Rt} {E : Own} {F : Led} {s : Shared} {u : AV} {cv : Value} {QU : St → Prop} (ok : c.Ok) (hx : Nth c.ns i x) (a : Abs G.K c r E F st s) (hu : CV E F u cv) (q : QU { st with vs := st.vs.set i u }) :
  wpAny (model G.prog G.w) (r.A c) (bindName (c.env r.L) x cv) (PostU G c r E F QU) (Err G c r E F R) s := wpAny_bindName (store_l ok hx a hu q)
theorem sTup2 {es : List Expr} {ke : Nat} {pe : Pos} (ok : c.Ok) (hn : c.ns = ns) (hx : Nth ns i x) (hy : Nth ns j y) (h : Ev (GP P w) c bud (.Tuple es ke pe) (kTs i j Q) R st)
  (hb : swapsT es p.line p'.line x y = true := by rfl) : Es (GP P w) c bud (.Assign [.Tuple [.Name x p, .Name y p'] k pt] (.Tuple es ke pe) pos) Q R st := fun r E F s rk a => by
 refine wpP_Assign_Tuple_swapped (names := [x, y]) (hs := rfl) (hw := swapped_of ok hn hx hy hb) (wpP_mono (h r E F s rk a) (fun cv s1 ⟨E1, F1, st1, v, g1, a1, c1, u, z, vs1, vs2, e1, h1, h2, q⟩ => ?_) fun _ _ z => z)
 subst e1
 obtain ⟨l, cs, rfl, hl, hc⟩ := frz_tup a1 c1
 simp only [CVs] at hc
 obtain ⟨cu, r1, rfl, q1, cz, r2, rfl, q2, rfl⟩ := hc
 refine .of (wpAny_unpackItems_tuple (items := [cu, cz].toArray) rk.hd hl fun h' hx' => ?_)
 have a2 := a1.loose0 rk (h' := h') (tk := s1.toks) fun b o e => hx' b o (fun q => noLt (Nat.le_refl _) (q ▸ Heap.lt_size e)) e
 show wpP _ _ _ (assignInOrder [fun v => bindName (c.env r.L) y v, fun v => bindName (c.env r.L) x v] [cz, cu]) _ _ _
 refine .of (assignInOrder_cons ?_)
 refine wpAny_mono (bind_l (QU := fun st2 => st2 = { st1 with vs := st1.vs.set j z }) (R := R) ok (hn ▸ hy) a2 q2 rfl) (fun _ s3 ⟨E3, F3, st3, g3, a3, e3⟩ => ?_) fun _ _ => Err.back g1
 subst e3
 refine assignInOrder_cons ?_
 refine wpAny_mono (bind_l (QU := fun st2 => st2 = { st1 with vs := (st1.vs.set j z).set i u }) (R := R) ok (hn ▸ hx) a3 (CV.grow g3 _ _ q1) rfl) (fun _ s4 ⟨E4, F4, st4, g4, a4, e4⟩ => ?_) fun _ _ => Err.back (g1.trans g3)
 subst e4
 refine assignInOrder_nil ⟨E4, F4, _, .next, (g1.trans g3).trans g4, a4, rfl, ?_⟩
 rw [h1.eq, h2.eq]; exact q
end
section
variable {G : Gl} {c : FnC} {bud : Nat} {Q : PV} {R : PR} {st : St}
theorem ints_cvs {E : Own} {F : Led} : ∀ {ns : List Int} {vs : List Value}, CVs E F (ns.map .int) vs → IntsAre vs ns
 | [], _, h => by simp only [List.map_nil, CVs] at h; subst h; exact .nil
 | n :: ns, _, h => by
  simp only [List.map_cons, CVs, CV] at h
  obtain ⟨c, r, rfl, ⟨t, rfl⟩, h2⟩ := h
  exact .cons n t (ints_cvs h2)
theorem cvs_ints {E : Own} {F : Led} : ∀ {vs : List Value} {ns : List Int}, IntsAre vs ns → CVs E F (ns.map .int) vs
 | _, _, .nil => CVs.nil
 | _, _, .cons k t r => CVs.cons (by simp [CV]) (cvs_ints r)
theorem pick_len {ns : List Int} {vs : List Value} {lo hi st : Option Int} (h : IntsAre vs ns) : (pickNums ns lo hi st).length ≤ ns.length := by
 have h1 := (h.pick lo hi st).length
 have h2 := slicePick_size_le vs.toArray lo hi st
 have h3 := h.length
 simp only [Array.length_toList, List.size_toArray] at *
 omega
noncomputable def kRev (Q : PV) : PV := fun v st => ∃ ns : List Int, v = .lst (ns.map .int) ∧ ns.length ≤ 1000 ∧ ∀ ns' : List Int, ns'.length ≤ ns.length → Q (.obj st.H.length) ⟨st.vs, st.H ++ [.list (ns'.map .int)]⟩
theorem Ev_rev {value : Expr} {kk : Nat} {p1 p2 p pos : Pos} (h : Ev G c bud value (kRev Q) R st) : Ev G c bud (.Subscript value (.Slice none none (some (.UnaryOp .USub (.Constant (.int 1) kk p1) p2)) p) pos) Q R st := fun r E F s rk a =>
 wpP_Subscript (wpP_mono (h r E F s rk a) (fun co s1 ⟨E1, F1, st1, o, g1, a1, c1, ns, e1, hz, q⟩ => wpP_Slice (wpP_pure (wpP_pure (wpP_mono (vUna (Ev_int (Una_neg (Q := fun v st2 => v = .int (-1) ∧ st2 = st1) (R := R) ⟨rfl, rfl⟩)) r E1 F1 s1 rk a1) (fun cu s2 ⟨E2, F2, st2, u, g2, a2, c2, e2, e3⟩ => by
  subst e1 e2 e3
  have c1' := CV.grow g2 _ _ c1
  obtain ⟨x, cs, rfl, hx, hc⟩ := frz_list a2 c1'
  simp only [CV] at c2
  obtain ⟨t, rfl⟩ := c2
  have hi := ints_cvs hc
  have a3 := a2.step0 (tk := s2.toks) (KB.push [] s2.heap { cls := .type "slice", data := .fields #[.none, .none, .int (-1) t] })
  refine .of (tail_any (Heap.IsList.typeIs (s := { s2 with heap := s2.heap.push { cls := .type "slice", data := .fields #[.none, .none, .int (-1) t] } }) (hx.push _)) slot_list_getitem.lookup
   (wpAny_getItem_list_slice (hx.push _) (Heap.IsSliceOf.new ..) .none .none (.int (-1) t) (by simp) ?_ (by rw [List.size_toArray, hi.length, sizeLine_eq]; omega)) rfl)
  have hp := hi.pick none none (some (-1))
  obtain ⟨y, z⟩ := list_new a3 (cvs_ints hp)
  exact ⟨_, _, _, _, (g1.trans g2).trans (Grow.own _ _ _), y, z, q _ (pick_len hi)⟩) fun _ _ => Err.back g1)))) fun _ _ z => z)
end
end
section
theorem lst_snoc (ys : List Value) (y : Value) {n : Nat} : ({ cls := .type "list", data := .seq (ys.toArray.push y) n } : Obj) = { cls := .type "list", data := .seq (ys ++ [y]).toArray n } := by simp
theorem CVs.takeS {E : Own} {F : Led} {vs : List AV} {cs : List Value} {i : Nat} {v : AV} {cv : Value} (h : CVs E F (vs.take i) cs) (e : vs[i]? = some v) (hv : CV E F v cv) : CVs E F (vs.take (i + 1)) (cs ++ [cv]) := by
 rw [List.take_add_one, e]
 exact h.app (CVs.one hv)
section
variable {prog : Program} {w : World} {A : Around} {K : Frag} {c : FnC} {bud : Nat} {r : Rt} {E : Own} {F : Led} {s : Shared} {vs0 : List AV} {H : List AO}
noncomputable def Off (r : Rt) (E : Own) (F : Led) (C : Addr) : Prop := C ∉ E.flatten ∧ (∀ p ∈ F, p.1 ≠ C) ∧ C ∉ r.fs ∧ r.g.get? C = none
theorem Abs.off {st : St} (x : Abs K c r E F st s) {C : Addr} (q : Off r E F C) {h' : Heap} {tk : Nat} (k : Heap.SameBut C s.heap h') : Abs K c r E F st { s with heap := h', toks := tk } := by
 have nf : ∀ a ∈ r.fs, a ≠ C := fun a ha e => q.2.2.1 (e ▸ ha)
 refine ⟨?_, x.hp.keep (KB.same k) fun a ha => ?_, fun b o e => (k.2 b fun z => ?_).trans (x.keep b o e), fun a ha o e => ?_, x.fresh, Nat.le_trans x.sz (Nat.le_of_eq k.1.symm), x.gens, x.drawn, x.os⟩
 ·obtain ⟨m, a, b⟩ := x.ns
  exact ⟨m, (KB.same k).ns (by simpa using nf r.L (by simp [Rt.fs])) a, b⟩
 ·rw [List.mem_singleton.mp ha]
  exact ⟨q.1, q.2.1⟩
 ·rw [z, q.2.2.2] at e; cases e
 ·obtain ⟨sl, z⟩ := x.frm a ha o e
  exact ⟨sl, (k.2 a (nf a (by simp [Rt.fs, ha]))).trans z⟩
theorem nm1 {a b : Addr} (h : a ≠ b) : a ∉ [b] := fun k => h (List.mem_singleton.mp k)
theorem nm3 {a b c d : Addr} (h : a ∉ [b, c, d]) : a ≠ b ∧ a ≠ c ∧ a ≠ d := ⟨fun e => h (e ▸ .head _), fun e => h (e ▸ .tail _ (.head _)), fun e => h (e ▸ .tail _ (.tail _ (.head _)))⟩
theorem set_snoc {H : List AO} {o o' : AO} : (H ++ [o]).set H.length o' = H ++ [o'] := by rw [List.set_append_right _ _ (Nat.le_refl _), Nat.sub_self]; rfl
inductive CInv (K : Frag) (c : FnC) (r : Rt) (E : Own) (F : Led) (C D : Addr) (n : Nat) (vs0 : List AV) (H : List AO) (S : Nat → Heap → Prop) (ys : List AV) (k : Nat) (s' : Shared) : Prop
 | mk (E2 : Own) (F2 : Led) (oi oc od : Obj) (i : Nat) (cs : List Value) (m : Str → Option Value) (h1 : k = n + 1 - i) (h2 : i ≤ n) (h3 : Grow E F E2 F2) (h4 : Abs K c r E2 F2 ⟨vs0, H ++ [.raw [oi, oc, od]]⟩ s') (h5 : S i s'.heap) (h6 : s'.heap.Ns C m) (h7 : ∃ z, s'.heap.get? D = some { cls := .type "list", data := .seq (List.toArray cs) z }) (h8 : CVs E2 F2 (ys.take i) cs) : CInv K c r E F C D n vs0 H S ys k s'
theorem comp_core {elt iter : Expr} {x : Str} {px : Pos} {scope : Scope} {pos : Pos} {I : Addr} {fp : List Addr} {n : Nat} {P : Nat → Value → Prop} {S : Nat → Heap → Prop} {vals ys : List AV} {h₀ : Heap} {tk : Nat} {RR : Value → Addr → Result → Shared → Prop} {Er : Value → Shared → Prop}
  (rk : RtOk K r bud) (a : Abs K c r E F ⟨vs0, H⟩ s) (kb : KB [] s.heap h₀) (hI : s.heap.objs.size ≤ I ∧ I < h₀.objs.size) (W : Walks prog w A I fp [I] n P S) (hn : n = vals.length) (hny : ys.length = n) (hyl : ltL H.length ys) (hvl : ltL H.length vs0) (hHl : ∀ o ∈ H, o.lt H.length) (hsz : n ≤ 100000)
  (hfp : ∀ b ∈ fp, b = I ∨ ∃ p ∈ F, p.1 = b) (hIo : ∀ i h, S i h → ∃ o, h.get? I = some o) (hS : S 0 h₀) (hP : ∀ i v, P i v → ∃ av, vals[i]? = some av ∧ CV E F av v)
  (hcell : ∀ y ∈ scope.names, y.2 ≠ .cell) (hkind : scope.kind = .function) (hx : scope.names.lookup x = some .local)
  (helt : ∀ (i : Nat) (v y : AV) (E' : Own) (F' : Led) (os : List Obj) (s : Shared) (cv : Value) (C : Addr) (m : Str → Option Value) (Er' : Value → Shared → Prop), Grow E F E' F' → vals[i]? = some v → ys[i]? = some y → Abs K c r E' F' ⟨vs0, H ++ [.raw os]⟩ s → CV E' F' v cv → s.heap.Ns C m → m x = some cv →
   wpAny (model prog w) A (eval elt (compEnvC scope [] C (c.env r.L))) (fun yv s' => ∃ E'' F'', Grow E' F' E'' F'' ∧ Abs K c r E'' F'' ⟨vs0, H ++ [.raw os]⟩ s' ∧ CV E'' F'' y yv) Er' s)
  (hRR : ∀ (D C : Addr) (s' : Shared) (m : Str → Option Value), s'.heap.Ns C m → (∃ E' F', Grow E F E' F' ∧ Abs K c r E' F' ⟨vs0, H⟩ s' ∧ CV E' F' (.lst ys) (.ref D) ∧ Off r E' F' C) → RR (.ref D) C (.ok .next) s') :
  wpAny (model prog w) A (newList []) (fun acc s₃ => wpAny (model prog w) A (newFunctionEnv scope (c.env r.L).globals [] [] (c.env r.L).qual none .none (some (c.env r.L))) (fun cenv s₄ =>
   codeAny (model prog w) A (.compStart (.ListComp elt [⟨.Name x px, iter, [], 0⟩] scope pos) 0 (.ref I) acc { cenv with scope := relabel scope (c.env r.L) }) (RR acc cenv.locals) s₄) Er s₃) Er { s with heap := h₀, toks := tk } := by
 refine wpAny_newObj_type (wpAny_newFunctionEnv hcell (by intro y hy; simp at hy) (fun h₁ hns₁ hsb₁ => ?_) hkind)
 dsimp only at hns₁ hsb₁ ⊢
 generalize hH2 : h₀.push { cls := .type "list", dict := none, data := .seq ([] : List Value).toArray } = H2 at hns₁ hsb₁ ⊢
 generalize hDe : h₀.objs.size = D
 have hC : H2.objs.size = D + 1 := by rw [← hH2, Heap.size_push, hDe]
 generalize hCe : H2.objs.size = C at hns₁ hsb₁ ⊢
 rw [hCe] at hC
 have hDC' : @LT.lt Nat _ D C := by rw [hC]; exact Nat.lt_succ_self _
 have hIl : @LT.lt Nat _ I D := hDe ▸ hI.2
 have hsD : @LE.le Nat _ s.heap.objs.size D := hDe ▸ kb.1
 have hDC : D ≠ C := Nat.ne_of_lt hDC'
 have old : ∀ b o, h₀.get? b = some o → h₁.get? b = some o := fun b o e => by
  refine hsb₁.extBut b o (Nat.ne_of_lt (Nat.lt_trans (hDe ▸ Heap.lt_size e) hDC')) (Heap.get?_push_of_some _ (hH2 ▸ Heap.get?_push_of_some _ e))
 have hacc : h₁.get? D = some { cls := .type "list", data := .seq ([] : List Value).toArray } := hsb₁.extBut _ _ hDC (Heap.get?_push_of_some _ (by rw [← hH2, ← hDe]; exact Heap.get?_push_size _ rfl))
 have hsz1 : h₁.objs.size = C + 1 := by rw [hsb₁.1, Heap.size_push, hCe]
 have kb1 : KB [] s.heap h₁ := ⟨by rw [hsz1]; exact Nat.le_trans hsD (Nat.le_of_lt (Nat.lt_succ_of_lt hDC')), fun b o n e => old b o (kb.2 b o n e)⟩
 obtain ⟨oC, hoC, hnsC⟩ := ns_iff.mp hns₁
 have hS1 : S 0 h₁ := W.frame _ _ _ hS fun b _ o e => old b o e
 obtain ⟨oI, hoI⟩ := hIo _ _ hS1
 have hIC : I ≠ C := Nat.ne_of_lt (Nat.lt_trans hIl hDC')
 have hID : I ≠ D := Nat.ne_of_lt hIl
 have a1 := a.new (tk := tk) (as := [I, C, D]) (o := .raw [oI, oC, { cls := .type "list", data := .seq ([] : List Value).toArray }]) kb1 (by simp [hIC, hID, Ne.symm hDC]) (fun b hb => by
  rw [hsz1]
  simp only [List.mem_cons, List.not_mem_nil, or_false] at hb
  rcases hb with rfl | rfl | rfl
  ·exact ⟨hI.1, Nat.lt_succ_of_lt (Nat.lt_trans hIl hDC')⟩
  ·exact ⟨Nat.le_trans hsD (Nat.le_of_lt hDC'), Nat.lt_succ_self _⟩
  ·exact ⟨hsD, Nat.lt_succ_of_lt hDC'⟩) (by
  show [h₁.get? I, h₁.get? C, h₁.get? D] = _
  rw [hoI, hoC, hacc]; rfl)
 have g1 : Grow E F (E ++ [[I, C, D]]) F := Grow.own E [[I, C, D]] F
 have hE : E.length = H.length := a.hp.len
 have hFz : ∀ b ∈ fp, b ≠ I → ∀ {E3 F3 : _} {st3 : St} {s3 : Shared} {h3 : Heap} {o : Obj}, Grow E F E3 F3 → Abs K c r E3 F3 st3 s3 → h3.get? b = some o → (∀ o', s.heap.get? b = some o' → h3.get? b = some o') → s3.heap.get? b = some o := by
  intro b hb hne E3 F3 st3 s3 h3 o g y e k
  rcases hfp b hb with rfl | ⟨p, hp, rfl⟩
  ·exact absurd rfl hne
  ·have e1 := a.hp.froz p hp
   rw [k _ e1] at e
   cases e
   exact y.hp.froz p (g.2 p hp)
 have loop : codeAny (model prog w) A (.compLoop (.ListComp elt [⟨.Name x px, iter, [], 0⟩] scope pos) 0 (.ref I) (.ref D) (compEnvC scope [] C (c.env r.L))) (RR (.ref D) C) { s with heap := h₁, toks := tk + ([] : List (Str × Value)).length } := by
  refine codeAny_compLoop_tests (CInv K c r (E ++ [[I, C, D]]) F C D n vs0 H S ys) ?_ (n + 1)
   ⟨_, _, _, _, _, 0, [], _, rfl, Nat.zero_le _, Grow.refl _ _, a1, hS1, hns₁, ⟨_, hacc⟩, CVs.nil⟩
  rintro k s' ⟨E2, F2, oi, oc, od, i, cs, m, rfl, hi, g2, a2, hSi, hnC, ⟨z, hD⟩, hcs⟩
  have hk2 : E2[H.length]? = some [I, C, D] := g2.get (by rw [← hE]; simp)
  by_cases hlt : i < n
  ·refine W.item i _ _ _ hlt hSi fun v h2 tk2 hPv hS2 hk => ?_
   obtain ⟨av, hav, hcv⟩ := hP i v hPv
   have hnC2 : h2.Ns C m := hnC.at' fun o e => hk _ o (nm1 (Ne.symm hIC)) e
   refine wpAny_assign_Name (wpAny_storeName_local (lookup_relabel_local hx) hnC2 (fun h3 hn3 hs3 => ?_) (by simp [compEnvC, relabel, hkind]))
   change Heap.Ns h3 C _ at hn3
   change Heap.SameBut C h2 h3 at hs3
   refine wpAny_tests_nil ?_
   simp only [if_true]
   have hCf : C ∉ fp := fun q => by
    rcases hfp C q with e | ⟨p, hp, e⟩
    ·exact hIC e.symm
    ·exact noLt (Nat.le_trans hsD (Nat.le_of_lt hDC')) (e ▸ Heap.lt_size (a.hp.froz p hp))
   have hDf : D ∉ fp := fun q => by
    rcases hfp D q with e | ⟨p, hp, e⟩
    ·exact hID e.symm
    ·exact noLt (Nat.le_trans hsD (Nat.le_refl _)) (e ▸ Heap.lt_size (a.hp.froz p hp))
   have hS3 : S (i + 1) h3 := W.frame _ _ _ hS2 fun b hb o e => hs3.extBut b o (fun q => hCf (q ▸ hb)) e
   obtain ⟨oi3, hoi3⟩ := hIo _ _ hS3
   obtain ⟨oc3, hoc3, hns3⟩ := ns_iff.mp hn3
   have hD3 : h3.get? D = some { cls := .type "list", data := .seq (List.toArray cs) z } := hs3.extBut _ _ hDC (hk _ _ (nm1 (Ne.symm hID)) hD)
   have a3 := a2.loose rk (h' := h3) (tk := tk2 + 1) (k := H.length) (as := [I, C, D]) (o' := .raw [oi3, oc3, { cls := .type "list", data := .seq (List.toArray cs) z }]) hk2 (by simp) (fun b o hb e => by
    replace hb := nm3 hb
    exact hs3.extBut b o hb.2.1 (hk b o (nm1 hb.1) e)) (by
    show [h3.get? I, h3.get? C, h3.get? D] = _
    rw [hoi3, hoc3, hD3]; rfl)
   have e3 : ∀ o' : AO, (H ++ [AO.raw [oi, oc, od]]).set H.length o' = H ++ [o'] := fun o' => set_snoc
   dsimp only at a3
   rw [e3] at a3
   have gE := g1.trans g2
   obtain ⟨y, hy⟩ : ∃ y, ys[i]? = some y := ⟨ys[i]'(hny ▸ hlt), by simp⟩
   refine wpAny_mono (helt i av y E2 F2 _ _ v C _ _ gE hav hy a3 (CV.grow gE _ _ hcv) hn3 (by simp)) (fun yv s4 ⟨E4, F4, g4, a4, cy⟩ => ?_) fun _ _ x => x
   have hk4 : E4[H.length]? = some [I, C, D] := g4.get hk2
   obtain ⟨as4, q4, r4⟩ := a4.hp.at (k := H.length) (o := .raw [oi3, oc3, { cls := .type "list", data := .seq (List.toArray cs) z }]) (by simp)
   rw [hk4] at q4; cases q4
   simp only [RepO, List.map_cons, List.map_nil, List.cons.injEq, and_true] at r4
   obtain ⟨r4I, r4C, r4D⟩ := r4
   have hS4 : S (i + 1) s4.heap := W.frame _ _ _ hS3 fun b hb o e => by
    by_cases hbI : b = I
    ·subst hbI; rw [hoi3] at e; rw [← e]; exact r4I
    ·refine hFz b hb hbI (gE.trans g4) a4 e fun o' e' => ?_
     rcases hfp b hb with e5 | ⟨p, hp, rfl⟩
     ·exact absurd e5 hbI
     ·have e6 := a3.hp.froz p (gE.2 p hp)
      rw [a.hp.froz p hp] at e'; cases e'
      exact e6
   refine append_at (hsz := by
    have := hcs.len
    rw [List.size_toArray, this, List.length_take, sizeLine_eq]; omega) r4D fun h5 hs5 hD5 => ?_
   rw [lst_snoc] at hD5
   have a5 := a4.loose rk (h' := h5) (tk := s4.toks) (k := H.length) (as := [I, C, D]) (o' := .raw [oi3, oc3, { cls := .type "list", data := .seq (List.toArray (cs ++ [yv])) (z + 1) }]) hk4 (by simp) (fun b o hb e => by
    replace hb := nm3 hb
    exact hs5.extBut b o hb.2.2 e) (by
    show [h5.get? I, h5.get? C, h5.get? D] = _
    rw [hs5.extBut I _ hID r4I, hs5.extBut C _ (Ne.symm hDC) r4C, hD5]; rfl)
   have e5 : ∀ o' : AO, (H ++ [AO.raw [oi3, oc3, { cls := .type "list", data := .seq (List.toArray cs) z }]]).set H.length o' = H ++ [o'] := fun o' => set_snoc
   dsimp only at a5
   rw [e5] at a5
   have hn5 := ns_iff.mpr ⟨oc3, hs5.extBut C _ (Ne.symm hDC) r4C, hns3⟩
   refine ⟨n + 1 - (i + 1), Nat.sub_lt_sub_left (Nat.lt_succ_of_lt hlt) (Nat.lt_succ_self i), E4, F4, _, _, _, i + 1, cs ++ [yv], _, rfl, hlt, g2.trans g4, a5, W.frame _ _ _ hS4 fun b hb o e => hs5.extBut b o (fun q => hDf (q ▸ hb)) e, hn5, ⟨_, hD5⟩, (CVs.grow g4 _ _ hcs).takeS hy cy⟩
  ·obtain rfl : i = n := Nat.le_antisymm hi (Nat.not_lt.mp hlt)
   refine W.done _ _ _ hSi fun h2 tk2 hk => ?_
   have hnC2 : h2.Ns C m := hnC.at' fun o e => hk _ o (nm1 (Ne.symm hIC)) e
   refine hRR D C _ m hnC2 ?_
   have hD3 : h2.get? D = some { cls := .type "list", data := .seq (List.toArray cs) z } := hk _ _ (nm1 (Ne.symm hID)) hD
   have a4 := a2.drop1 rk (wr := [I, C, D]) (h' := h2) (tk := tk2) hk2 hvl hHl (fun b o hb e => by
    replace hb := nm3 hb
    exact hk b o (nm1 hb.1) e)
   rw [show ys.take i = ys from List.take_of_length_le (Nat.le_of_eq hny)] at hcs
   have nd := a2.hp.nd
   have nin : ∀ b ∈ [I, C, D], b ∉ (E2.take H.length).flatten := fun b hb q => by
    obtain ⟨as, q1, q2⟩ := List.mem_flatten.mp q
    obtain ⟨j, hj⟩ := List.mem_iff_getElem?.mp q1
    have hj' : j < H.length := by
     have := (List.getElem?_eq_some_iff.mp hj).1
     rw [List.length_take] at this; omega
    rw [List.getElem?_take_of_lt hj'] at hj
    exact flat_off nd hk2 hj (by omega) _ q2 hb
   have inE : ∀ b ∈ [I, C, D], b ∈ E2.flatten := fun b hb => List.mem_flatten.mpr ⟨_, List.mem_of_getElem? hk2, hb⟩
   have nF : ∀ b ∈ [I, C, D], ∀ p ∈ F2, p.1 ≠ b := fun b hb p hp e => by
    have := (a2.hp.offF p hp).1 H.length _ hk2 (e ▸ hb)
    simp at this
   have a5 := a4.led (X := [(D, { cls := .type "list", data := .seq (List.toArray cs) z })]) fun p hp => by
    rw [List.mem_singleton] at hp
    subst hp
    exact ⟨hD3, nin D (by simp), (a2.hp.offE D (inE D (by simp))).1⟩
   refine ⟨E2.take H.length, _, ?_, a5, ?_, nin C (by simp), fun p hp => ?_, (a2.hp.offE C (inE C (by simp))).1, Rt.g_own (a2.fresh C (inE C (by simp)))⟩
   ·obtain ⟨⟨X, e⟩, k2⟩ := g2
    refine ⟨⟨[], ?_⟩, fun p hp => List.mem_append_right _ (k2 p hp)⟩
    rw [e, List.append_assoc, ← hE, List.take_left']; simp; rfl
   ·simp only [CV]
    exact ⟨D, cs, _, rfl, .head _, ⟨rfl, z, rfl⟩, CVs.grow (Grow.froz _ _ _) _ _ (CVs.cut H.length _ _ hcs hyl)⟩
   ·rcases List.mem_append.mp hp with hp | hp
    ·rw [List.mem_singleton] at hp; subst hp; exact hDC
    ·exact nF C (by simp) p hp
 exact codeAny_compStart_list loop (W.self 0 _ _ _ hS1 loop)
end
end
section
theorem lookup_relabel_glob {env : Env} : ∀ {names : List (Str × NameKind)} {x : Str}, names.lookup x = some .globalImplicit →
  (names.map fun (n, k) => if (k == NameKind.free && env.scope.kind == .function && env.kindOf n == some .cell) then (n, NameKind.cell) else (n, k)).lookup x = some .globalImplicit
 | [], _, h => by simp at h
 | (n, k) :: r, x, h => by
  show List.lookup x ((if (k == NameKind.free && env.scope.kind == .function && env.kindOf n == some .cell) = true then (n, NameKind.cell) else (n, k)) :: _) = _
  cases hx : x == n with
  | true =>
   simp only [List.lookup_cons, hx] at h
   cases h
   simp [List.lookup_cons, hx]
  | false =>
   simp only [List.lookup_cons, hx] at h
   have ih := @lookup_relabel_glob env r x h
   by_cases hc : (k == NameKind.free && env.scope.kind == .function && env.kindOf n == some .cell) = true
   ·rw [if_pos hc]; simp only [List.lookup_cons, hx]; exact ih
   ·rw [if_neg hc]; simp only [List.lookup_cons, hx]; exact ih
theorem ltL_nth {n : Nat} : ∀ {vs : List AV}, (∀ (i : Nat) (v : AV), vs[i]? = some v → v.lt n) → ltL n vs
 | [], _ => trivial
 | v :: vs, h => ⟨h 0 v rfl, ltL_nth fun i u e => h (i + 1) u (by simpa using e)⟩
section
variable {K : Frag} {c : FnC} {r : Rt} {E : Own} {F : Led} {s : Shared} {st : St}
theorem Abs.ltH (a : Abs K c r E F st s) : ∀ o ∈ st.H, o.lt st.H.length := fun o ho => by
 obtain ⟨k, hk⟩ := List.mem_iff_getElem?.mp ho
 obtain ⟨as, _, z⟩ := a.hp.at hk
 rw [← a.hp.len]; exact z.isLt
theorem Abs.ltV (a : Abs K c r E F st s) : ltL st.H.length st.vs := by
 obtain ⟨m, _, hl⟩ := a.ns
 refine ltL_nth fun i v e => ?_
 have hi : i < c.ns.length := by rw [hl.1]; exact (List.getElem?_eq_some_iff.mp e).1
 rcases hl.2 i c.ns[i] v (Nth.of (by simp [hi])) (Nth.of e) with rfl | ⟨cv, _, h⟩
 ·trivial
 ·rw [← a.hp.len]; exact CV.isLt _ _ h
end
structure NameIs (K : Frag) (scope : Scope) (f : Str) (v : Value) : Prop where
 look : scope.names.lookup f = some .globalImplicit
 nd : (f == ("__debug__" : Str)) = false
 val : nsIn K mainGlobals f = some (some v) ∨ (nsIn K mainGlobals f = some none ∧ bootBuiltins f = some v ∧ f ≠ "__name__")
noncomputable def keeps (K : Frag) (v : Value) : Bool := match v with
 | .ref _ => keepIn K v
 | .builtin _ => true
 | .type _ => true
 | _ => false
structure ScOK (scope : Scope) (x : Str) : Prop where
 cell : (scope.names.all fun y => y.2 != .cell) = true
 kind : scope.kind = .function
 names : (scope.names.all fun y => y.2 != .local || scope.names.lookup y.1 == some .local) = true
 look : scope.names.lookup x = some .local
 nd : (x == ("__debug__" : Str)) = false
section
variable {G : Gl} {c : FnC} {bud : Nat} {Q : PV} {R : PR} {st : St} {r : Rt} {E : Own} {F : Led} {s : Shared}
theorem keeps_of {v : Value} (h : keeps G.K v = true) : ∀ E F cf, CV E F (.val v) cf → ∀ h, G.K.In h → ∃ k, (k = Keeper.frame ∨ k = Keeper.machine ∨ k = Keeper.boundFrame) ∧ Looks (model G.prog G.w) h (keeperOf cf) k := by
 cases v <;> first | exact keep_fn h | exact keep_bi' | exact keep_ty' | cases h
theorem comp_name {A : Around} {scope : Scope} {f : Str} {v : Value} {C : Addr} {p : Pos} {Q : Value → Shared → Prop} {Er : Value → Shared → Prop} (ni : NameIs G.K scope f v) (hk : scope.kind = .function) (S : Sta G.K s.heap) (q : Q v s) :
  wpAny (model G.prog G.w) A (eval (.Name f p) (compEnvC scope [] C (c.env r.L))) Q Er s := by
 obtain ⟨mg, mb, h1, h2, h3⟩ := S.tops
 rcases ni.val with e | ⟨e1, e2, e3⟩
 ·exact Name_function_global (env := compEnvC scope [] C (c.env r.L)) hk (lookup_relabel_glob ni.look) (loadGlobal_global (env := compEnvC scope [] C (c.env r.L)) h1 (mg_of S.k h1 e) q) ni.nd
 ·exact Name_function_global (env := compEnvC scope [] C (c.env r.L)) hk (lookup_relabel_glob ni.look) (loadGlobal_builtin (env := compEnvC scope [] C (c.env r.L)) h1 (mg_none_of S.k h1 e1) h2 ((h3 _ e3).trans e2) q) ni.nd
theorem comp_elt {A : Around} {scope : Scope} {f x : Str} {v : Value} {C : Addr} {fp xp cp : Pos} {m : Str → Option Value} {cv : Value} {Q : Value → Shared → Prop} {Er : Value → Shared → Prop} (ni : NameIs G.K scope f v) (so : ScOK scope x) (hk : keeps G.K v = true)
  (S : Sta G.K s.heap) (hn : s.heap.Ns C m) (hx : m x = some cv) (q : wpAny (model G.prog G.w) A (call v [cv]) Q Er s) :
  wpAny (model G.prog G.w) A (eval (.Call (.Name f fp) [.Name x xp] [] cp) (compEnvC scope [] C (c.env r.L))) Q Er s := by
 refine wpP.any (wpP_Call (he := rfl) (.of (comp_name ni so.kind S ?_)))
 refine callWith_plainP (args := [(false, eval (.Name x xp) (compEnvC scope [] C (c.env r.L)))]) rfl (evalArgs_plainP (wpP_items_cons (pos := cp) (e := .Name x xp) (rest := []) (he := rfl) (.of (wpAny_Name (wpAny_loadName_local (env := compEnvC scope [] C (c.env r.L)) so.kind (lookup_relabel_local so.look) hn hx (wpP_items_nil ?_)) so.nd))))
 exact ⟨keeps_of hk [] [] v (by simp [CV]) _ S.k, .of q⟩
noncomputable def kEq (y : AV) (st : St) : PV := fun v st1 => v = y ∧ st1 = st
noncomputable def CompOK (G : Gl) (c : FnC) (bud : Nat) (v : Value) (vals ys : List AV) (st : St) : Prop :=
 ys.length = vals.length ∧ ltL st.H.length ys ∧ vals.length ≤ 1000 ∧ ∀ (i : Nat) (x y : AV) (os : List Obj), vals[i]? = some x → ys[i]? = some y → Cal G.any c bud (.val v) [x] (kEq y ⟨st.vs, st.H ++ [.raw os]⟩) (fun _ _ => False) ⟨st.vs, st.H ++ [.raw os]⟩
noncomputable def kComp (G : Gl) (c : FnC) (bud : Nat) (v : Value) (Q : PV) : PV := fun xv st1 => ∃ vals ys, xv = .lst vals ∧ CompOK G c bud v vals ys st1 ∧ Q (.lst ys) st1
theorem compOf {v : Value} {vals : List AV} (ys : List AV) (h : CompOK G c bud v vals ys st) (q : Q (.lst ys) st) : kComp G c bud v Q (.lst vals) st := ⟨vals, ys, rfl, h, q⟩
theorem comp_split {e : Expr} {scope : Scope} {env : Env} {pos : Pos} {acc first : Sem Value} {use : Option (Value → Sem Unit)} : comprehension e scope env pos acc false first use = first >>= fun x => comprehension e scope env pos acc false (pure x) use := by
 unfold comprehension
 rfl
theorem comp_lst {iter : Expr} {f x : Str} {fp xp cp px : Pos} {scope : Scope} {pos : Pos} {v : Value} {vals ys : List AV} {xv : Value} {RR : Value → Addr → Result → Shared → Prop} {Er : Value → Shared → Prop} (ni : NameIs G.K scope f v) (so : ScOK scope x) (hk : keeps G.K v = true)
  (rk : RtOk G.K r bud) (a : Abs G.K c r E F st s) (hc : CV E F (.lst vals) xv) (ck : CompOK G c bud v vals ys st)
  (hRR : ∀ (D C : Addr) (s' : Shared) (m : Str → Option Value), s'.heap.Ns C m → (∃ E' F', Grow E F E' F' ∧ Abs G.K c r E' F' st s' ∧ CV E' F' (.lst ys) (.ref D) ∧ Off r E' F' C) → RR (.ref D) C (.ok .next) s') :
  wpAny (model G.prog G.w) (r.A c) (pyIter xv) (fun it s2 => wpAny (model G.prog G.w) (r.A c) (newList []) (fun acc s₃ => wpAny (model G.prog G.w) (r.A c) (newFunctionEnv scope (c.env r.L).globals [] [] (c.env r.L).qual none .none (some (c.env r.L))) (fun cenv s₄ =>
   codeAny (model G.prog G.w) (r.A c) (.compStart (.ListComp (.Call (.Name f fp) [.Name x xp] [] cp) [⟨.Name x px, iter, [], 0⟩] scope pos) 0 it acc { cenv with scope := relabel scope (c.env r.L) }) (RR acc cenv.locals) s₄) Er s₃) Er s2) Er s := by
 have hc0 := hc
 obtain ⟨l, cs, rfl, hl, hcs⟩ := frz_list a hc
 have hlf : ∃ p ∈ F, p.1 = l := by
  simp only [CV] at hc0
  obtain ⟨l', cs', o, e, hm, _⟩ := hc0
  cases e
  exact ⟨_, hm, rfl⟩
 have hlt : l < s.heap.objs.size := let ⟨o, e, _⟩ := hl; Heap.lt_size e
 have hne : l ≠ s.heap.objs.size := fun e => noLt (Nat.le_refl _) (e ▸ hlt)
 obtain ⟨k1, k2, k3, k4⟩ := ck
 have hcl := hcs.len
 refine wpAny_pyIter_list hl ?_
 refine comp_core (n := cs.toArray.size) (P := fun i v => cs.toArray[i]? = some v) (S := fun i h => h.IsListIter s.heap.objs.size l i ∧ h.IsList l cs.toArray) (vals := vals) (ys := ys) (tk := s.toks) rk a (KB.push [] s.heap _) ⟨Nat.le_refl _, by rw [Heap.size_push]; exact Nat.lt_succ_self _⟩
  (Walks.list (A := r.A c) rk.hd _ _ hne _) (by rw [List.size_toArray, hcl]) (by rw [List.size_toArray, hcl, k1]) k2 a.ltV a.ltH (by rw [List.size_toArray, hcl]; omega) (fun b hb => ?_) (fun i h st => by obtain ⟨o, e, _⟩ := st.1; exact ⟨o, e⟩) ⟨⟨_, Heap.get?_push_size _ rfl, rfl, rfl⟩, hl.push _⟩ (fun i v hv => ?_)
  (fun y hy => by have := List.all_eq_true.mp so.cell y hy; simpa using this) so.kind so.look (fun i x y E' F' os s cv C m Er' g hv hy a' hcv hn hx => ?_) hRR
 ·simp only [List.mem_cons, List.not_mem_nil, or_false] at hb
  rcases hb with rfl | rfl
  ·exact .inl rfl
  ·exact .inr hlf
 ·simp only [List.getElem?_toArray] at hv
  have hi : i < vals.length := by rw [← hcl]; exact (List.getElem?_eq_some_iff.mp hv).1
  obtain ⟨cv', e, h2⟩ := hcs.get (i := i) (v := vals[i]) (by simp [hi])
  rw [hv] at e; cases e
  exact ⟨vals[i], by simp [hi], h2⟩
 ·have rk' : RtOk G.any.K r bud := rk
  refine comp_elt ni so hk (a'.sta rk) hn hx (wpAny_mono (wpP.any (k4 i x y os hv hy r E' F' s v [cv] rk' a' (by simp [CV]) (CVs.one hcv))) (fun yv s' ⟨E1, F1, st1, av, g1, a1, c1, e1, e2⟩ => ?_) fun e s' ⟨_, _, _, _, _, _, _, _, _, q⟩ => q.elim)
  subst e1 e2
  exact ⟨E1, F1, g1, a1, c1⟩
theorem Ev_comp {iter : Expr} {f x : Str} {fp xp cp px : Pos} {scope : Scope} {pos : Pos} {v : Value} (ni : NameIs G.K scope f v) (so : ScOK scope x) (hk : keeps G.K v = true) (h : Ev G c bud iter (kComp G c bud v Q) R st)
  (hs : ∀ env x, foldedSetIterable iter env x = pure x := by intro _ _; rfl) (hclos : ∀ env, closureFor scope env = pure [] := by intro _; rfl) :
  Ev G c bud (.ListComp (.Call (.Name f fp) [.Name x xp] [] cp) [⟨.Name x px, iter, [], 0⟩] scope pos) Q R st := fun r E F s rk a => by
 rw [eval_ListComp]
 show wpP _ _ _ (comprehension _ scope (c.env r.L) _ (newList []) false (eval iter (c.env r.L)) none) _ _ _
 rw [comp_split]
 refine wpP_bind (wpP_mono (h r E F s rk a) (fun xv s1 ⟨E1, F1, st1, av, g1, a1, c1, vals, ys, e1, ck, q⟩ => .of ?_) fun _ _ z => z)
 subst e1
 refine wpAny_comprehension_free (use := none) rfl (hs _) (hclos _) so.kind (fun y hy hl => by have := List.all_eq_true.mp so.names y hy; simpa [hl] using this) (wpAny_pure (comp_lst ni so hk rk a1 c1 ck fun D C s' m hn ⟨E', F', g', a', c', o'⟩ => ?_))
 exact ⟨m, hn, fun h' sb => ⟨E', F', st1, .lst ys, g1.trans g', a'.off (tk := s'.toks) o' sb, c', q⟩⟩
noncomputable def kCompN (G : Gl) (c : FnC) (bud : Nat) (v : Value) (i : Nat) (Q : PF) : PV := fun xv st1 => ∃ vals ys vs', xv = .lst vals ∧ CompOK G c bud v vals ys st1 ∧ SetN st1.vs i (.lst ys) vs' ∧ Q .next ⟨vs', st1.H⟩
theorem compNOf {Q : PF} {v : Value} {vals vs vs' : List AV} {i : Nat} {H : List AO} (ys : List AV) (h : CompOK G c bud v vals ys ⟨vs, H⟩) (hs : SetN vs i (.lst ys) vs') (q : Q .next ⟨vs', H⟩) : kCompN G c bud v i Q (.lst vals) ⟨vs, H⟩ := ⟨vals, ys, vs', rfl, h, hs, q⟩
theorem sCompN {Q : PF} {iter : Expr} {f x y : Str} {fp xp cp px py spos : Pos} {scope : Scope} {pos : Pos} {v : Value} {ns : List Str} {i : Nat} (ok : c.Ok) (hn : c.ns = ns) (hy : Nth ns i y) (ni : NameIs G.K scope f v) (so : ScOK scope x) (hk : keeps G.K v = true)
  (hl : (py.line == pos.line && !(scope.names.any fun (n, k) => n == y && (k == .local || k == .cell))) = true)
  (h : Ev G c bud iter (kCompN G c bud v i Q) R st)
  (hs : ∀ env x, foldedSetIterable iter env x = pure x := by intro _ _; rfl) (hclos : ∀ env, closureFor scope env = pure [] := by intro _; rfl) :
  Es G c bud (.Assign [.Name y py] (.ListComp (.Call (.Name f fp) [.Name x xp] [] cp) [⟨.Name x px, iter, [], 0⟩] scope pos) spos) Q R st := fun r E F s rk a => by
 have ky : (c.env r.L).kindOf y = some .local := (ok.loc y (by rw [hn]; exact List.mem_of_getElem? hy.get)).1
 have kb : (c.env r.L).blockKind = .function := by
  show (if c.scope.kind.isAnnotationScope then ScopeKind.function else c.scope.kind) = _
  rw [ok.kind]; rfl
 have hsw : swapsWith (.ListComp (.Call (.Name f fp) [.Name x xp] [] cp) [⟨.Name x px, iter, [], 0⟩] scope pos) (some (.Name y py)) spos.line (c.env r.L) = pure true := by
  unfold swapsWith
  dsimp only
  rw [kb, ky]
  show pure (true && true && (py.line == pos.line) && !(scope.names.any fun (n, k) => n == y && (k == .local || k == .cell))) = pure true
  rw [Bool.and_self, Bool.true_and, hl]
 rw [exec_Assign_Name_used _ _ _ _ hsw]
 refine wpP_bind (wpP_standAt (wpP_bind ?_))
 show wpP _ _ _ (do let _ ← comprehension (.ListComp (.Call (.Name f fp) [.Name x xp] [] cp) [⟨.Name x px, iter, [], 0⟩] scope pos) scope (c.env r.L) _ (newList []) false (eval iter (c.env r.L)) (some (assign (.Name y py) (c.env r.L)))) _ _ s
 rw [comp_split]
 refine wpP_bind (wpP_bind (wpP_mono (h r E F s rk a) (fun xv s1 ⟨E1, F1, st1, av, g1, a1, c1, vals, ys, vs', e1, ck, hset, q⟩ => .of ?_) fun _ _ z => z))
 subst e1
 refine wpAny_mono (wpAny_comprehension_free (use := some (assign (.Name y py) (c.env r.L))) (Q := fun _ s' => ∃ E' F', Grow E1 F1 E' F' ∧ Abs G.K c r E' F' ⟨vs', st1.H⟩ s') rfl (hs _) (hclos _) so.kind (fun y hy hl => by have := List.all_eq_true.mp so.names y hy; simpa [hl] using this) (wpAny_pure (comp_lst ni so hk rk a1 c1 ck fun D C s' m hnC ⟨E', F', g', a', c', o'⟩ => ?_))) (fun _ s' ⟨E', F', g', a'⟩ => wpP_pure (wpP_pure ⟨E', F', _, .next, g1.trans g', a', rfl, q⟩)) fun _ _ z => z
 obtain ⟨ml, hnl, hll⟩ := a'.ns
 have hCL : C ≠ r.L := fun e => o'.2.2.1 (by rw [e]; simp [Rt.fs])
 refine wpAny_assign_Name (wpAny_storeName_local ky hnl (fun h2 hn2 hs2 => ?_) (by
  show (c.scope.kind == .class || (c.scope.kind == .module && r.L != mainGlobals)) = false
  rw [ok.kind]; rfl))
 have a2 := a'.store ok.nd (tk := s'.toks + 1) hll hs2 hn2 (hn ▸ hy) c'
 refine ⟨m, hnC.sameBut hs2 hCL, fun h3 hs3 => ⟨E', F', g', ?_⟩⟩
 have e3 : st1.vs.set i (.lst ys) = vs' := hset.eq
 have a3 := a2.off (tk := s'.toks + 1) o' hs3
 rw [← e3]
 exact a3
end
end
section
theorem find_erase {α : Type} {p : α → Bool} : ∀ {l : List α} {i : Nat} {a : α}, l[i]? = some a → p a = false → (l.eraseIdx i).find? p = l.find? p
 | [], _, _, h, _ => by simp at h
 | b :: l, 0, a, h, hp => by
  simp at h; subst h
  simp [List.find?_cons, hp]
 | b :: l, i + 1, a, h, hp => by
  simp only [List.getElem?_cons_succ] at h
  simp only [List.eraseIdx_cons_succ, List.find?_cons]
  rw [find_erase h hp]
theorem nsFind_ne {es : Array DictEntry} {i : Nat} {name x : Str} (hk : StrKeys es) (hi : es.findIdx? (·.key.isStr name) = some i) (hx : x ≠ name) : nsFind (es.eraseIdxIfInBounds i) x = nsFind es x := by
 have hlt : i < es.size := (Array.findIdx?_eq_some_iff_getElem.mp hi).1
 have hp := (Array.findIdx?_eq_some_iff_getElem.mp hi).2.1
 obtain ⟨n, t, hn⟩ := hk es[i] (Array.getElem_mem hlt)
 unfold nsFind findBy
 rw [← Array.find?_toList, ← Array.find?_toList, Array.eraseIdxIfInBounds, dif_pos hlt, Array.toList_eraseIdx]
 rw [find_erase (a := es[i]) (by simp [hlt])]
 rw [hn] at hp ⊢
 rw [isStr_str] at hp
 show (n == x) = false
 rw [eq_of_beq hp, beq_eq_false_iff_ne]
 exact fun e => hx e.symm
section
variable {M : Model} {A : Around} {E : Value → Shared → Prop} {s : Shared} {env : Env}
theorem nsDel_ne {a : Addr} {m : Str → Option Value} {name : Str} {Q : Bool → Shared → Prop} (hn : s.heap.Ns a m)
  (hQ : ∀ h' m', h'.Ns a m' → (∀ x, x ≠ name → m' x = m x) → Heap.SameBut a s.heap h' → Q (m name).isSome { s with heap := h' }) : wpAny M A (nsDel a name) Q E s := by
 obtain ⟨o, es, ep, ho, hd, hk, hm⟩ := id hn
 have hany : es.any (·.refKey) = false := by
  rw [Array.any_eq_false']; intro e he; obtain ⟨n, t, h⟩ := hk e he; simp [DictEntry.refKey, h]
 have hsome : (m name).isSome = es.any (·.key.isStr name) := by
  rw [← hm name]; simp only [nsFind, findBy, Option.isSome_map]
  rw [Bool.eq_iff_iff]; simp only [Array.find?_isSome, Array.any_eq_true]
  constructor
  ·rintro ⟨x, hx, hp⟩; obtain ⟨i, hi, rfl⟩ := Array.mem_iff_getElem.mp hx; exact ⟨i, hi, hp⟩
  ·rintro ⟨i, hi, hp⟩; exact ⟨_, Array.getElem_mem hi, hp⟩
 have hhas : nsHas name o = pure (es.any (·.key.isStr name)) := by
  rw [nsHas_eq]; unfold nsHasByArray; rw [hd]
  show (if (es.any fun x => x.key.isStr name) = true then _ else _) = _
  generalize (es.any fun x => x.key.isStr name) = b
  cases b <;> simp [hany]
 unfold nsDel
 refine wpAny_bind (wpAny_loadPart ho ?_)
 rw [hhas]
 refine wpAny_bind (wpAny_pure ?_)
 rw [← hsome]
 cases hmn : (m name).isSome
 ·have := hQ s.heap m hn (fun _ _ => rfl) (.refl ..)
  rw [hmn] at this
  exact wpAny_pure this
 ·refine wpAny_bind (wpAny_updatePart ho (wpAny_pure ?_))
  have key : ∃ m', (s.heap.update a (Obj.dropName name)).Ns a m' ∧ ∀ x, x ≠ name → m' x = m x := by
   obtain ⟨cl, d, dt, sl⟩ := o
   subst hd
   cases hi : es.findIdx? (·.key.isStr name) with
   | some i =>
    exact ⟨_, ⟨_, _, ep + 1, Heap.get?_update_self _ ho (by simp only [Obj.dropName_eq, Obj.dropNameByArray, hi] <;> rfl), (by simp only [Obj.dropName_eq, Obj.dropNameByArray, hi] <;> rfl), hk.erase i,
     fun x => rfl⟩, fun x hx => by rw [nsFind_ne hk hi hx, hm]⟩
   | none =>
    exfalso
    rw [hsome] at hmn
    rw [Array.findIdx?_eq_none_iff] at hi
    rw [Array.any_eq_true] at hmn
    obtain ⟨j, hj, hp⟩ := hmn
    have := hi _ (Array.getElem_mem hj)
    rw [hp] at this; cases this
  obtain ⟨m', k1, k2⟩ := key
  have := hQ _ m' k1 k2 (.update ..)
  rw [hmn] at this
  exact this
theorem nameGoes {n : Str} {pos : Pos} {m : Str → Option Value} {Q : Unit → Shared → Prop} (hl : env.kindOf n = some .local) (hn : s.heap.Ns env.locals m)
  (hp : (env.scope.kind == .class || (env.scope.kind == .module && env.locals != env.globals)) = false)
  (h : ∀ h' m', h'.Ns env.locals m' → (∀ x, x ≠ n → m' x = m x) → Heap.SameBut env.locals s.heap h' → Q () { s with heap := h', toks := s.toks + 1 }) :
  wpAny M A (do bindName env n .none; unbindBehindTheSuite env n pos) Q E s := by
 refine wpAny_bind (wpAny_bindName (wpAny_storeName_local hl hn (fun h₁ hn₁ hs₁ => ?_) hp))
 unfold unbindBehindTheSuite
 refine wpAny_onRaise ?_
 unfold unbindName
 refine wpAny_bind (wpAny_point (wpAny_bind ?_))
 unfold deleteName
 simp only [hl, hp]
 rw [if_neg (by decide)]
 refine wpAny_bind (nsDel_ne hn₁ fun h₂ m₂ hn₂ hm₂ hs₂ => ?_)
 simp only [if_true, Option.isSome_some, Bool.not_true, Bool.false_eq_true, if_false]
 refine wpAny_pure (wpAny_point (h h₂ m₂ hn₂ (fun x hx => ?_) (hs₁.trans hs₂)))
 rw [hm₂ x hx, if_neg hx]
end
section
variable {K : Frag} {c : FnC} {r : Rt} {E : Own} {F : Led} {st : St} {s : Shared}
theorem Abs.locals (x : Abs K c r E F st s) {h' : Heap} {tk : Nat} {m : Str → Option Value} {vs : List AV} (hl : LocOK E F m c.ns vs) (k : Heap.SameBut r.L s.heap h') (hn : h'.Ns r.L m) : Abs K c r E F ⟨vs, st.H⟩ { s with heap := h', toks := tk } where
 ns := ⟨_, hn, hl⟩
 hp := x.hp.keep (KB.same k) fun a ha => by
  rw [List.mem_singleton.mp ha]
  exact ⟨fun q => (x.hp.offE _ q).1 (by simp [Rt.fs]), fun p hp q => (x.hp.offF p hp).2 (by simp [Rt.fs, q])⟩
 keep b o e := (k.2 b (fun q => by rw [q, r.g_L] at e; cases e)).trans (x.keep b o e)
 frm a ha o e := let ⟨sl, q⟩ := x.frm a ha o e; ⟨sl, (k.2 a (fun z => by
  rw [z] at e
  exact noLt (Nat.le_refl _) (Heap.lt_size e))).trans q⟩
 fresh := x.fresh
 sz := Nat.le_trans x.sz (Nat.le_of_eq k.1.symm)
 gens := x.gens
 drawn := x.drawn
 os := x.os
theorem LocOK.un {m m' : Str → Option Value} {ns : List Str} {vs : List AV} {i : Nat} {x : Str} (y : LocOK E F m ns vs) (nd : ns.Nodup) (hx : Nth ns i x) (hm : ∀ z, z ≠ x → m' z = m z) : LocOK E F m' ns (vs.set i .un) := by
 refine ⟨by simp [y.1], fun j z v a b => ?_⟩
 by_cases q : j = i
 ·subst q
  exact .inl b.set_eq
 ·have hz : z ≠ x := fun e => q (Nth.nodup nd a (e ▸ hx))
  rw [hm z hz]
  exact y.2 j z v a (b.set_ne q)
end
section
variable {prog : Program} {w : World} {A : Around} {E : Value → Shared → Prop} {s : Shared} {K : Frag} {x C : Addr} {ox : Obj} {od : Option Obj} {name : Str} {expr : Bool} {Q : Value → Shared → Prop}
theorem get_exc {v : Value} {nm q : Str} {N : Addr} {bs bm : List Value} {hdct : Bool} {sn : List Str} {sub : List Value} {ab : Bool} {col : Option Bool} {dd : Option Addr} {k0 k1 k2 k3 k5 : Option Value} {newId : String}
  (X : K.In s.heap) (I : InstAt s.heap x ox C od) (hga : findIn K (.ref C) "__getattribute__" = some (some (.builtin "BaseException.__getattribute__"))) (hgt : findIn K (.ref C) "__getattr__" = some none)
  (hf : findObj K C od name = some (.value v)) (hC : s.heap.get? C = some (excClassObj nm q C N bs bm hdct sn sub ab col dd k0 k1 k2 k3 k5 newId)) (hB : bm.contains (.type "BaseException") = true) (hh : handedIn v = true) (h : Q v { s with toks := s.toks + 1 }) :
  wpAny (model prog w) A (getAttr (.ref x) name expr) Q E s := by
 obtain ⟨hp, g, d, t, os⟩ := s
 have L0 := I.type (M := model prog w)
 have L1 := looks_findIn (M := model prog w) X hga
 have L2 := looks_findIn (M := model prog w) X hgt
 have L3 := looks_find (M := model prog w) X I hf
 have FB := F.attrBase_Exception
 have f3 := FB.ga.bind (.ref x)
 have hx0 : (expr && onTheHeap (Value.builtin "BaseException.__getattribute__")) = false := by cases expr <;> rfl
 have hx2 : (Value.builtin "BaseException.__getattribute__" == Value.builtin "object.__getattribute__") = false := by decide +kernel
 have hcB : (Value.ref C :: bm).contains (.type "BaseException") = true := by rw [List.contains_cons, hB, Bool.or_true]
 have hk : builtinKind "BaseException.__getattribute__" = some .slot := by decide +kernel
 have hsplit : splitId "BaseException.__getattribute__" = some ("BaseException", "__getattribute__") := by decide +kernel
 unfold getAttr getAttrBy
 refine wpAny_bind (wpAny_mkText (wpAny_holding (wpAny_bind (L0.at (wpAny_bind (L1.at ?_))))))
 show wpAny _ _ (if (onTheHeap (Value.ref C) && Value.builtin "BaseException.__getattribute__" == Value.builtin "object.__getattribute__") = true then _ else _) _ _ _
 rw [hx2, Bool.and_false, if_neg (by decide)]
 unfold getAttrByItsOwn hookBefore
 show wpAny _ _ (typeLookup (.ref C) "__getattr__" >>= _) _ _ _
 refine wpAny_bind (L2.at ?_)
 refine wpAny_bind (wpAny_attempt (wpAny_holding ?_))
 unfold callGetattribute
 rw [hx0, if_neg (by decide)]
 unfold boundAndCalled
 rw [f3]
 refine wpAny_bind (wpAny_pure ?_)
 have hx := I.at_
 have hc := I.cls
 have hargs := F.args_bexc_ga (.ref x) (.str name t)
 refine wpAny_call (codeAny_call_builtin FB.ga.plain F.entry_bexc_ga ?_)
 simp only [checkBuiltinCall, hk, hsplit]
 refine wpAny_bind ?_
 unfold isInstance
 refine wpAny_bind (L0.at ?_)
 refine wpAny_isSubtype_exc hC ?_
 rw [hcB, if_neg (by decide)]
 refine wpAny_of_eq hargs ?_
 unfold Builtin.«object.__getattribute__»
 refine wpAny_bind (wpAny_of_eq (a := (.ref x, [.str name t])) rfl ?_)
 refine wpAny_bind (wpAny_pure (wpAny_bind (L0.at (wpAny_bind (L3.at ?_)))))
 refine wpAny_pure ?_
 show wpAny _ _ (handedOut v) _ _ _
 rw [handedOut_of hh]; exact wpAny_pure h
end
end
section
section
variable {prog : Program} {w : World} {A : Around} {E : Value → Shared → Prop} {s : Shared}
noncomputable def NoCtx (h : Heap) (e : Addr) : Prop := ∃ o fs, h.get? e = some o ∧ o.data = .fields fs ∧ fs[2]? = some .none
theorem unchain_entry : entryFor table "proto.unchain" = some Builtin.«proto.unchain» := entryFor_of_tree (by kernel_rfl)
theorem raiseNew_h {α : Type} {e0 e : Addr} {oe : Obj} {vs : Array Value} {Q : α → Shared → Prop} (hh : A.handled = some (.ref e0)) (h0 : NoCtx s.heap e0) (hne : e0 ≠ e) (he : s.heap.get? e = some oe) (hde : oe.data = .fields vs) (hsz : 2 < vs.size)
  (h : E (.ref e) { s with heap := s.heap.update e (Obj.mapFields (·.setIfInBounds 2 (.ref e0))) }) : wpAny (model prog w) A (raiseNew (.ref e) : Sem α) Q E s := by
 obtain ⟨o0, fs0, h1, h2, h3⟩ := h0
 unfold raiseNew
 refine wpAny_bind (wpAny_handled ?_)
 rw [hh]
 have hb : (Value.ref e0 != Value.ref e) = true := by simp [hne]
 simp only [hb, if_true]
 refine wpAny_bind (wpAny_holding (wpAny_runValue (codeAny_builtin unchain_entry ?_)))
 unfold Builtin.«proto.unchain»
 refine wpAny_bind (wpAny_field h1 h2 h3 ?_)
 rw [if_pos (by decide)]
 refine wpAny_pure ?_
 show wpAny _ _ (updateField e 2 (.ref e0) >>= fun _ => throw (.ref e)) _ _ _
 refine wpAny_bind ?_
 unfold updateField
 refine wpAny_bind (wpAny_load he ?_)
 rw [hde]
 dsimp only
 rw [if_pos hsz]
 exact wpAny_update he (wpAny_throw h)
theorem next_end_h {it e0 : Addr} {i : Nat} {b : Array UInt8} {t : Tok} {Q : Option Value → Shared → Prop} (hh : A.handled = some (.ref e0)) (h0 : NoCtx s.heap e0) (hie : e0 ≠ it) (hit : KBw.IsBytesIter s.heap it b t i) (hx : b[i]? = none)
  (hQ : ∀ h', Heap.ExtBut it s.heap h' → Q none { s with heap := h' }) : wpAny (model prog w) A (pyNext (.ref it)) Q E s := by
 obtain ⟨o, ho, hc, hd⟩ := id hit
 unfold pyNext
 refine wpAny_bind (wpAny_attempt (wpAny_callSpecial?_slot (name := PySem.Str.ofString "__next__") (KBw.iter_typeIs hit) KBw.slot_next
  (wpAny_call_entry KBw.slot_next (KBw.iter_typeIs hit) KBw.entry_next ?_ (KBw.args_next _))))
 show wpAny _ _ (field (.ref it) 0 >>= _) _ _ s
 refine wpAny_bind (wpAny_field ho hd (x := .bytes b t) rfl ?_)
 show wpAny _ _ (if (Value.bytes b t == Value.none) = true then _ else _) _ _ s
 rw [if_neg (show ¬ ((Value.bytes b t == Value.none) = true) from Bool.false_ne_true)]
 show wpAny _ _ (field (.ref it) 1 >>= _) _ _ s
 refine wpAny_bind (wpAny_field ho hd (x := .int i 0) rfl ?_)
 refine wpAny_bind (wpAny_of_eq (a := b) rfl ?_)
 simp only [Int.toNat_natCast, hx]
 refine wpAny_bind (wpAny_rule (wpAny_bind (wpAny_setField ho hd (by simp) ?_)))
 show wpAny _ _ (newExc (.type "StopIteration") [] >>= _) _ _ _
 refine wpAny_bind ?_
 simp only [newExc, newTuple]
 refine wpAny_bind (wpAny_newObj_type ?_ (by size_fits))
 refine wpAny_bind (m := firstArgMember _ _) (wpAny_of_eq (a := Value.none) (by first | rfl | (simp only [firstArgMember]; rfl)) ?_)
 refine wpAny_newObj_type ?_ (by size_fits)
 obtain ⟨oe, fe, q1, q2, q3⟩ := h0
 have hs1 := Heap.SameBut.update s.heap it (Obj.mapFields (·.setIfInBounds 0 .none))
 generalize hg : s.heap.update it (Obj.mapFields (·.setIfInBounds 0 .none)) = g at *
 have q1' : g.get? e0 = some oe := hs1.extBut _ _ hie q1
 have hlt : e0 < g.objs.size := Heap.lt_size q1'
 refine raiseNew_h (A := A.in1) hh ⟨oe, fe, Heap.get?_push_of_some _ (Heap.get?_push_of_some _ q1'), q2, q3⟩ ?_ (Heap.get?_push_size _ rfl) rfl (by simp; omega) ?_
 ·dsimp only
  rw [Heap.size_push]
  exact Nat.ne_of_lt (Nat.lt_succ_of_lt hlt)
 refine wpAny_bind (wpAny_isInstance (T := "StopIteration") (b := true) ⟨_, Heap.get?_update_self _ (Heap.get?_push_size _ rfl) rfl, rfl⟩ isSubtype_stop ?_)
 refine wpAny_pure (hQ _ fun b' o' hb' e' => ?_)
 refine (Heap.get?_update_other _ _ ?_).trans (((hs1.extBut.push _).push _) b' o' hb' e')
 have e2 := Heap.lt_size (hs1.extBut b' o' hb' e')
 rw [Heap.size_push]
 exact Nat.ne_of_gt (Nat.lt_succ_of_lt e2)
theorem walks_h {e0 : Addr} (hh : A.handled = some (.ref e0)) (I : Addr) (hne : e0 ≠ I) (b : Array UInt8) (t : Tok) :
  Walks prog w A I [I, e0] [I] b.size (fun i v => ∃ c u, b[i]? = some c ∧ v = .int (c.toNat : Int) u) (fun i h => KBw.IsBytesIter h I b t i ∧ NoCtx h e0) where
 sub := fun _ hb => by rw [List.mem_singleton.mp hb]; exact .head _
 frame := fun _ _ _ st hk => ⟨let ⟨o, ho, r⟩ := st.1; ⟨o, hk I (by simp) o ho, r⟩, let ⟨o, fs, ho, r⟩ := st.2; ⟨o, fs, hk e0 (by simp) o ho, r⟩⟩
 item := fun i s Q E hi st hQ => by
  refine KBw.next_item st.1 (c := b[i]) (by simp [hi]) fun h' hit' hs' => ?_
  exact hQ _ h' (s.toks + 1) ⟨_, _, by simp [hi], rfl⟩ ⟨hit', let ⟨o, fs, ho, r⟩ := st.2; ⟨o, fs, hs'.extBut e0 o hne ho, r⟩⟩ fun b o hb e => hs'.extBut b o (fun h => hb (by simp [h])) e
 done := fun s Q E st hQ => next_end_h hh st.2 hne st.1 (by simp) fun h' he' => hQ h' s.toks fun b o hb e => he' b o (fun h => hb (by simp [h])) e
 self := fun _ _ _ _ st hQ => KBw.pyIter_self st.1 hQ
end
end
section
theorem wpP_attempt {α : Type} {P : CP} {M : Model} {A : Around} {m : Sem α} {Q : Except Value α → Shared → Prop} {E : Value → Shared → Prop} {s : Shared} (h : wpP P M A m (fun a => Q (.ok a)) (fun e => Q (.error e)) s) : wpP P M A m.attempt Q E s := fun Γ p hΓ hC => by
 rw [Sem.wp_attempt]; exact h Γ p hΓ hC
theorem wpP_Try {P : CP} {M : Model} {A : Around} {E : Value → Shared → Prop} {s : Shared} {env : Env} {body : List Stmt} {h₀ : ExceptHandler} {hs : List ExceptHandler} {pos : Pos} {Q : Flow → Shared → Prop}
  (h : wpP P M A (execs body env) (fun f s₁ => Q f s₁)
   (fun e s₁ => wpP P M A (noteFrame e env) (fun _ s₂ => wpP P M A (setFlight e none) (fun _ s₃ => wpP P M A (handleBy e env (h₀ :: hs)) Q E s₃) E s₂) E s₁) s) :
  wpP P M A (exec (.Try body (h₀ :: hs) [] [] pos) env) Q E s := by
 rw [arm_exec_Try]
 refine wpP_bind (wpP_standAt ?_)
 unfold tryStmt
 simp only [List.isEmpty_nil, if_true, List.isEmpty_cons, Bool.false_and, Bool.false_eq_true, if_false]
 refine wpP_bind (wpP_attempt (wpP_mono h (fun f s₁ h₁ => ?_) fun e s₁ h₁ => ?_))
 ·cases f with
  | next => exact .of (wpAny_execs_nil h₁)
  | _ => exact wpP_pure h₁
 ·exact wpP_bind (wpP_mono h₁ (fun _ _ h₂ => wpP_bind h₂) fun _ _ x => x)
section
variable (G : Gl) (c : FnC) (bud : Nat)
noncomputable def HB (hs : List ExceptHandler) (Q : PF) (R : PR) (b : List UInt8) (st : St) : Prop := ∀ r E F s e, RtOk G.K r bud → Abs G.K c r E F st s → ExcTb G.PE (Prot r E F) e b s.heap →
 wpAny (model G.prog G.w) (r.A c) (handleBy (.ref e) (c.env r.L) hs) (PostF G c r E F Q) (Err G c r E F R) s
end
section
variable {G : Gl} {c : FnC} {bud : Nat} {Q : PF} {R : PR} {st : St}
theorem Es_try {body : List Stmt} {h₀ : ExceptHandler} {hs : List ExceptHandler} {pos : Pos} (ok : c.Ok) (h : Ex G c bud body Q (HB G c bud (h₀ :: hs) Q R) st) : Es G c bud (.Try body (h₀ :: hs) [] [] pos) Q R st := fun r E F s rk a => by
 refine wpP_Try (wpP_mono (h r E F s rk a) (fun _ _ z => z) fun e s1 ⟨E1, F1, st1, b, ad, e1, g1, a1, x, hb⟩ => .of ?_)
 subst e1
 have hP : ∀ y ∈ frs (c.env r.L :: r.outer), Prot r E1 F1 y := fun y hy => .inl hy
 refine noteFrame_x (Around.frames_deeper rk.fr) (a1.toFF rk ok) rfl x hP (fun y => a1.prot_lt) fun h2 x2 k2 => .of ?_
 have a2 := a1.ex (tk := s1.toks) k2
 refine setFlight_x (fs := r.fs) x2 hP fun h3 x3 k3 => .of ?_
 have a3 := a2.ex (tk := s1.toks) k3
 exact wpAny_mono (hb r E1 F1 _ ad rk a3 x3) (fun _ _ => PostF.back g1) fun _ _ => Err.back g1
end
section
variable {P : CP} {w : World} {c : FnC} {bud : Nat} {Q : PF} {R : PR} {st : St} {gl ns : List Str} {i j : Nat} {y : Str}
theorem ps_test {np hpos : Pos} {r : Rt} {E : Own} {F : Led} {s : Shared} {b : List UInt8} {e : Addr} {RR : Result → Shared → Prop} (ok : c.Ok) (hg : Glb c gl) (hx : Nth gl i "PsError") (rk : RtOk (Kd w.params) r bud) (a : Abs (Kd w.params) c r E F st s) (x : ExcTb 52 (Prot r E F) e b s.heap)
  (h : RR (.ok .brk) s) : codeAny (model pw w) ((r.A c).mark (some (.ref e))) (.handlers (.ref e) [.ExceptHandler (some (.Name "PsError" np)) none [] hpos] (c.env r.L)) RR s := by
 obtain ⟨d, fs, sl, t, m, a1, a2, a3, a4, a5, a6, T, b1, b2, b3, b4⟩ := x
 have S := a.sta rk
 obtain ⟨mg, mb, h1, h2, h3⟩ := S.tops
 have hC := S.k _ _ look52
 have lk := hg.of "PsError" (List.mem_of_getElem? hx.get)
 refine codeAny_handlers_test (Name_function_global (env := c.env r.L) ok.kind lk.1 (loadGlobal_global (env := c.env r.L) h1 (mg_of S.k h1 g_PsError) ?_) lk.2)
 obtain ⟨hp, g, dr, tk, os⟩ := s
 exact wpAny_excMatches_sub_self hC a1 rfl (bmD_has (b := true) (by decide +kernel)) h
theorem HB_ret {z : Str} {v : AV} {np hpos p1 p2 p3 p4 : Pos} {k1 k3 : Nat} (ok : c.Ok) (hn : c.ns = ns) (hg : Glb c gl) (hx : Nth gl i "PsError") (hy : Nth ns j y) (hv : Nth st.vs j v) (hu : v.isUn = false) (q : Q (.ret (.tup [.str z, v])) st) {b : List UInt8} :
  HB (GP P w) c bud [.ExceptHandler (some (.Name "PsError" np)) none [.Return (some (.Tuple [.Constant (.str z) k1 p1, .Name y p2] k3 p3)) p4] hpos] Q R b st := fun r E F s e rk a x => by
 refine wpAny_handleBy_cons (ps_test ok hg hx rk a x (codeAny_handlers_suite ?_)) (by intro q; cases q)
 refine setFlight_x (fs := r.fs) x (fun y hy => .inl hy) fun h2 x2 k2 => ?_
 have aa := a.ex (tk := s.toks) k2
 obtain ⟨m, hm, hl⟩ := aa.ns
 have hy' : Nth c.ns j y := hn ▸ hy
 rcases hl.2 j y v hy' hv with e0 | ⟨cv, hv', hc⟩
 ·rw [e0] at hu; cases hu
 have lk := ok.loc y (List.mem_of_getElem? hy'.get)
 refine wpP.any (wpP_execs_cons (wpP_Return_some (wpP_Tuple (wpP_items_cons (he := rfl) (.of (wpAny_Constant_str (wpP_items_cons (he := rfl) (.of (wpAny_Name (wpAny_loadName_local ok.kind lk.1 hm hv' (wpP_items_nil (.of (wpAny_newTuple ?_ (by simp [sizeLine_eq]))))) lk.2)))))))))
 have a3 := aa.toks (tk := s.toks + 1)
 obtain ⟨p, q'⟩ := tup_frz (vs := [.str z, v]) (cs := [.str z _, cv]) a3 (CVs.cons (by simp [CV]) (CVs.one hc))
 exact ⟨_, _, _, .ret _, Grow.froz _ _ _, p, ⟨_, rfl, q'⟩, q⟩
end
end
section
noncomputable def strOf (b : List UInt8) : Str := Txt.join ("" : Str) (b.map fun x => (⟨#[x.toNat]⟩ : Str))
theorem strs_cv {E : Own} {F : Led} : ∀ {ys : List Str} {cs : List Value}, CVs E F (ys.map .str) cs → StrsAre cs ys
 | [], _, h => by simp only [List.map_nil, CVs] at h; subst h; exact .nil
 | y :: ys, _, h => by
  simp only [List.map_cons, CVs, CV] at h
  obtain ⟨c, r, rfl, ⟨t, rfl⟩, h2⟩ := h
  exact .cons y t (strs_cv h2)
theorem lt_strs {n : Nat} : ∀ (ys : List Str), ltL n (ys.map .str)
 | [] => trivial
 | _ :: ys => ⟨trivial, lt_strs ys⟩
theorem sum_len : ∀ b : List UInt8, ((b.map fun x => (⟨#[x.toNat]⟩ : Str)).map (·.length)).sum = b.length
 | [] => rfl
 | x :: b => by
  rw [List.map_cons, List.map_cons, List.sum_cons, sum_len b, List.length_cons]
  show 1 + b.length = b.length + 1
  omega
section
variable {P : CP} {w : World} {c : FnC} {bud : Nat} {Q : PF} {R : PR} {st : St} {gl ns : List Str} {i j : Nat}
theorem ga_52 : findIn (Kd w.params) (.ref 52) "__getattribute__" = some (some (.builtin "BaseException.__getattribute__")) := by kernel_rfl
theorem gt_52 : findIn (Kd w.params) (.ref 52) "__getattr__" = some none := by kernel_rfl
theorem hd_52 : hasDictIn (Kd w.params) 52 = true := by kernel_rfl
theorem at_52 : attrOk (Kd w.params) 52 "told" = true := by kernel_rfl
theorem HB_join {np hpos p1 fp ap cp1 cp2 cp3 tp ep ap2 lp callp asp : Pos} {k1 : Nat} {scope : Scope} {vs1 vs2 vs3 : List AV} (ok : c.Ok) (hn : c.ns = ns) (hg : Glb c gl) (hx : Nth gl 0 "PsError") (hi : Nth ns i "found") (hj : Nth ns j "e")
  (so : ScOK scope "sign") (ni : scope.names.lookup ("chr" : Str) = some .globalImplicit) {b : List UInt8} (hz : b.length ≤ 1000) (h1 : SetN st.vs j .un vs1) (h2 : SetN vs1 i (.str (strOf b)) vs2) (h3 : SetN vs2 j .un vs3) (q : Q .next ⟨vs3, st.H⟩)
  (hclos : ∀ env, closureFor scope env = pure [] := by intro _; rfl)
  (hem : ∀ env, ∃ pl, eval (.Call (.Attribute (.Constant (.str "") k1 p1) "join" ap) [.ListComp (.Call (.Name "chr" cp1) [.Name "sign" cp2] [] cp3) [⟨.Name "sign" tp, .Attribute (.Name "e" ep) "told" ap2, [], 0⟩] scope lp] [] callp) env = (do
   let ov ← eval (.Constant (.str "") k1 p1) env
   standAt ap.atName
   let (f, first) ← holding [ov] (getMethod ov "join" pl)
   callWith callp f first (backTo callp (starEach [.ListComp (.Call (.Name "chr" cp1) [.Name "sign" cp2] [] cp3) [⟨.Name "sign" tp, .Attribute (.Name "e" ep) "told" ap2, [], 0⟩] scope lp] env)) []) := by intro _; exact ⟨_, rfl⟩) :
  HB (GP P w) c bud [.ExceptHandler (some (.Name "PsError" np)) (some "e") [.Assign [.Name "found" fp] (.Call (.Attribute (.Constant (.str "") k1 p1) "join" ap) [.ListComp (.Call (.Name "chr" cp1) [.Name "sign" cp2] [] cp3) [⟨.Name "sign" tp, .Attribute (.Name "e" ep) "told" ap2, [], 0⟩] scope lp] [] callp) asp] hpos] Q R b st := fun r E F s e rk a x => by
 have hi' : Nth c.ns i "found" := hn ▸ hi
 have hj' : Nth c.ns j "e" := hn ▸ hj
 have li := ok.loc "found" (List.mem_of_getElem? hi'.get)
 have lj := ok.loc "e" (List.mem_of_getElem? hj'.get)
 have hp : ((c.env r.L).scope.kind == .class || ((c.env r.L).scope.kind == .module && (c.env r.L).locals != (c.env r.L).globals)) = false := by
  show (c.scope.kind == .class || (c.scope.kind == .module && r.L != mainGlobals)) = false
  rw [ok.kind]; rfl
 refine wpAny_handleBy_cons (ps_test ok hg hx rk a x (codeAny_handlers_suite_as ?_)) (by intro q; cases q)
 refine setFlight_x (fs := r.fs) x (fun y hy => .inl hy) fun h2' x2 k2 => ?_
 have aa := a.ex (tk := s.toks) k2
 obtain ⟨d, fs, sl, t, m0, a1, a2, a3, a4, a5, a6, _⟩ := id x2
 obtain ⟨od, hod, hns⟩ := ns_iff.mp a3
 have nl : ∀ p ∈ [(e, (⟨.ref 52, some d, .fields fs, sl⟩ : Obj)), (d, od)], h2'.get? p.1 = some p.2 ∧ p.1 ∉ E.flatten ∧ p.1 ∉ r.fs := fun p hp => by
  rcases hp with _ | ⟨_, _ | ⟨_, hp⟩⟩
  ·exact ⟨a1, fun q => a5 (.inr (.inl q)), fun q => a5 (.inl q)⟩
  ·exact ⟨hod, fun q => a6 (.inr (.inl q)), fun q => a6 (.inl q)⟩
  ·cases hp
 have al := aa.led nl
 generalize hX : [(e, (⟨.ref 52, some d, .fields fs, sl⟩ : Obj)), (d, od)] ++ F = F1 at al
 have gF : Grow E F E F1 := hX ▸ Grow.froz E F _
 have hm1 : (e, (⟨.ref 52, some d, .fields fs, sl⟩ : Obj)) ∈ F1 := by rw [← hX]; exact .head _
 have hm2 : (d, od) ∈ F1 := by rw [← hX]; exact .tail _ (.head _)
 obtain ⟨m, hm, hl⟩ := al.ns
 refine wpAny_storeName_local lj.1 hm (fun h4 hn4 hs4 => ?_) hp
 have a4' := al.locals (tk := s.toks + 1) (hl.un ok.nd hj' (fun z hz => if_neg hz)) hs4 hn4
 rw [h1.eq] at a4'
 have S := a4'.sta rk
 have hC := S.k _ _ look52
 have he := a4'.hp.froz _ hm1
 have hd := a4'.hp.froz _ hm2
 refine wpP.any (wpP_execs_cons (wpP_Assign_Name (hs := rfl) ?_))
 obtain ⟨pl, hem⟩ := hem (c.env r.L)
 refine wpP_MethodCall (he := hem) (.of (wpAny_Constant_str (.of (PySem.GM.join ?_))))
 refine callWith_plainP (args := [(false, eval (.ListComp (.Call (.Name "chr" cp1) [.Name "sign" cp2] [] cp3) [⟨.Name "sign" tp, .Attribute (.Name "e" ep) "told" ap2, [], 0⟩] scope lp) (c.env r.L))]) rfl (evalArgs_plainP (wpP_items_cons (pos := callp) (env := c.env r.L) (e := .ListComp (.Call (.Name "chr" cp1) [.Name "sign" cp2] [] cp3) [⟨.Name "sign" tp, .Attribute (.Name "e" ep) "told" ap2, [], 0⟩] scope lp) (rest := []) (he := rfl) (.of ?_)))
 rw [eval_ListComp]
 refine wpAny_comprehension_free (use := none) rfl (fun _ => rfl) (hclos _) so.kind (fun y hy hl => by have := List.all_eq_true.mp so.names y hy; simpa [hl] using this) ?_
 refine wpP.any (wpP_Attribute (he := by with_unfolding_all rfl) (.of (wpAny_Name (wpAny_loadName_local (v := .ref e) ok.kind lj.1 hn4 (if_pos rfl) ?_) lj.2)))
 obtain ⟨attr, t1, t2⟩ := attr_of (K := Kd w.params) at_52
 refine .of (get_exc (v := .bytes b.toArray t) S.k (C := 52) (od := some od) ⟨he, rfl, rfl, hd⟩ ga_52 gt_52 (findObj_own hd_52 t1 t2 (by rw [lookIn_ns hns, a4])) hC (bmD_has (b := true) (by decide +kernel)) rfl ?_)
 refine KBw.pyIter_bytes ?_
 have a5' := a4'.toks (tk := s.toks + 1 + 1 + 1)
 have hsz : e ≠ h4.objs.size := Nat.ne_of_lt (Heap.lt_size he)
 refine comp_core (n := b.toArray.size) (vals := b.map fun x => .int x.toNat) (ys := (b.map fun x => (⟨#[x.toNat]⟩ : Str)).map .str) (tk := s.toks + 1 + 1 + 1) rk a5' (KB.push [] h4 _) ⟨Nat.le_refl _, by rw [Heap.size_push]; exact Nat.lt_succ_self _⟩
  (walks_h (e0 := e) rfl h4.objs.size hsz b.toArray t) (by simp) (by simp) (lt_strs _) a5'.ltV a5'.ltH (by rw [List.size_toArray]; omega) (fun y hy => ?_) (fun i h st => by obtain ⟨o, e, _⟩ := st.1; exact ⟨o, e⟩) ⟨⟨_, Heap.get?_push_size _ rfl, rfl, rfl⟩, ⟨_, _, Heap.get?_push_of_some _ he, rfl, a2.2⟩⟩ (fun i v hv => ?_)
  (fun y hy => by have := List.all_eq_true.mp so.cell y hy; simpa using this) so.kind so.look (fun i x y E' F' os s cv C m Er' g hv hy a' hcv hn hx => ?_) ?_
 ·simp only [List.mem_cons, List.not_mem_nil, or_false] at hy
  rcases hy with rfl | rfl
  ·exact .inl rfl
  ·exact .inr ⟨_, hm1, rfl⟩
 ·obtain ⟨ch, u, e1, rfl⟩ := hv
  simp only [List.getElem?_toArray] at e1
  exact ⟨.int ch.toNat, by simp [e1], by simp [CV]⟩
 ·simp only [List.getElem?_map] at hv hy
  cases hb : b[i]? with
  | none => rw [hb] at hv; cases hv
  | some z =>
   rw [hb] at hv hy
   cases hv; cases hy
   simp only [CV] at hcv
   obtain ⟨u, rfl⟩ := hcv
   have S' := a'.sta rk
   refine comp_elt (G := GP P w) (v := .builtin "chr") ⟨ni, by decide +kernel, .inr b_chr⟩ so rfl S' hn hx (PySem.P.chr_of_int (by have := z.toNat_lt; simp; omega) ?_)
   exact ⟨E', F', Grow.refl _ _, a'.toks, by simp [CV]⟩
 ·intro D C s5 mC hnC ⟨E', F', g', a', c', o'⟩
  refine ⟨mC, hnC, fun h6 sb => ?_⟩
  have a6 := a'.off (tk := s5.toks) o' sb
  refine wpP_items_nil ⟨keep_bi' (id := "str.join") [] [] (.builtin "str.join") (by simp [CV]) _ (a6.sta rk).k, .of ?_⟩
  obtain ⟨l, cs, e5, hl, hcs⟩ := frz_list a6 c'
  cases e5
  refine join_listW hl (strs_cv hcs) (by decide +kernel) (by rw [sum_len, List.length_map]; omega) fun t' k => ?_
  obtain ⟨m6, hn6, hl6⟩ := a6.ns
  refine .of (wpAny_storeName_local li.1 hn6 (fun h7 hn7 hs7 => ?_) hp)
  have a7 := a6.store ok.nd (tk := k + 1) hl6 hs7 hn7 hi' (u := .str (strOf b)) (by simp only [CV]; exact ⟨t', rfl⟩)
  dsimp only at a7
  rw [h2.eq] at a7
  refine .of (wpAny_execs_nil ?_)
  obtain ⟨m7, hn7', hl7⟩ := a7.ns
  refine nameGoes lj.1 hn7' hp fun h8 m8 hn8 hm8 hs8 => ?_
  have a8 := a7.locals (tk := k + 1 + 1) (hl7.un ok.nd hj' hm8) hs8 hn8
  rw [h3.eq] at a8
  exact ⟨E', F', _, .next, gF.trans g', a8, rfl, q⟩
end
end
section
section
variable (G : Gl) (c : FnC) (bud : Nat)
noncomputable def kT1 (j : Nat) (v : AV) (K : PU) : PU := fun st => ∃ vs', SetN st.vs j v vs' ∧ K ⟨vs', st.H⟩
noncomputable def Walk (body : List Stmt) (vals : List AV) (T : AV → PU → PU) (I : Nat → PU) (Q : PF) (R : PR) (st1 : St) : Prop :=
 I 0 st1 ∧ (∀ i st2, I i st2 → st2.H.length = st1.H.length) ∧ (∀ st2, I vals.length st2 → ltL st1.H.length st2.vs ∧ (∀ o ∈ st2.H, o ∈ st1.H ∨ o.lt st1.H.length) ∧ Q .next st2) ∧
 ∀ i v st2 os, vals[i]? = some v → I i st2 → T v (Ex G c bud body (kFor I st1.H.length i os Q) R) ⟨st2.vs, st2.H ++ [.raw os]⟩
noncomputable def kT2 (i j : Nat) (v : AV) (K : PU) : PU := fun st => ∃ u w vs1 vs2, v = .tup [u, w] ∧ SetN st.vs i u vs1 ∧ SetN vs1 j w vs2 ∧ K ⟨vs2, st.H⟩
end
section
variable {P : CP} {w : World} {c : FnC} {bud : Nat} {Q : PF} {R : PR} {st : St} {ns gl : List Str} {i j : Nat} {x y : Str} {px py pt pos : Pos} {kt : Nat} {iter : Expr} {body : List Stmt}
theorem t1 {v : AV} {vs vs' : List AV} {H : List AO} {K : PU} (h : SetN vs j v vs') (q : K ⟨vs', H⟩) : kT1 j v K ⟨vs, H⟩ := ⟨vs', h, q⟩
theorem t2 {u v : AV} {vs vs1 vs2 : List AV} {H : List AO} {K : PU} (h1 : SetN vs i u vs1) (h2 : SetN vs1 j v vs2) (q : K ⟨vs2, H⟩) : kT2 i j (.tup [u, v]) K ⟨vs, H⟩ := ⟨u, v, vs1, vs2, rfl, h1, h2, q⟩
theorem walk_of {tg : Expr} {vals : List AV} {T : AV → PU → PU} {I : Nat → PU} {st1 : St} {r : Rt} {E1 : Own} {F1 : Led} {s : Shared} (hT : ∀ v K st, T v K st → Asg (GP P w) c bud tg v K R st) (h : Walk (GP P w) c bud body vals T I Q R st1)
  (a : Abs (Kd w.params) c r E1 F1 st1 s) : st1.H.length = st1.H.length ∧ I 0 st1 ∧ (∀ i st2, I i st2 → st2.H.length = st1.H.length) ∧
   (∀ i v st2 os, vals[i]? = some v → I i st2 → Asg (GP P w) c bud tg v (fun st3 => Ex (GP P w) c bud body (fun f st4 => match f with
    | .next => ∃ H4, st4.H = H4 ++ [.raw os] ∧ H4.length = st1.H.length ∧ I (i + 1) ⟨st4.vs, H4⟩
    | .ret v => Q (.ret v) st4) R st3) R ⟨st2.vs, st2.H ++ [.raw os]⟩) ∧
   (∀ st2, I vals.length st2 → ltL st1.H.length st2.vs ∧ (∀ o ∈ st2.H, o.lt st1.H.length) ∧ Q .next st2) := by
 obtain ⟨h1, h2, h3, h4⟩ := h
 refine ⟨rfl, h1, h2, fun i v st2 os hv hI => hT _ _ _ (h4 i v st2 os hv hI), fun st2 hI => ?_⟩
 obtain ⟨q1, q2, q3⟩ := h3 st2 hI
 exact ⟨q1, fun o ho => (q2 o ho).elim (fun z => a.ltH o z) fun z => z, q3⟩
theorem Evi_abs {tg : Expr} {QI QI' : List AV → St → Prop} (h : Evi (GP P w) c bud tg iter QI' R st) (k : ∀ vals st1 r E1 F1 s, Abs (Kd w.params) c r E1 F1 st1 s → QI' vals st1 → QI vals st1) : Evi (GP P w) c bud tg iter QI R st := fun r E F s rk a =>
 wpP_mono (h r E F s rk a) (fun cx s1 hq => wpP_mono hq (fun it s2 ⟨E1, F1, st1, vals, It, wr, S, s1', h', tk, e, g1, a1, z1, z2, z3, z4, z5, z6, z7⟩ => by
  exact ⟨E1, F1, st1, vals, It, wr, S, s1', h', tk, e, g1, a1, z1, z2, z3, z4, z5, z6, k _ _ _ _ _ _ a1 z7⟩) fun _ _ z => z) fun _ _ z => z
theorem for_of {tg : Expr} {T : AV → PU → PU} (J : Nat → PU) (ok : c.Ok) (hT : ∀ v K st, T v K st → Asg (GP P w) c bud tg v K R st)
  (h : Evi (GP P w) c bud tg iter (fun vals st1 => st1.H.length = st.H.length ∧ Walk (GP P w) c bud body vals T J Q R st1) R st)
  (hs : ∀ env x, foldedSetIterable iter env x = pure x) : Es (GP P w) c bud (.For tg iter body [] pos) Q R st :=
 Es_for J st.H.length ok (Evi_abs h fun vals st1 r E1 F1 s a ⟨e, hw⟩ => by
  have := walk_of hT hw a
  rw [e] at this
  exact ⟨e, this.2⟩) hs
theorem asg_t1 (ok : c.Ok) (hn : c.ns = ns) (hx : Nth ns j x) : ∀ v K st, kT1 j v K st → Asg (GP P w) c bud (.Name x px) v K R st := fun v K st ⟨vs', h, q⟩ => Asg_n ok hn hx h q
theorem asg_t2 (ok : c.Ok) (hn : c.ns = ns) (hx : Nth ns i x) (hy : Nth ns j y) : ∀ v K st, kT2 i j v K st → Asg (GP P w) c bud (.Tuple [.Name x px, .Name y py] kt pt) v K R st := fun v K st ⟨u, z, vs1, vs2, e, h1, h2, q⟩ => by
 subst e
 refine Asg_tup2 i j ok (hn ▸ hx) (hn ▸ hy) ?_
 rw [h1.eq, h2.eq]; exact q
theorem sForB (I : Nat → PU) (ok : c.Ok) (hn : c.ns = ns) (hx : Nth ns j x) (b : List UInt8) (h : Ev (GP P w) c bud iter (fun v st1 => v = .bytes b ∧ st1.H.length = st.H.length ∧ Walk (GP P w) c bud body (b.map fun x => .int x.toNat) (kT1 j) I Q R st1) R st)
  (hs : ∀ env x, foldedSetIterable iter env x = pure x := by intro _ _; rfl) : Es (GP P w) c bud (.For (.Name x px) iter body [] pos) Q R st :=
 for_of I ok (asg_t1 ok hn hx) (Evi_of fun r E F s rk a => wpP_mono (h r E F s rk a) (fun v s1 ⟨E1, F1, st1, av, g1, a1, c1, e, q1, q2⟩ => ⟨E1, F1, st1, av, g1, a1, c1, by subst e; exact Itr_bytes ⟨q1, q2⟩⟩) fun _ _ z => z) hs
theorem sForL (I : Nat → PU) (vals : List AV) (ok : c.Ok) (hn : c.ns = ns) (hx : Nth ns j x) (h : Ev (GP P w) c bud iter (fun v st1 => v = .lst vals ∧ st1.H.length = st.H.length ∧ Walk (GP P w) c bud body vals (kT1 j) I Q R st1) R st)
  (hs : ∀ env x, foldedSetIterable iter env x = pure x := by intro _ _; rfl) : Es (GP P w) c bud (.For (.Name x px) iter body [] pos) Q R st :=
 for_of I ok (asg_t1 ok hn hx) (Evi_of fun r E F s rk a => wpP_mono (h r E F s rk a) (fun v s1 ⟨E1, F1, st1, av, g1, a1, c1, e, q1, q2⟩ => ⟨E1, F1, st1, av, g1, a1, c1, by subst e; exact Itr_lst ⟨q1, q2⟩⟩) fun _ _ z => z) hs
theorem sForE (I : Nat → PU) {e : Expr} {p : Pos} {f : Nat} (b : List UInt8) (ok : c.Ok) (hn : c.ns = ns) (hg : Glb c gl) (hf : Nth gl f "enumerate") (hx : Nth ns i x) (hy : Nth ns j y)
  (h : Ev (GP P w) c bud e (fun v st1 => v = .bytes b ∧ st1.H.length = st.H.length ∧ Walk (GP P w) c bud body (b.zipIdx.map fun p => .tup [.int p.2, .int p.1.toNat]) (kT2 i j) I Q R st1) R st)
  (he : ∀ env, eval (.Call (.Name "enumerate" p) [e] [] px) env = (do callWith px (← eval (.Name "enumerate" p) env) [] (backTo px (starEach [e] env)) (backToKw px (keywordEach [] env))) := by intro _; rfl)
  (h1 : ∀ env, starEach [e] env = (false, eval e env) :: starEach [] env := by intro _; rfl) (hs : ∀ env x, foldedSetIterable (.Call (.Name "enumerate" p) [e] [] px) env x = pure x := by intro _ _; rfl) :
  Es (GP P w) c bud (.For (.Tuple [.Name x pt, .Name y py] kt pos) (.Call (.Name "enumerate" p) [e] [] px) body [] pos) Q R st :=
 for_of I ok (asg_t2 ok hn hx hy) (Evi_ty (T := "enumerate") (Ev_gu ok hg hf b_enumerate ⟨rfl, fun r E F s rk a => wpP_mono (h r E F s rk a) (fun v s1 ⟨E1, F1, st1, av, g1, a1, c1, e, q1, q2⟩ => ⟨E1, F1, st1, av, g1, a1, c1, by subst e; exact call_enum ⟨q1, q2⟩⟩) fun _ _ z => z⟩) he h1) hs
end
end
theorem le2 {n m k : Nat} (h : n ≤ m) (e : m.ble k = true := by rfl) : n ≤ k := Nat.le_trans h (Nat.le_of_ble_eq_true e)
theorem ltT {m n : Nat} (h : m < n) : decide ((m : Int) < (n : Int)) = true := decide_eq_true (Int.ofNat_lt.mpr h)
theorem ltF {m n : Nat} (h : n ≤ m) : decide ((m : Int) < (n : Int)) = false := decide_eq_false (Int.not_lt.mpr (Int.ofNat_le.mpr h))
theorem u8all {p : UInt8 → Bool} (h : ((List.range 256).all fun n => p n.toUInt8) = true) (x : UInt8) : p x = true := by
 have := List.all_eq_true.mp h x.toNat (List.mem_range.mpr x.toNat_lt)
 rwa [show x.toNat.toUInt8 = x from by simp] at this
noncomputable abbrev wh (x : UInt8) : Bool := [0, 4, 9, 10, 12, 13, 32].contains x
noncomputable abbrev dl (x : UInt8) : Bool := [40, 41, 60, 62, 91, 93, 123, 125, 47, 37].contains x
theorem wh_t {x : UInt8} (h : [0, 9, 10, 12, 13, 32].contains x = true) : wh x = true := by
 have := u8all (p := fun x => !([0, 9, 10, 12, 13, 32].contains x) || [0, 4, 9, 10, 12, 13, 32].contains x) (by decide +kernel) x
 rw [h] at this; simpa using this
theorem wh_f {x : UInt8} (h : [0, 9, 10, 12, 13, 32].contains x = false) : ((x.toNat : Int) == 4) = wh x := by
 have := u8all (p := fun x => [0, 9, 10, 12, 13, 32].contains x || (((x.toNat : Int) == 4) == [0, 4, 9, 10, 12, 13, 32].contains x)) (by decide +kernel) x
 rw [h] at this; simpa using this
inductive S_isWhite (bud : Nat) (args : List AV) (H : List AO) (Q : QT) (R : RT) : Prop
 | c (x : UInt8) (h0 : args = [.int x.toNat]) (h1 : Q (.bool ([0, 9, 10, 12, 13, 32].contains x)) H) : S_isWhite bud args H Q R
theorem S_isWhite.mk {bud : Nat} {x : UInt8} {H : List AO} {Q : QT} {R : RT}  (q : Q (.bool ([0, 9, 10, 12, 13, 32].contains x)) H) : S_isWhite bud [.int x.toNat] H Q R := ⟨_, rfl, q⟩
theorem ok_isWhite (w : World) : OK (GG w) 61 S_isWhite := by
 refine mkOK ["WHITE"] ["octet"] 1 ⟨_, _, _, rfl⟩ rfl (by kernel_rfl) rfl (fun vs hv => by obtain ⟨a, rfl⟩ := len1 hv; rfl) ?_
 rintro c ok hn hg bud _ H Q R ⟨x, rfl, q⟩ hlt
 refine ⟨_, ⟨rfl, rfl⟩, ?_⟩
 refine xCons ?_
 refine sRet ?_
 refine vCmp ?_
 refine Ev_l0 ok hn ?_
 refine Ev_gb ok hg .z g_WHITE ?_
 refine Cmp_in_bytes ?_
 refine Fin.id trivial ?_
 exact q
inductive S_isDelim (bud : Nat) (args : List AV) (H : List AO) (Q : QT) (R : RT) : Prop
 | c (x : UInt8) (h0 : args = [.int x.toNat]) (h1 : Q (.bool (dl x)) H) : S_isDelim bud args H Q R
theorem S_isDelim.mk {bud : Nat} {x : UInt8} {H : List AO} {Q : QT} {R : RT}  (q : Q (.bool (dl x)) H) : S_isDelim bud [.int x.toNat] H Q R := ⟨_, rfl, q⟩
theorem ok_isDelim (w : World) : OK (GG w) 68 S_isDelim := by
 refine mkOK ["DELIMITERS"] ["octet"] 1 ⟨_, _, _, rfl⟩ rfl (by kernel_rfl) rfl (fun vs hv => by obtain ⟨a, rfl⟩ := len1 hv; rfl) ?_
 rintro c ok hn hg bud _ H Q R ⟨x, rfl, q⟩ hlt
 refine ⟨_, ⟨rfl, rfl⟩, ?_⟩
 refine xCons ?_
 refine sRet ?_
 refine vCmp ?_
 refine Ev_l0 ok hn ?_
 refine Ev_gb ok hg .z g_DELIMITERS ?_
 refine Cmp_in_bytes ?_
 refine Fin.id trivial ?_
 exact q
inductive S_lineEnd (bud : Nat) (args : List AV) (H : List AO) (Q : QT) (R : RT) : Prop
 | c (i : Int) (h0 : args = [.int i]) (h1 : Q (.bool (i == 10 || i == 13)) H) : S_lineEnd bud args H Q R
theorem S_lineEnd.mk {bud : Nat} {i : Int} {H : List AO} {Q : QT} {R : RT}  (q : Q (.bool (i == 10 || i == 13)) H) : S_lineEnd bud [.int i] H Q R := ⟨_, rfl, q⟩
theorem ok_lineEnd (w : World) : OK (GG w) 75 S_lineEnd := by
 refine mkOK ["LINE_FEED", "CARRIAGE_RETURN"] ["octet"] 1 ⟨_, _, _, rfl⟩ rfl (by kernel_rfl) rfl (fun vs hv => by obtain ⟨a, rfl⟩ := len1 hv; rfl) ?_
 rintro c ok hn hg bud _ H Q R ⟨i, rfl, q⟩ hlt
 refine ⟨_, ⟨rfl, rfl⟩, ?_⟩
 refine xCons ?_
 refine sRet ?_
 refine vOr ?_
 refine vCmp ?_
 refine Ev_l0 ok hn ?_
 refine Ev_gi ok hg .z g_LINE_FEED ?_
 refine Cmp_eq_int ?_
 refine Tru_bool ?_
 refine br (fun c1 => ?_) (fun c1 => ?_)
 refine Fin.id trivial ?_
 rotate_left
 refine vCmp ?_
 refine Ev_l0 ok hn ?_
 refine Ev_gi ok hg (.s .z) g_CARRIAGE_RETURN ?_
 refine Cmp_eq_int ?_
 refine Fin.id trivial ?_
 rotate_left
 ·rw [c1] at q ⊢; exact q
 ·rw [c1] at q; exact q
inductive S_isBlank (bud : Nat) (args : List AV) (H : List AO) (Q : QT) (R : RT) : Prop
 | c (b0 : Nat) (x : UInt8) (h0 : bud = b0 + 1) (h1 : args = [.int x.toNat]) (h2 : Q (.bool (wh x)) H) : S_isBlank bud args H Q R
theorem S_isBlank.mk {b0 : Nat} {x : UInt8} {H : List AO} {Q : QT} {R : RT}  (q : Q (.bool (wh x)) H) : S_isBlank (b0 + 1) [.int x.toNat] H Q R := ⟨_, _, rfl, rfl, q⟩
theorem ok_isBlank (w : World) : OK (GG w) 404 S_isBlank := by
 refine mkOK ["is_white", "SCAN_END"] ["octet"] 1 ⟨_, _, _, rfl⟩ rfl (by kernel_rfl) rfl (fun vs hv => by obtain ⟨a, rfl⟩ := len1 hv; rfl) ?_
 rintro c ok hn hg _ _ H Q R ⟨b0, x, rfl, rfl, q⟩ hlt
 refine ⟨[_], ⟨rfl, rfl⟩, ?_⟩
 refine xCons ?_
 refine sRet ?_
 refine vOr ?_
 refine vCallN ?_
 refine Ev_gr ok hg .z g_is_white ?_
 refine wFn (by kernel_rfl) ?_
 refine aCons ?_
 refine Ev_l0 ok hn ?_
 refine aNil ?_
 refine calFn ok (ok_isWhite w) ?_
 refine S_isWhite.mk ?_
 refine Tru_bool ?_
 refine br (fun c1 => ?_) (fun c1 => ?_)
 refine Fin.id trivial ?_
 rotate_left
 refine vCmp ?_
 refine Ev_l0 ok hn ?_
 refine Ev_gi ok hg (.s .z) g_SCAN_END ?_
 refine Cmp_eq_int ?_
 refine Fin.id trivial ?_
 rotate_left
 ·rw [wh_t c1] at q; rw [c1]; exact q
 ·rw [← wh_f c1] at q; exact q
inductive S_next (bud : Nat) (args : List AV) (H : List AO) (Q : QT) (R : RT) : Prop
 | c (k : Nat) (b : List UInt8) (n : Nat) (h0 : args = [.obj k]) (h1 : H[k]? = some (src b n)) (h2 : b.length ≤ 1000) (h3 : Q (oct b n) (H.set k (src b (nx b n)))) : S_next bud args H Q R
theorem S_next.mk {bud : Nat} {k : Nat} {b : List UInt8} {n : Nat} {H : List AO} {Q : QT} {R : RT} (hk : H[k]? = some (src b n)) (hb : b.length ≤ 1000) (q : Q (oct b n) (H.set k (src b (nx b n)))) : S_next bud [.obj k] H Q R := ⟨_, _, _, rfl, hk, hb, q⟩
theorem ok_next (w : World) : OK (GG w) 383 S_next := by
 refine mkOK ["len"] ["self"] 1 ⟨_, _, _, rfl⟩ rfl (by kernel_rfl) rfl (fun vs hv => by obtain ⟨a, rfl⟩ := len1 hv; rfl) ?_
 rintro c ok hn hg bud _ H Q R ⟨k, b, n, rfl, hk, hb, q⟩ hlt
 refine ⟨[_], ⟨rfl, rfl⟩, ?_⟩
 refine xCons ?_
 refine sIf ?_
 refine tCmp ?_
 refine vAttrN ?_
 refine Ev_l0 ok hn ?_
 refine Get_o co_393 ‹_› (.s .z) (.s .z) (by kernel_rfl) rfl ?_
 refine vCallN ?_
 refine Ev_gu ok hg .z b_len ?_
 refine wBi ?_
 refine aCons ?_
 refine vAttrN ?_
 refine Ev_l0 ok hn ?_
 refine Get_o co_393 ‹_› .z .z (by kernel_rfl) rfl ?_
 refine aNil ?_
 refine Cal_len_bytes (by first | exact le2 ‹_› | omega) ?_
 refine Cmp_ge_int ?_
 refine isB ?_
 refine br (fun c1 => ?_) (fun c1 => ?_)
 refine xCons ?_
 refine sRet ?_
 refine Ev_none ?_
 refine Fin.id trivial ?_
 rotate_left
 refine xNil ?_
 refine xCons ?_
 refine sSeta ?_
 refine vBin ?_
 refine vAttrN ?_
 refine Ev_l0 ok hn ?_
 refine Get_o co_393 ‹_› (.s .z) (.s .z) (by kernel_rfl) rfl ?_
 refine Ev_int ?_
 refine Bin_add ?_
 refine Ev_l0 ok hn ?_
 refine Seta_o co_393 ‹_› (by kernel_rfl) (.s .z) (by decide +kernel) (.s .z) ?_
 refine xCons ?_
 refine sRet ?_
 refine vSub ?_
 refine vAttrN ?_
 refine Ev_l0 ok hn ?_
 refine Get_o co_393 (get_set' ‹_›) .z .z (by kernel_rfl) rfl ?_
 refine vBin ?_
 refine vAttrN ?_
 refine Ev_l0 ok hn ?_
 refine Get_o co_393 (get_set' ‹_›) (.s .z) (.s .z) (by kernel_rfl) rfl ?_
 refine Ev_int ?_
 refine Bin_sub ?_
 rotate_left
 ·have h := List.getElem?_eq_none (l := b) (i := n) (by have := of_decide_eq_true c1; omega)
  rw [oct_none h, nx_none h, set_self hk] at q
  exact q
 have hlt : n < b.length := by have := of_decide_eq_false c1; omega
 have hx : b[n]? = some b[n] := List.getElem?_eq_getElem hlt
 refine Item_bytes n (by omega) (by omega) hx ?_
 rw [oct_some hx, nx_some hx] at q
 exact Fin.set (o := src b (n + 1)) trivial ⟨trivial, trivial, trivial⟩ q
inductive S_back (bud : Nat) (args : List AV) (H : List AO) (Q : QT) (R : RT) : Prop
 | c (k : Nat) (b : List UInt8) (n : Nat) (h0 : args = [.obj k]) (h1 : H[k]? = some (src b (n + 1))) (h2 : Q .none (H.set k (src b n))) : S_back bud args H Q R
theorem S_back.mk {bud : Nat} {k : Nat} {b : List UInt8} {n : Nat} {H : List AO} {Q : QT} {R : RT} (hk : H[k]? = some (src b (n + 1))) (q : Q .none (H.set k (src b n))) : S_back bud [.obj k] H Q R := ⟨_, _, _, rfl, hk, q⟩
theorem ok_back (w : World) : OK (GG w) 390 S_back := by
 refine mkOK [] ["self"] 1 ⟨_, _, _, rfl⟩ rfl (by kernel_rfl) rfl (fun vs hv => by obtain ⟨a, rfl⟩ := len1 hv; rfl) ?_
 rintro c ok hn hg bud _ H Q R ⟨k, b, n, rfl, hk, q⟩ hlt
 refine ⟨[_], ⟨rfl, rfl⟩, ?_⟩
 refine xCons ?_
 refine sSeta ?_
 refine vBin ?_
 refine vAttrN ?_
 refine Ev_l0 ok hn ?_
 refine Get_o co_393 ‹_› (.s .z) (.s .z) (by kernel_rfl) rfl ?_
 refine Ev_int ?_
 refine Bin_sub ?_
 refine Ev_l0 ok hn ?_
 refine Seta_o co_393 ‹_› (by kernel_rfl) (.s .z) (by decide +kernel) (.s .z) ?_
 refine xNil ?_
 have e : ((n + 1 : Nat) : Int) - 1 = n := by omega
 rw [e]
 exact Fin.set (o := src b n) trivial ⟨trivial, trivial, trivial⟩ q
inductive S_skipFeed (bud : Nat) (args : List AV) (H : List AO) (Q : QT) (R : RT) : Prop
 | c (b0 : Nat) (k : Nat) (b : List UInt8) (n : Nat) (h0 : bud = b0 + 1) (h1 : args = [.obj k]) (h2 : H[k]? = some (src b n)) (h3 : b.length ≤ 1000) (h4 : Q .none (H.set k (src b (feed b n)))) : S_skipFeed bud args H Q R
theorem S_skipFeed.mk {b0 : Nat} {k : Nat} {b : List UInt8} {n : Nat} {H : List AO} {Q : QT} {R : RT} (hk : H[k]? = some (src b n)) (hb : b.length ≤ 1000) (q : Q .none (H.set k (src b (feed b n)))) : S_skipFeed (b0 + 1) [.obj k] H Q R := ⟨_, _, _, _, rfl, rfl, hk, hb, q⟩
theorem ok_skipFeed (w : World) : OK (GG w) 411 S_skipFeed := by
 refine mkOK ["LINE_FEED"] ["source", "following"] 1 ⟨_, _, _, rfl⟩ rfl (by kernel_rfl) rfl (fun vs hv => by obtain ⟨a, rfl⟩ := len1 hv; rfl) ?_
 rintro c ok hn hg _ _ H Q R ⟨b0, k, b, n, rfl, rfl, hk, hb, q⟩ hlt
 refine ⟨[_, _], ⟨rfl, rfl⟩, ?_⟩
 refine xCons ?_
 refine sSet ok hn (.s .z) ?_
 refine vMeth ?_
 refine Ev_l0 ok hn ?_
 refine Meth_o co_393 ‹_› (by decide +kernel) m_393_next ?_
 refine Cw_fn0 (by kernel_rfl) ?_
 refine calFn ok (ok_next w) ?_
 refine S_next.mk ‹_› (by first | exact ‹_› | exact le2 ‹_› | omega) ?_
 refine sT1 ?_
 refine xCons ?_
 refine sIf ?_
 refine tBool ?_
 refine lAnd ?_
 refine tCmp ?_
 cases hx : b[n]? with
 | none =>
  rw [oct_none hx, nx_none hx, set_self hk]
  rw [feed, hx, if_neg (by simp), set_self hk] at q
  refine Ev_l1 ok hn ?_
  refine Ev_none ?_
  refine Cmp_isnt_none ?_
  refine isB ?_
  refine brF rfl ?_
  refine brF rfl ?_
  refine xNil ?_
  refine xNil ?_
  refine Fin.id trivial ?_
  exact q
 | some x =>
  rw [oct_some hx, nx_some hx]
  refine Ev_l1 ok hn ?_
  refine Ev_none ?_
  refine Cmp_isnt_none ?_
  refine isB ?_
  refine brT rfl ?_
  refine lAnd ?_
  refine tCmp ?_
  refine Ev_l1 ok hn ?_
  refine Ev_gi ok hg .z g_LINE_FEED ?_
  refine Cmp_ne_int ?_
  refine isB ?_
  refine br (fun c1 => ?_) (fun c1 => ?_)
  refine lAnd0 ?_
  refine brT rfl ?_
  refine xCons ?_
  refine sExpr ok ?_
  refine vMeth ?_
  refine Ev_l0 ok hn ?_
  refine Meth_o co_393 (get_set' ‹_›) (by decide +kernel) m_393_back ?_
  refine Cw_fn0 (by kernel_rfl) ?_
  refine calFn ok (ok_back w) ?_
  refine S_back.mk (get_set' ‹_›) ?_
  refine nONE ?_
  refine xNil ?_
  refine xNil ?_
  rotate_left
  refine brF rfl ?_
  refine xNil ?_
  refine xNil ?_
  rotate_left
  ·rw [List.set_set]
   refine Fin.set (o := src b n) trivial ⟨trivial, trivial, trivial⟩ ?_
   rw [feed, hx, if_neg (fun e => by cases e; cases c1)] at q
   exact q
  ·have : x = 10 := u8i (y := 10) (by simpa using c1)
   rw [feed, hx, if_pos (by rw [this])] at q
   exact Fin.set (o := src b (n + 1)) trivial ⟨trivial, trivial, trivial⟩ q
noncomputable def skip : Bool → List UInt8 → Nat
 | _, [] => 0
 | true, x :: l => if [10, 12, 13].contains x then skip false l + 1 else skip true l + 1
 | false, x :: l => if x == 37 then skip true l + 1 else if wh x then skip false l + 1 else 0
noncomputable def bg (c : Bool) (b : List UInt8) (n : Nat) : Nat := n + skip c (b.drop n)
theorem bg_none {c : Bool} {b : List UInt8} {n : Nat} (h : b[n]? = none) : bg c b n = n := by
 rw [bg, List.drop_eq_nil_of_le (List.getElem?_eq_none_iff.mp h)]
 cases c <;> rfl
theorem drop_some {b : List UInt8} {n : Nat} {x : UInt8} (h : b[n]? = some x) : b.drop n = x :: b.drop (n + 1) := by
 obtain ⟨h1, h2⟩ := List.getElem?_eq_some_iff.mp h
 rw [List.drop_eq_getElem_cons h1, h2]
theorem bg_com {b : List UInt8} {n : Nat} {x : UInt8} (h : b[n]? = some x) (e : [10, 12, 13].contains x = false) : bg true b n = bg true b (n + 1) := by
 rw [bg, bg, drop_some h, skip, if_neg (by rw [e]; decide)]; first | exact (Nat.succ_add _ _).symm | exact Nat.succ_add _ _ | omega
theorem bg_end {b : List UInt8} {n : Nat} {x : UInt8} (h : b[n]? = some x) (e : [10, 12, 13].contains x = true) : bg true b n = bg false b (n + 1) := by
 rw [bg, bg, drop_some h, skip, if_pos e]; first | exact (Nat.succ_add _ _).symm | exact Nat.succ_add _ _ | omega
theorem bg_per {b : List UInt8} {n : Nat} (h : b[n]? = some 37) : bg false b n = bg true b (n + 1) := by
 rw [bg, bg, drop_some h, skip, if_pos (by decide)]; first | exact (Nat.succ_add _ _).symm | exact Nat.succ_add _ _ | omega
theorem bg_wh {b : List UInt8} {n : Nat} {x : UInt8} (h : b[n]? = some x) (e : wh x = true) : bg false b n = bg false b (n + 1) := by
 have : (x == 37) = false := by
  cases q : x == 37 with
  | false => rfl
  | true => rw [eq_of_beq q] at e; cases e
 rw [bg, bg, drop_some h, skip, if_neg (by rw [this]; decide), if_pos e]; first | exact (Nat.succ_add _ _).symm | exact Nat.succ_add _ _ | omega
theorem bg_stop {b : List UInt8} {n : Nat} {x : UInt8} (h : b[n]? = some x) (e : wh x = false) (e' : x ≠ 37) : bg false b n = n := by
 rw [bg, drop_some h, skip, if_neg (by simpa using e'), if_neg (by rw [e]; decide)]; rfl
theorem bg_feed {b : List UInt8} {n : Nat} : bg false b (feed b n) = bg false b n := by
 unfold feed
 split
 ·rename_i h; rw [bg_wh h (by decide +kernel)]
 ·rfl
theorem feed_le {b : List UInt8} {n : Nat} (h : n ≤ b.length) : n ≤ feed b n ∧ feed b n ≤ b.length := by
 unfold feed
 split
 ·rename_i e; have := (List.getElem?_eq_some_iff.mp e).1; omega
 ·omega
theorem dec_lt {m n : Nat} (h : m < n) : n - (m + 1) < n - m := Nat.sub_lt_sub_left h (Nat.lt_succ_self m)
inductive S_line (bud : Nat) (args : List AV) (H : List AO) (Q : QT) (R : RT) : Prop
 | c (b0 : Nat) (k : Nat) (b : List UInt8) (n : Nat) (h0 : bud = b0 + 2) (h1 : args = [.obj k]) (h2 : H[k]? = some (src b n)) (h3 : b.length ≤ 1000) (h4 : n ≤ b.length) (h5 : ∀ m, n ≤ m → m ≤ b.length → bg true b n = bg false b m → Q .none (H.set k (src b m))) : S_line bud args H Q R
theorem S_line.mk {b0 : Nat} {k : Nat} {b : List UInt8} {n : Nat} {H : List AO} {Q : QT} {R : RT} (hk : H[k]? = some (src b n)) (hb : b.length ≤ 1000) (hn : n ≤ b.length) (q : ∀ m, n ≤ m → m ≤ b.length → bg true b n = bg false b m → Q .none (H.set k (src b m))) : S_line (b0 + 2) [.obj k] H Q R := ⟨_, _, _, _, rfl, rfl, hk, hb, hn, q⟩
theorem ok_line (w : World) : OK (GG w) 418 S_line := by
 refine mkOK ["is_line_end", "SCAN_FORM_FEED", "CARRIAGE_RETURN", "scan_skip_feed"] ["source", "octet"] 1 ⟨_, _, _, rfl⟩ rfl (by kernel_rfl) rfl (fun vs hv => by obtain ⟨a, rfl⟩ := len1 hv; rfl) ?_
 rintro c ok hn hg _ _ H Q R ⟨b0, k, b, n, rfl, rfl, hk, hb, hnb, q⟩ hlt
 refine ⟨[_, _], ⟨rfl, rfl⟩, ?_⟩
 refine xCons ?_
 refine sSet ok hn (.s .z) ?_
 refine vMeth ?_
 refine Ev_l0 ok hn ?_
 refine Meth_o co_393 ‹_› (by decide +kernel) m_393_next ?_
 refine Cw_fn0 (by kernel_rfl) ?_
 refine calFn ok (ok_next w) ?_
 refine S_next.mk ‹_› (by first | exact ‹_› | exact le2 ‹_› | omega) ?_
 refine sT1 ?_
 refine xCons ?_
 refine sWhile (fun f st1 => ∃ m, f = b.length - m ∧ n ≤ m ∧ m ≤ b.length ∧ bg true b n = bg true b m ∧ st1 = ⟨[.obj k, oct b m], H.set k (src b (nx b m))⟩) (b.length - n) ok ⟨n, rfl, Nat.le_refl _, hnb, rfl, rfl⟩ ?_
 rintro _ _ ⟨m, rfl, h1, h2, h3, rfl⟩
 have fs : ∀ m', n ≤ m' → m' ≤ b.length → bg true b n = bg false b m' → Fin H Q .none (H.set k (src b m')) := fun m' a1 a2 a3 => Fin.set trivial ⟨trivial, trivial, trivial⟩ (q m' a1 a2 a3)
 cases hx : b[m]? with
 | none =>
  rw [oct_none hx, nx_none hx]
  refine tBool ?_
  refine lAnd ?_
  refine tCmp ?_
  refine Ev_l1 ok hn ?_
  refine Ev_none ?_
  refine Cmp_isnt_none ?_
  refine isB ?_
  refine brF rfl ?_
  refine brF rfl ?_
  refine xCons ?_
  refine sIf ?_
  refine tCmp ?_
  refine Ev_l1 ok hn ?_
  refine Ev_gi ok hg (.s (.s .z)) g_CARRIAGE_RETURN ?_
  refine Cmp_eq_none_int ?_
  refine isB ?_
  refine brF rfl ?_
  refine xNil ?_
  refine xNil ?_
  exact fs m h1 h2 (by rw [h3, bg_none hx, bg_none hx])
 | some x =>
  have hl := (List.getElem?_eq_some_iff.mp hx).1
  rw [oct_some hx, nx_some hx]
  refine tBool ?_
  refine lAnd ?_
  refine tCmp ?_
  refine Ev_l1 ok hn ?_
  refine Ev_none ?_
  refine Cmp_isnt_none ?_
  refine isB ?_
  refine brT rfl ?_
  refine lAnd ?_
  refine tNot ?_
  refine tVal ?_
  refine vCallN ?_
  refine Ev_gr ok hg .z g_is_line_end ?_
  refine wFn (by kernel_rfl) ?_
  refine aCons ?_
  refine Ev_l1 ok hn ?_
  refine aNil ?_
  refine calFn ok (ok_lineEnd w) ?_
  refine S_lineEnd.mk ?_
  refine Tru_bool ?_
  refine br (fun c1 => ?_) (fun c1 => ?_)
  refine lAnd ?_
  refine tCmp ?_
  refine Ev_l1 ok hn ?_
  refine Ev_gi ok hg (.s .z) g_SCAN_FORM_FEED ?_
  refine Cmp_ne_int ?_
  refine isB ?_
  refine br (fun c2 => ?_) (fun c2 => ?_)
  refine lAnd0 ?_
  refine brT rfl ?_
  refine xCons ?_
  refine sSet ok hn (.s .z) ?_
  refine vMeth ?_
  refine Ev_l0 ok hn ?_
  refine Meth_o co_393 (get_set' ‹_›) (by decide +kernel) m_393_next ?_
  refine Cw_fn0 (by kernel_rfl) ?_
  refine calFn ok (ok_next w) ?_
  refine S_next.mk (get_set' ‹_›) (by first | exact ‹_› | exact le2 ‹_› | omega) ?_
  refine sT1 ?_
  refine xNil ?_
  rotate_left
  refine brF rfl ?_
  refine xCons ?_
  refine sIf ?_
  refine tCmp ?_
  refine Ev_l1 ok hn ?_
  refine Ev_gi ok hg (.s (.s .z)) g_CARRIAGE_RETURN ?_
  refine Cmp_eq_int ?_
  refine isB ?_
  refine br (fun c3 => ?_) (fun c3 => ?_)
  refine xCons ?_
  refine sExpr ok ?_
  refine vCallN ?_
  refine Ev_gr ok hg (.s (.s (.s .z))) g_scan_skip_feed ?_
  refine wFn (by kernel_rfl) ?_
  refine aCons ?_
  refine Ev_l0 ok hn ?_
  refine aNil ?_
  refine calFn ok (ok_skipFeed w) ?_
  refine S_skipFeed.mk (get_set' ‹_›) (by first | exact ‹_› | exact le2 ‹_› | omega) ?_
  refine nONE ?_
  refine xNil ?_
  refine xNil ?_
  rotate_left
  refine xNil ?_
  refine xNil ?_
  rotate_left
  refine brF rfl ?_
  refine xCons ?_
  refine sIf ?_
  refine tCmp ?_
  refine Ev_l1 ok hn ?_
  refine Ev_gi ok hg (.s (.s .z)) g_CARRIAGE_RETURN ?_
  refine Cmp_eq_int ?_
  refine isB ?_
  refine br (fun c2 => ?_) (fun c2 => ?_)
  refine xCons ?_
  refine sExpr ok ?_
  refine vCallN ?_
  refine Ev_gr ok hg (.s (.s (.s .z))) g_scan_skip_feed ?_
  refine wFn (by kernel_rfl) ?_
  refine aCons ?_
  refine Ev_l0 ok hn ?_
  refine aNil ?_
  refine calFn ok (ok_skipFeed w) ?_
  refine S_skipFeed.mk (get_set' ‹_›) (by first | exact ‹_› | exact le2 ‹_› | omega) ?_
  refine nONE ?_
  refine xNil ?_
  refine xNil ?_
  rotate_left
  refine xNil ?_
  refine xNil ?_
  rotate_left
  ·refine ⟨b.length - (m + 1), dec_lt hl, m + 1, rfl, Nat.le_succ_of_le h1, hl, ?_, by rw [List.set_set]⟩
   rw [h3, bg_com hx]
   simp at c1 c2 ⊢
   refine ⟨fun e => ?_, fun e => ?_, fun e => ?_⟩ <;> (subst e; simp at c1 c2)
  ·exfalso; simp at c2 c3; omega
  ·refine fs (m + 1) (Nat.le_succ_of_le h1) hl ?_
   rw [h3, bg_end hx]
   rw [u8i (x := x) (y := 12) (by simpa using c2)]; decide +kernel
  ·rw [List.set_set]
   have hf := feed_le (b := b) (n := m + 1) hl
   refine fs _ (Nat.le_trans (Nat.le_succ_of_le h1) hf.1) hf.2 ?_
   rw [h3, bg_end hx, bg_feed]
   rw [u8i (x := x) (y := 13) (by simpa using c2)]; decide +kernel
  ·refine fs (m + 1) (Nat.le_succ_of_le h1) hl ?_
   rw [h3, bg_end hx]
   rw [u8i (x := x) (y := 10) (by simp at c1 c2; show _ = (10 : Int); omega)]; decide +kernel
theorem u8eq {x y : UInt8} (h : ((x.toNat : Int) == (y.toNat : Int)) = true) : x = y := u8i (eq_of_beq h)
theorem u8ne {x y : UInt8} (h : ((x.toNat : Int) == (y.toNat : Int)) = false) : x ≠ y := fun e => by rw [e, beq_self_eq_true] at h; cases h
theorem bg_le {c : Bool} {b : List UInt8} {n : Nat} (h : n ≤ b.length) : n ≤ bg c b n ∧ bg c b n ≤ b.length := by
 refine ⟨Nat.le_add_right _ _, ?_⟩
 have : ∀ (l : List UInt8) (c : Bool), skip c l ≤ l.length := by
  intro l
  induction l with
  | nil => intro c; cases c <;> exact Nat.le_refl _
  | cons x l ih =>
   intro c
   have h1 := ih true
   have h2 := ih false
   cases c <;> (unfold skip; simp only [List.length_cons]; repeat' split) <;> omega
 have := this (b.drop n) c
 rw [List.length_drop] at this
 unfold bg; omega
inductive S_first (bud : Nat) (args : List AV) (H : List AO) (Q : QT) (R : RT) : Prop
 | c (b0 : Nat) (k : Nat) (b : List UInt8) (n : Nat) (h0 : bud = b0 + 3) (h1 : args = [.obj k]) (h2 : H[k]? = some (src b n)) (h3 : b.length ≤ 1000) (h4 : n ≤ b.length) (h5 : Q (oct b (bg false b n)) (H.set k (src b (nx b (bg false b n))))) : S_first bud args H Q R
theorem S_first.mk {b0 : Nat} {k : Nat} {b : List UInt8} {n : Nat} {H : List AO} {Q : QT} {R : RT} (hk : H[k]? = some (src b n)) (hb : b.length ≤ 1000) (hn : n ≤ b.length) (q : Q (oct b (bg false b n)) (H.set k (src b (nx b (bg false b n))))) : S_first (b0 + 3) [.obj k] H Q R := ⟨_, _, _, _, rfl, rfl, hk, hb, hn, q⟩
theorem ok_first (w : World) : OK (GG w) 425 S_first := by
 refine mkOK ["SCAN_PERCENT", "scan_line", "is_blank"] ["source", "octet"] 1 ⟨_, _, _, rfl⟩ rfl (by kernel_rfl) rfl (fun vs hv => by obtain ⟨a, rfl⟩ := len1 hv; rfl) ?_
 rintro c ok hn hg _ _ H Q R ⟨b0, k, b, n, rfl, rfl, hk, hb, hnb, q⟩ hlt
 refine ⟨[_, _], ⟨rfl, rfl⟩, ?_⟩
 refine xCons ?_
 refine sSet ok hn (.s .z) ?_
 refine vMeth ?_
 refine Ev_l0 ok hn ?_
 refine Meth_o co_393 ‹_› (by decide +kernel) m_393_next ?_
 refine Cw_fn0 (by kernel_rfl) ?_
 refine calFn ok (ok_next w) ?_
 refine S_next.mk ‹_› (by first | exact ‹_› | exact le2 ‹_› | omega) ?_
 refine sT1 ?_
 refine xCons ?_
 refine sWhile (fun f st1 => ∃ m, f = b.length - m ∧ m ≤ b.length ∧ bg false b n = bg false b m ∧ st1 = ⟨[.obj k, oct b m], H.set k (src b (nx b m))⟩) (b.length - n) ok ⟨n, rfl, hnb, rfl, rfl⟩ ?_
 rintro _ _ ⟨m, rfl, h2, h3, rfl⟩
 rw [h3] at q
 cases hx : b[m]? with
 | none =>
  rw [bg_none hx, oct_none hx, nx_none hx] at q
  rw [oct_none hx, nx_none hx]
  refine tCmp ?_
  refine Ev_l1 ok hn ?_
  refine Ev_none ?_
  refine Cmp_isnt_none ?_
  refine isB ?_
  refine brF rfl ?_
  refine xCons ?_
  refine sRet ?_
  refine Ev_none ?_
  exact Fin.set trivial ⟨trivial, trivial, trivial⟩ q
 | some x =>
  have hl := (List.getElem?_eq_some_iff.mp hx).1
  rw [oct_some hx, nx_some hx]
  refine tCmp ?_
  refine Ev_l1 ok hn ?_
  refine Ev_none ?_
  refine Cmp_isnt_none ?_
  refine isB ?_
  refine brT rfl ?_
  refine xCons ?_
  refine sIf ?_
  refine tCmp ?_
  refine Ev_l1 ok hn ?_
  refine Ev_gi ok hg .z g_SCAN_PERCENT ?_
  refine Cmp_eq_int ?_
  refine isB ?_
  refine br (fun c1 => ?_) (fun c1 => ?_)
  refine xCons ?_
  refine sExpr ok ?_
  refine vCallN ?_
  refine Ev_gr ok hg (.s .z) g_scan_line ?_
  refine wFn (by kernel_rfl) ?_
  refine aCons ?_
  refine Ev_l0 ok hn ?_
  refine aNil ?_
  refine calFn ok (ok_line w) ?_
  refine S_line.mk (get_set' ‹_›) (by first | exact ‹_› | exact le2 ‹_› | omega) (by first | exact ‹_› | exact le2 ‹_› | omega) ?_
  rotate_left
  refine xCons ?_
  refine sIf ?_
  refine tNot ?_
  refine tVal ?_
  refine vCallN ?_
  refine Ev_gr ok hg (.s (.s .z)) g_is_blank ?_
  refine wFn (by kernel_rfl) ?_
  refine aCons ?_
  refine Ev_l1 ok hn ?_
  refine aNil ?_
  refine calFn ok (ok_isBlank w) ?_
  refine S_isBlank.mk ?_
  refine Tru_bool ?_
  refine br (fun c2 => ?_) (fun c2 => ?_)
  refine xCons ?_
  refine sRet ?_
  refine Ev_l1 ok hn ?_
  rotate_left
  refine xNil ?_
  refine xNil ?_
  refine xCons ?_
  refine sSet ok hn (.s .z) ?_
  refine vMeth ?_
  refine Ev_l0 ok hn ?_
  refine Meth_o co_393 (get_set' ‹_›) (by decide +kernel) m_393_next ?_
  refine Cw_fn0 (by kernel_rfl) ?_
  refine calFn ok (ok_next w) ?_
  refine S_next.mk (get_set' ‹_›) (by first | exact ‹_› | exact le2 ‹_› | omega) ?_
  refine sT1 ?_
  refine xNil ?_
  rotate_left
  ·intro m' a1 a2 a3
   refine nONE ?_
   refine xNil ?_
   refine xCons ?_
   refine sSet ok hn (.s .z) ?_
   refine vMeth ?_
   refine Ev_l0 ok hn ?_
   refine Meth_o co_393 (get_set' (get_set' ‹_›)) (by decide +kernel) m_393_next ?_
   refine Cw_fn0 (by kernel_rfl) ?_
   refine calFn ok (ok_next w) ?_
   refine S_next.mk (get_set' (get_set' ‹_›)) (by first | exact ‹_› | exact le2 ‹_› | omega) ?_
   refine sT1 ?_
   refine xNil ?_
   refine ⟨b.length - m', Nat.sub_lt_sub_left hl a1, m', rfl, a2, ?_, by rw [List.set_set, List.set_set]⟩
   rw [h3, ← a3, bg_per (by rw [hx, u8eq (y := 37) c1])]
  ·have c3 : wh x = false := (Bool.not_eq_true' _).mp c2
   rw [bg_stop hx c3 (u8ne (y := 37) c1), oct_some hx, nx_some hx] at q
   exact Fin.set trivial ⟨trivial, trivial, trivial⟩ q
  ·have c3 : wh x = true := (Bool.not_eq_false' (b := wh x)).mp c2
   exact ⟨b.length - (m + 1), dec_lt hl, m + 1, rfl, hl, by rw [h3, bg_wh hx c3], by rw [List.set_set]⟩
noncomputable abbrev rg (x : UInt8) : Bool := !wh x && !dl x
noncomputable def run (b : List UInt8) (n : Nat) : Nat := n + ((b.drop n).takeWhile rg).length
theorem run_none {b : List UInt8} {n : Nat} (h : b[n]? = none) : run b n = n := by
 rw [run, List.drop_eq_nil_of_le (List.getElem?_eq_none_iff.mp h)]; rfl
theorem run_on {b : List UInt8} {n : Nat} {x : UInt8} (h : b[n]? = some x) (e : rg x = true) : run b n = run b (n + 1) := by
 rw [run, run, drop_some h, List.takeWhile_cons, if_pos e, List.length_cons]; first | exact (Nat.succ_add _ _).symm | exact Nat.succ_add _ _ | omega
theorem run_off {b : List UInt8} {n : Nat} {x : UInt8} (h : b[n]? = some x) (e : rg x = false) : run b n = n := by
 rw [run, drop_some h, List.takeWhile_cons, if_neg (by rw [e]; decide)]; rfl
noncomputable def bh (b : List UInt8) (n : Nat) : Nat := match b[n]? with
 | none => n
 | some x => if wh x then (if x = 13 then feed b (n + 1) else n + 1) else n
theorem bh_none {b : List UInt8} {n : Nat} (h : b[n]? = none) : bh b n = n := by rw [bh, h]
theorem bh_dl {b : List UInt8} {n : Nat} {x : UInt8} (h : b[n]? = some x) (e : wh x = false) : bh b n = n := by rw [bh, h]; exact if_neg (by rw [e]; decide)
theorem bh_13 {b : List UInt8} {n : Nat} (h : b[n]? = some 13) : bh b n = feed b (n + 1) := by rw [bh, h]; rfl
theorem bh_wh {b : List UInt8} {n : Nat} {x : UInt8} (h : b[n]? = some x) (e : wh x = true) (e' : x ≠ 13) : bh b n = n + 1 := by rw [bh, h]; exact (if_pos e).trans (if_neg e')
theorem dl_wh {x : UInt8} (h : dl x = true) : wh x = false := by
 have := u8all (p := fun x => !([40, 41, 60, 62, 91, 93, 123, 125, 47, 37].contains x) || !([0, 4, 9, 10, 12, 13, 32].contains x)) (by decide +kernel) x
 rw [show [40, 41, 60, 62, 91, 93, 123, 125, 47, 37].contains x = true from h] at this; simpa using this
theorem nB {b : Bool} (h : (!b) = true) : b = false := (Bool.not_eq_true' b).mp h
theorem nF {b : Bool} (h : (!b) = false) : b = true := (Bool.not_eq_false' (b := b)).mp h
noncomputable def seg (b : List UInt8) (n m : Nat) : List UInt8 := (b.drop n).take (m - n)
theorem seg_self {b : List UInt8} {n : Nat} : seg b n n = [] := by rw [seg, Nat.sub_self, List.take_zero]
theorem seg_snoc {b : List UInt8} {n m : Nat} {x : UInt8} (h : b[m]? = some x) (e : n ≤ m) : seg b n (m + 1) = seg b n m ++ [x] := by
 unfold seg
 rw [show m + 1 - n = (m - n) + 1 from Nat.succ_sub e, List.take_add_one, List.getElem?_drop, show n + (m - n) = m from Nat.add_sub_of_le e, h]
 rfl
theorem seg_len {b : List UInt8} {n m : Nat} (h : m ≤ b.length) : (seg b n m).length ≤ b.length := by
 unfold seg
 exact Nat.le_trans (List.length_take_le' _ _) (by rw [List.length_drop]; exact Nat.sub_le _ _)
inductive S_word (bud : Nat) (args : List AV) (H : List AO) (Q : QT) (R : RT) : Prop
 | c (b0 : Nat) (k : Nat) (b : List UInt8) (n : Nat) (h0 : bud = b0 + 3) (h1 : args = [.obj k]) (h2 : H[k]? = some (src b n)) (h3 : b.length ≤ 1000) (h4 : n ≤ b.length) (h5 : Q (.bytes (seg b n (run b n))) (H.set k (src b (bh b (run b n))))) : S_word bud args H Q R
theorem S_word.mk {b0 : Nat} {k : Nat} {b : List UInt8} {n : Nat} {H : List AO} {Q : QT} {R : RT} (hk : H[k]? = some (src b n)) (hb : b.length ≤ 1000) (hn : n ≤ b.length) (q : Q (.bytes (seg b n (run b n))) (H.set k (src b (bh b (run b n))))) : S_word (b0 + 3) [.obj k] H Q R := ⟨_, _, _, _, rfl, rfl, hk, hb, hn, q⟩
theorem ok_word (w : World) : OK (GG w) 432 S_word := by
 refine mkOK ["bytearray", "is_blank", "is_delimiter", "bytes", "CARRIAGE_RETURN", "scan_skip_feed"] ["source", "found", "octet"] 1 ⟨_, _, _, rfl⟩ rfl (by kernel_rfl) rfl (fun vs hv => by obtain ⟨a, rfl⟩ := len1 hv; rfl) ?_
 rintro c ok hn hg _ _ H Q R ⟨b0, k, b, n, rfl, rfl, hk, hb, hnb, q⟩ hlt
 refine ⟨[_, _, _], ⟨rfl, rfl⟩, ?_⟩
 refine xCons ?_
 refine sSet ok hn (.s .z) ?_
 refine vCallN ?_
 refine Ev_gu ok hg .z b_bytearray ?_
 refine Cw_ty0 ?_
 refine cBarr rfl ?_
 refine sT1 ?_
 refine xCons ?_
 refine sSet ok hn (.s (.s .z)) ?_
 refine vMeth ?_
 refine Ev_l0 ok hn ?_
 refine Meth_o co_393 (get_app ‹_›) (by decide +kernel) m_393_next ?_
 refine Cw_fn0 (by kernel_rfl) ?_
 refine calFn ok (ok_next w) ?_
 refine S_next.mk (get_app ‹_›) (by first | exact ‹_› | exact le2 ‹_› | omega) ?_
 refine sT2 ?_
 refine xCons ?_
 have hkl : H.length ≠ k := fun e => by rw [← e] at hk; simp at hk
 have hkl' := hkl.symm
 refine sWhile (fun f st1 => ∃ m, f = b.length - m ∧ n ≤ m ∧ m ≤ b.length ∧ run b n = run b m ∧ st1 = ⟨[.obj k, .obj H.length, oct b m], H.set k (src b (nx b m)) ++ [.barr (seg b n m)]⟩) (b.length - n) ok ⟨n, rfl, Nat.le_refl _, hnb, rfl, by rw [seg_self, List.set_append_left _ _ (lt_of_get hk)]⟩ ?_
 rintro _ _ ⟨m, rfl, h1, h2, h3, rfl⟩
 rw [h3] at q
 have hs := Nat.le_trans (seg_len (n := n) h2) hb
 have hlen : ∀ m', H.length = (H.set k (src b m')).length := fun m' => List.length_set.symm
 have hsrc : ∀ m' y, (H.set k (src b m') ++ [AO.barr y])[k]? = some (src b m') := fun m' y => get_app (get_set (lt_of_get hk))
 have hset : ∀ m' m'' y, (H.set k (src b m') ++ [AO.barr y]).set k (src b m'') = H.set k (src b m'') ++ [AO.barr y] := fun m' m'' y => by rw [List.set_append_left _ _ (by rw [List.length_set]; exact lt_of_get hk), List.set_set]
 have hbar : ∀ m' y, (H.set k (src b m') ++ [AO.barr y])[H.length]? = some (.barr y) := fun m' y => by rw [hlen m']; exact get_end
 have hbst : ∀ m' y z, (H.set k (src b m') ++ [AO.barr y]).set H.length (.barr z) = H.set k (src b m') ++ [AO.barr z] := fun m' y z => by rw [hlen m']; simp
 cases hx : b[m]? with
 | none =>
  rw [run_none hx] at q
  rw [oct_none hx, nx_none hx]
  have a1 := hbar m (seg b n m)
  refine tBool ?_
  refine lAnd ?_
  refine tCmp ?_
  refine Ev_l2 ok hn ?_
  refine Ev_none ?_
  refine Cmp_isnt_none ?_
  refine isB ?_
  refine brF rfl ?_
  refine brF rfl ?_
  refine xCons ?_
  refine sIf ?_
  refine tCmp ?_
  refine Ev_l2 ok hn ?_
  refine Ev_none ?_
  refine Cmp_is_none ?_
  refine isB ?_
  refine brT rfl ?_
  refine xCons ?_
  refine sRet ?_
  refine vCallN ?_
  refine Ev_gu ok hg (.s (.s (.s .z))) b_bytes ?_
  refine wTy ?_
  refine aCons ?_
  refine Ev_l1 ok hn ?_
  refine aNil ?_
  refine Cal_bytes_barr ‹_› (by first | exact ‹_› | exact le2 ‹_› | omega) ?_
  rw [bh_none hx] at q
  exact Fin.setx trivial ⟨trivial, trivial, trivial⟩ q
 | some x =>
  have hl := (List.getElem?_eq_some_iff.mp hx).1
  rw [oct_some hx, nx_some hx]
  have a1 := hbar (m + 1) (seg b n m)
  refine tBool ?_
  refine lAnd ?_
  refine tCmp ?_
  refine Ev_l2 ok hn ?_
  refine Ev_none ?_
  refine Cmp_isnt_none ?_
  refine isB ?_
  refine brT rfl ?_
  refine lAnd ?_
  refine tNot ?_
  refine tVal ?_
  refine vCallN ?_
  refine Ev_gr ok hg (.s .z) g_is_blank ?_
  refine wFn (by kernel_rfl) ?_
  refine aCons ?_
  refine Ev_l2 ok hn ?_
  refine aNil ?_
  refine calFn ok (ok_isBlank w) ?_
  refine S_isBlank.mk ?_
  refine Tru_bool ?_
  refine br (fun c1 => ?_) (fun c1 => ?_)
  refine lAnd ?_
  refine tNot ?_
  refine tVal ?_
  refine vCallN ?_
  refine Ev_gr ok hg (.s (.s .z)) g_is_delimiter ?_
  refine wFn (by kernel_rfl) ?_
  refine aCons ?_
  refine Ev_l2 ok hn ?_
  refine aNil ?_
  refine calFn ok (ok_isDelim w) ?_
  refine S_isDelim.mk ?_
  refine Tru_bool ?_
  refine br (fun c2 => ?_) (fun c2 => ?_)
  refine lAnd0 ?_
  refine brT rfl ?_
  refine xCons ?_
  refine sExpr ok ?_
  refine vMeth ?_
  refine Ev_l1 ok hn ?_
  refine Meth_bappend ‹_› ?_
  refine wBi ?_
  refine aCons ?_
  refine Ev_l2 ok hn ?_
  refine aNil ?_
  refine cBappend rfl ‹_› (by first | exact ‹_› | exact le2 ‹_› | omega) ?_
  refine nONE ?_
  refine xCons ?_
  refine sSet ok hn (.s (.s .z)) ?_
  refine vMeth ?_
  refine Ev_l0 ok hn ?_
  refine Meth_o co_393 (get_ne ‹_› (get_app (get_set' ‹_›))) (by decide +kernel) m_393_next ?_
  refine Cw_fn0 (by kernel_rfl) ?_
  refine calFn ok (ok_next w) ?_
  refine S_next.mk (get_ne ‹_› (get_app (get_set' ‹_›))) (by first | exact ‹_› | exact le2 ‹_› | omega) ?_
  refine sT2 ?_
  refine xNil ?_
  rotate_left
  refine brF rfl ?_
  refine xCons ?_
  refine sIf ?_
  refine tCmp ?_
  refine Ev_l2 ok hn ?_
  refine Ev_none ?_
  refine Cmp_is_none ?_
  refine isB ?_
  refine brF rfl ?_
  refine xNil ?_
  refine xCons ?_
  refine sIf ?_
  refine tVal ?_
  refine vCallN ?_
  refine Ev_gr ok hg (.s (.s .z)) g_is_delimiter ?_
  refine wFn (by kernel_rfl) ?_
  refine aCons ?_
  refine Ev_l2 ok hn ?_
  refine aNil ?_
  refine calFn ok (ok_isDelim w) ?_
  refine S_isDelim.mk ?_
  refine Tru_bool ?_
  refine br (fun c3 => ?_) (fun c3 => ?_)
  refine xCons ?_
  refine sExpr ok ?_
  refine vMeth ?_
  refine Ev_l0 ok hn ?_
  refine Meth_o co_393 (get_app (get_set' ‹_›)) (by decide +kernel) m_393_back ?_
  refine Cw_fn0 (by kernel_rfl) ?_
  refine calFn ok (ok_back w) ?_
  refine S_back.mk (get_app (get_set' ‹_›)) ?_
  refine nONE ?_
  refine xNil ?_
  refine xCons ?_
  refine sRet ?_
  refine vCallN ?_
  refine Ev_gu ok hg (.s (.s (.s .z))) b_bytes ?_
  refine wTy ?_
  refine aCons ?_
  refine Ev_l1 ok hn ?_
  refine aNil ?_
  refine Cal_bytes_barr (get_ne ‹_› ‹_›) (by first | exact ‹_› | exact le2 ‹_› | omega) ?_
  rotate_left
  refine xCons ?_
  refine sIf ?_
  refine tCmp ?_
  refine Ev_l2 ok hn ?_
  refine Ev_gi ok hg (.s (.s (.s (.s .z)))) g_CARRIAGE_RETURN ?_
  refine Cmp_eq_int ?_
  refine isB ?_
  refine br (fun c4 => ?_) (fun c4 => ?_)
  refine xCons ?_
  refine sExpr ok ?_
  refine vCallN ?_
  refine Ev_gr ok hg (.s (.s (.s (.s (.s .z))))) g_scan_skip_feed ?_
  refine wFn (by kernel_rfl) ?_
  refine aCons ?_
  refine Ev_l0 ok hn ?_
  refine aNil ?_
  refine calFn ok (ok_skipFeed w) ?_
  refine S_skipFeed.mk (get_app (get_set' ‹_›)) (by first | exact ‹_› | exact le2 ‹_› | omega) ?_
  refine nONE ?_
  refine xNil ?_
  refine xNil ?_
  refine xCons ?_
  refine sRet ?_
  refine vCallN ?_
  refine Ev_gu ok hg (.s (.s (.s .z))) b_bytes ?_
  refine wTy ?_
  refine aCons ?_
  refine Ev_l1 ok hn ?_
  refine aNil ?_
  refine Cal_bytes_barr (get_ne ‹_› ‹_›) (by first | exact ‹_› | exact le2 ‹_› | omega) ?_
  rotate_left
  refine xNil ?_
  refine xNil ?_
  refine xCons ?_
  refine sRet ?_
  refine vCallN ?_
  refine Ev_gu ok hg (.s (.s (.s .z))) b_bytes ?_
  refine wTy ?_
  refine aCons ?_
  refine Ev_l1 ok hn ?_
  refine aNil ?_
  refine Cal_bytes_barr ‹_› (by first | exact ‹_› | exact le2 ‹_› | omega) ?_
  rotate_left
  refine brF rfl ?_
  refine xCons ?_
  refine sIf ?_
  refine tCmp ?_
  refine Ev_l2 ok hn ?_
  refine Ev_none ?_
  refine Cmp_is_none ?_
  refine isB ?_
  refine brF rfl ?_
  refine xNil ?_
  refine xCons ?_
  refine sIf ?_
  refine tVal ?_
  refine vCallN ?_
  refine Ev_gr ok hg (.s (.s .z)) g_is_delimiter ?_
  refine wFn (by kernel_rfl) ?_
  refine aCons ?_
  refine Ev_l2 ok hn ?_
  refine aNil ?_
  refine calFn ok (ok_isDelim w) ?_
  refine S_isDelim.mk ?_
  refine Tru_bool ?_
  refine br (fun c2 => ?_) (fun c2 => ?_)
  refine xCons ?_
  refine sExpr ok ?_
  refine vMeth ?_
  refine Ev_l0 ok hn ?_
  refine Meth_o co_393 (get_app (get_set' ‹_›)) (by decide +kernel) m_393_back ?_
  refine Cw_fn0 (by kernel_rfl) ?_
  refine calFn ok (ok_back w) ?_
  refine S_back.mk (get_app (get_set' ‹_›)) ?_
  refine nONE ?_
  refine xNil ?_
  refine xCons ?_
  refine sRet ?_
  refine vCallN ?_
  refine Ev_gu ok hg (.s (.s (.s .z))) b_bytes ?_
  refine wTy ?_
  refine aCons ?_
  refine Ev_l1 ok hn ?_
  refine aNil ?_
  refine Cal_bytes_barr (get_ne ‹_› ‹_›) (by first | exact ‹_› | exact le2 ‹_› | omega) ?_
  rotate_left
  refine xCons ?_
  refine sIf ?_
  refine tCmp ?_
  refine Ev_l2 ok hn ?_
  refine Ev_gi ok hg (.s (.s (.s (.s .z)))) g_CARRIAGE_RETURN ?_
  refine Cmp_eq_int ?_
  refine isB ?_
  refine br (fun c3 => ?_) (fun c3 => ?_)
  refine xCons ?_
  refine sExpr ok ?_
  refine vCallN ?_
  refine Ev_gr ok hg (.s (.s (.s (.s (.s .z))))) g_scan_skip_feed ?_
  refine wFn (by kernel_rfl) ?_
  refine aCons ?_
  refine Ev_l0 ok hn ?_
  refine aNil ?_
  refine calFn ok (ok_skipFeed w) ?_
  refine S_skipFeed.mk (get_app (get_set' ‹_›)) (by first | exact ‹_› | exact le2 ‹_› | omega) ?_
  refine nONE ?_
  refine xNil ?_
  refine xNil ?_
  refine xCons ?_
  refine sRet ?_
  refine vCallN ?_
  refine Ev_gu ok hg (.s (.s (.s .z))) b_bytes ?_
  refine wTy ?_
  refine aCons ?_
  refine Ev_l1 ok hn ?_
  refine aNil ?_
  refine Cal_bytes_barr (get_ne ‹_› ‹_›) (by first | exact ‹_› | exact le2 ‹_› | omega) ?_
  rotate_left
  refine xNil ?_
  refine xNil ?_
  refine xCons ?_
  refine sRet ?_
  refine vCallN ?_
  refine Ev_gu ok hg (.s (.s (.s .z))) b_bytes ?_
  refine wTy ?_
  refine aCons ?_
  refine Ev_l1 ok hn ?_
  refine aNil ?_
  refine Cal_bytes_barr ‹_› (by first | exact ‹_› | exact le2 ‹_› | omega) ?_
  rotate_left
  ·have e : rg x = true := by show (!wh x && !dl x) = true; rw [c1, c2]; rfl
   refine ⟨b.length - (m + 1), dec_lt hl, m + 1, rfl, Nat.le_succ_of_le h1, hl, by rw [h3, run_on hx e], ?_⟩
   show St.mk _ _ = _
   rw [hbst, hset, ← seg_snoc hx h1]
  ·have e : rg x = false := by show (!wh x && !dl x) = false; rw [c2, Bool.and_false]
   rw [run_off hx e, bh_dl hx (nB c1)] at q
   show Fin H Q _ (List.set _ _ _)
   rw [hset]
   exact Fin.setx trivial ⟨trivial, trivial, trivial⟩ q
  ·exact noT c3 (nF c2)
  ·exact noT c3 (nF c2)
  ·exact noT (dl_wh c2) (nF c1)
  ·have e : rg x = false := by show (!wh x && !dl x) = false; rw [c1, Bool.false_and]
   have ex := u8eq (y := 13) c3
   subst ex
   rw [run_off hx e, bh_13 hx] at q
   show Fin H Q _ (List.set _ _ _)
   rw [hset]
   exact Fin.setx trivial ⟨trivial, trivial, trivial⟩ q
  ·have e : rg x = false := by show (!wh x && !dl x) = false; rw [c1, Bool.false_and]
   rw [run_off hx e, bh_wh hx (nF c1) (u8ne (y := 13) c3)] at q
   exact Fin.setx trivial ⟨trivial, trivial, trivial⟩ q
noncomputable abbrev tN : List Str := ["kind", "value", "is_exec", "access"]
noncomputable abbrev thing (k v x a : AV) : AV := .ins 205 tN [k, v, x, a]
noncomputable abbrev sN : List Str := ["body", "start", "many"]
noncomputable abbrev rN : List Str := ["number", "things", "is_global", "level"]
inductive S_thing2 (bud : Nat) (args : List AV) (H : List AO) (Q : QT) (R : RT) : Prop
 | c (k : Nat) (a b : AV) (h0 : args = [.obj k, a, b]) (h1 : H[k]? = some (.inst 205 [] [])) (h2 : a.isUn = false) (h3 : b.isUn = false) (h4 : Q .none (H.set k (.inst 205 tN [a, b, .bool false, .int 3]))) : S_thing2 bud args H Q R
theorem S_thing2.mk {bud : Nat} {k : Nat} {a b : AV} {H : List AO} {Q : QT} {R : RT} (hk : H[k]? = some (.inst 205 [] [])) (ha : a.isUn = false) (hb : b.isUn = false) (q : Q .none (H.set k (.inst 205 tN [a, b, .bool false, .int 3]))) : S_thing2 bud [.obj k, a, b] H Q R := ⟨_, _, _, rfl, hk, ha, hb, q⟩
theorem ok_thing2 (w : World) : OK (GP anyP w) 202 S_thing2 := by
 refine mkOKd [] ["self", "kind", "value", "is_exec", "access"] 5 3 [.bool false, .int 3] [.bool false, .int 3 450] ⟨_, _, _, rfl⟩ rfl (by kernel_rfl) (fun _ _ => CVs.cons (by simp [CV]) (CVs.one (by simp [CV]))) rfl (T := 195) (its := [.bool false, .int 3 450]) (m := 0) (by kernel_rfl) rfl (fun vs hv => by obtain ⟨a, b, d, rfl⟩ := len3 hv; exact ⟨_, rfl, rfl⟩) ?_
 rintro c ok hn hg _ _ H Q R ⟨k, a, b, rfl, hk, ha, hb, q⟩ hlt
 refine ⟨[_, _, _, _, _], ⟨rfl, rfl⟩, ?_⟩
 refine xCons ?_
 refine sSeta ?_
 refine Ev_l1 ok hn ?_ ‹_›
 refine Ev_l0 ok hn ?_
 refine Seta_n co_205 ‹_› (by kernel_rfl) (by decide +kernel) ?_
 refine xCons ?_
 refine sSeta ?_
 refine Ev_l2 ok hn ?_ ‹_›
 refine Ev_l0 ok hn ?_
 refine Seta_n co_205 (get_set' ‹_›) (by kernel_rfl) (by decide +kernel) ?_
 refine xCons ?_
 refine sSeta ?_
 refine Ev_l3 ok hn ?_
 refine Ev_l0 ok hn ?_
 refine Seta_n co_205 (get_set' (get_set' ‹_›)) (by kernel_rfl) (by decide +kernel) ?_
 refine xCons ?_
 refine sSeta ?_
 refine Ev_l4 ok hn ?_
 refine Ev_l0 ok hn ?_
 refine Seta_n co_205 (get_set' (get_set' (get_set' ‹_›))) (by kernel_rfl) (by decide +kernel) ?_
 refine xNil ?_
 show Fin H Q _ (List.set (List.set (List.set (List.set H k _) k _) k _) k _)
 rw [List.set_set, List.set_set, List.set_set]
 exact Fin.set trivial ⟨hlt.2.1, hlt.2.2.1, trivial, trivial, trivial⟩ q
inductive S_thing3 (bud : Nat) (args : List AV) (H : List AO) (Q : QT) (R : RT) : Prop
 | c (k : Nat) (a b d : AV) (h0 : args = [.obj k, a, b, d]) (h1 : H[k]? = some (.inst 205 [] [])) (h2 : a.isUn = false) (h3 : b.isUn = false) (h4 : d.isUn = false) (h5 : Q .none (H.set k (.inst 205 tN [a, b, d, .int 3]))) : S_thing3 bud args H Q R
theorem S_thing3.mk {bud : Nat} {k : Nat} {a b d : AV} {H : List AO} {Q : QT} {R : RT} (hk : H[k]? = some (.inst 205 [] [])) (ha : a.isUn = false) (hb : b.isUn = false) (hd : d.isUn = false) (q : Q .none (H.set k (.inst 205 tN [a, b, d, .int 3]))) : S_thing3 bud [.obj k, a, b, d] H Q R := ⟨_, _, _, _, rfl, hk, ha, hb, hd, q⟩
theorem ok_thing3 (w : World) : OK (GP anyP w) 202 S_thing3 := by
 refine mkOKd [] ["self", "kind", "value", "is_exec", "access"] 5 4 [.int 3] [.int 3 450] ⟨_, _, _, rfl⟩ rfl (by kernel_rfl) (fun _ _ => CVs.one (by simp [CV])) rfl (T := 195) (its := [.bool false, .int 3 450]) (m := 0) (by kernel_rfl) rfl (fun vs hv => by obtain ⟨a, b, d, e, rfl⟩ := len4 hv; exact ⟨_, rfl, rfl⟩) ?_
 rintro c ok hn hg _ _ H Q R ⟨k, a, b, d, rfl, hk, ha, hb, hd, q⟩ hlt
 refine ⟨[_, _, _, _, _], ⟨rfl, rfl⟩, ?_⟩
 refine xCons ?_
 refine sSeta ?_
 refine Ev_l1 ok hn ?_ ‹_›
 refine Ev_l0 ok hn ?_
 refine Seta_n co_205 ‹_› (by kernel_rfl) (by decide +kernel) ?_
 refine xCons ?_
 refine sSeta ?_
 refine Ev_l2 ok hn ?_ ‹_›
 refine Ev_l0 ok hn ?_
 refine Seta_n co_205 (get_set' ‹_›) (by kernel_rfl) (by decide +kernel) ?_
 refine xCons ?_
 refine sSeta ?_
 refine Ev_l3 ok hn ?_ ‹_›
 refine Ev_l0 ok hn ?_
 refine Seta_n co_205 (get_set' (get_set' ‹_›)) (by kernel_rfl) (by decide +kernel) ?_
 refine xCons ?_
 refine sSeta ?_
 refine Ev_l4 ok hn ?_
 refine Ev_l0 ok hn ?_
 refine Seta_n co_205 (get_set' (get_set' (get_set' ‹_›))) (by kernel_rfl) (by decide +kernel) ?_
 refine xNil ?_
 show Fin H Q _ (List.set (List.set (List.set (List.set H k _) k _) k _) k _)
 rw [List.set_set, List.set_set, List.set_set]
 exact Fin.set trivial ⟨hlt.2.1, hlt.2.2.1, hlt.2.2.2.1, trivial, trivial⟩ q
inductive S_thing4 (bud : Nat) (args : List AV) (H : List AO) (Q : QT) (R : RT) : Prop
 | c (k : Nat) (a b d e : AV) (h0 : args = [.obj k, a, b, d, e]) (h1 : H[k]? = some (.inst 205 [] [])) (h2 : a.isUn = false) (h3 : b.isUn = false) (h4 : d.isUn = false) (h5 : e.isUn = false) (h6 : Q .none (H.set k (.inst 205 tN [a, b, d, e]))) : S_thing4 bud args H Q R
theorem S_thing4.mk {bud : Nat} {k : Nat} {a b d e : AV} {H : List AO} {Q : QT} {R : RT} (hk : H[k]? = some (.inst 205 [] [])) (ha : a.isUn = false) (hb : b.isUn = false) (hd : d.isUn = false) (he : e.isUn = false) (q : Q .none (H.set k (.inst 205 tN [a, b, d, e]))) : S_thing4 bud [.obj k, a, b, d, e] H Q R := ⟨_, _, _, _, _, rfl, hk, ha, hb, hd, he, q⟩
theorem ok_thing4 (w : World) : OK (GP anyP w) 202 S_thing4 := by
 refine mkOKd [] ["self", "kind", "value", "is_exec", "access"] 5 5 [] [] ⟨_, _, _, rfl⟩ rfl (by kernel_rfl) (fun _ _ => CVs.nil) rfl (T := 195) (its := [.bool false, .int 3 450]) (m := 0) (by kernel_rfl) rfl (fun vs hv => by obtain ⟨a, b, d, e, f, rfl⟩ := len5 hv; exact ⟨_, rfl, rfl⟩) ?_
 rintro c ok hn hg _ _ H Q R ⟨k, a, b, d, e, rfl, hk, ha, hb, hd, he, q⟩ hlt
 refine ⟨[_, _, _, _, _], ⟨rfl, rfl⟩, ?_⟩
 refine xCons ?_
 refine sSeta ?_
 refine Ev_l1 ok hn ?_ ‹_›
 refine Ev_l0 ok hn ?_
 refine Seta_n co_205 ‹_› (by kernel_rfl) (by decide +kernel) ?_
 refine xCons ?_
 refine sSeta ?_
 refine Ev_l2 ok hn ?_ ‹_›
 refine Ev_l0 ok hn ?_
 refine Seta_n co_205 (get_set' ‹_›) (by kernel_rfl) (by decide +kernel) ?_
 refine xCons ?_
 refine sSeta ?_
 refine Ev_l3 ok hn ?_ ‹_›
 refine Ev_l0 ok hn ?_
 refine Seta_n co_205 (get_set' (get_set' ‹_›)) (by kernel_rfl) (by decide +kernel) ?_
 refine xCons ?_
 refine sSeta ?_
 refine Ev_l4 ok hn ?_ ‹_›
 refine Ev_l0 ok hn ?_
 refine Seta_n co_205 (get_set' (get_set' (get_set' ‹_›))) (by kernel_rfl) (by decide +kernel) ?_
 refine xNil ?_
 show Fin H Q _ (List.set (List.set (List.set (List.set H k _) k _) k _) k _)
 rw [List.set_set, List.set_set, List.set_set]
 exact Fin.set trivial ⟨hlt.2.1, hlt.2.2.1, hlt.2.2.2.1, hlt.2.2.2.2.1, trivial⟩ q
inductive S_span (bud : Nat) (args : List AV) (H : List AO) (Q : QT) (R : RT) : Prop
 | c (k : Nat) (a b d : AV) (h0 : args = [.obj k, a, b, d]) (h1 : H[k]? = some (.inst 268 [] [])) (h2 : a.isUn = false) (h3 : b.isUn = false) (h4 : d.isUn = false) (h5 : Q .none (H.set k (.inst 268 sN [a, b, d]))) : S_span bud args H Q R
theorem S_span.mk {bud : Nat} {k : Nat} {a b d : AV} {H : List AO} {Q : QT} {R : RT} (hk : H[k]? = some (.inst 268 [] [])) (ha : a.isUn = false) (hb : b.isUn = false) (hd : d.isUn = false) (q : Q .none (H.set k (.inst 268 sN [a, b, d]))) : S_span bud [.obj k, a, b, d] H Q R := ⟨_, _, _, _, rfl, hk, ha, hb, hd, q⟩
theorem ok_span (w : World) : OK (GP anyP w) 265 S_span := by
 refine mkOK [] ["self", "body", "start", "many"] 4 ⟨_, _, _, rfl⟩ rfl (by kernel_rfl) rfl (fun vs hv => by obtain ⟨a, b, d, e, rfl⟩ := len4 hv; rfl) ?_
 rintro c ok hn hg _ _ H Q R ⟨k, a, b, d, rfl, hk, ha, hb, hd, q⟩ hlt
 refine ⟨[_, _, _, _], ⟨rfl, rfl⟩, ?_⟩
 refine xCons ?_
 refine sSeta ?_
 refine Ev_l1 ok hn ?_ ‹_›
 refine Ev_l0 ok hn ?_
 refine Seta_n co_268 ‹_› (by kernel_rfl) (by decide +kernel) ?_
 refine xCons ?_
 refine sSeta ?_
 refine Ev_l2 ok hn ?_ ‹_›
 refine Ev_l0 ok hn ?_
 refine Seta_n co_268 (get_set' ‹_›) (by kernel_rfl) (by decide +kernel) ?_
 refine xCons ?_
 refine sSeta ?_
 refine Ev_l3 ok hn ?_ ‹_›
 refine Ev_l0 ok hn ?_
 refine Seta_n co_268 (get_set' (get_set' ‹_›)) (by kernel_rfl) (by decide +kernel) ?_
 refine xNil ?_
 show Fin H Q _ (List.set (List.set (List.set H k _) k _) k _)
 rw [List.set_set, List.set_set]
 exact Fin.set trivial ⟨hlt.2.1, hlt.2.2.1, hlt.2.2.2.1, trivial⟩ q
inductive S_row (bud : Nat) (args : List AV) (H : List AO) (Q : QT) (R : RT) : Prop
 | c (k j : Nat) (a d e : AV) (vs : List AV) (h0 : args = [.obj k, a, .obj j, d, e]) (h1 : H[k]? = some (.inst 247 [] [])) (h2 : H[j]? = some (.list vs)) (h3 : k ≠ j) (h4 : vs.length ≤ 1000) (h5 : ltL H.length vs) (h6 : a.isUn = false) (h7 : d.isUn = false) (h8 : e.isUn = false) (h9 : Q .none (H.set k (.inst 247 rN [a, .lst vs, d, e]))) : S_row bud args H Q R
theorem S_row.mk {bud : Nat} {k j : Nat} {a d e : AV} {vs : List AV} {H : List AO} {Q : QT} {R : RT} (hk : H[k]? = some (.inst 247 [] [])) (hj : H[j]? = some (.list vs)) (hkj : k ≠ j) (hz : vs.length ≤ 1000) (hl : ltL H.length vs) (ha : a.isUn = false) (hd : d.isUn = false) (he : e.isUn = false) (q : Q .none (H.set k (.inst 247 rN [a, .lst vs, d, e]))) : S_row bud [.obj k, a, .obj j, d, e] H Q R := ⟨_, _, _, _, _, _, rfl, hk, hj, hkj, hz, hl, ha, hd, he, q⟩
theorem ok_row (w : World) : OK (GP anyP w) 244 S_row := by
 refine mkOK ["list"] ["self", "number", "things", "is_global", "level"] 5 ⟨_, _, _, rfl⟩ rfl (by kernel_rfl) rfl (fun vs hv => by obtain ⟨a, b, d, e, f, rfl⟩ := len5 hv; rfl) ?_
 rintro c ok hn hg _ _ H Q R ⟨k, j, a, d, e, vs, rfl, hk, hj, hkj, hz, hl, ha, hd, he, q⟩ hlt
 refine ⟨[_, _, _, _, _], ⟨rfl, rfl⟩, ?_⟩
 refine xCons ?_
 refine sSeta ?_
 refine Ev_l1 ok hn ?_ ‹_›
 refine Ev_l0 ok hn ?_
 refine Seta_n co_247 ‹_› (by kernel_rfl) (by decide +kernel) ?_
 refine xCons ?_
 refine sSeta ?_
 refine vCallN ?_
 refine Ev_gu ok hg .z b_list ?_
 refine wTy ?_
 refine aCons ?_
 refine Ev_l2 ok hn ?_
 refine aNil ?_
 refine Cal_list_own (get_ne ‹_› ‹_›) (by first | exact ‹_› | exact le2 ‹_› | omega) ?_
 refine Ev_l0 ok hn ?_
 refine Seta_n co_247 (get_set' ‹_›) (by kernel_rfl) (by decide +kernel) ?_
 refine xCons ?_
 refine sSeta ?_
 refine Ev_l3 ok hn ?_ ‹_›
 refine Ev_l0 ok hn ?_
 refine Seta_n co_247 (get_set' (get_set' ‹_›)) (by kernel_rfl) (by decide +kernel) ?_
 refine xCons ?_
 refine sSeta ?_
 refine Ev_l4 ok hn ?_ ‹_›
 refine Ev_l0 ok hn ?_
 refine Seta_n co_247 (get_set' (get_set' (get_set' ‹_›))) (by kernel_rfl) (by decide +kernel) ?_
 refine xNil ?_
 show Fin H Q _ (List.set (List.set (List.set (List.set H k _) k _) k _) k _)
 rw [List.set_set, List.set_set, List.set_set]
 exact Fin.set trivial ⟨hlt.2.1, hl, hlt.2.2.2.1, hlt.2.2.2.2.1, trivial⟩ q
inductive S_src0 (bud : Nat) (args : List AV) (H : List AO) (Q : QT) (R : RT) : Prop
 | c (k : Nat) (b : List UInt8) (h0 : args = [.obj k, .bytes b]) (h1 : H[k]? = some (.inst 393 [] [])) (h2 : Q .none (H.set k (src b 0))) : S_src0 bud args H Q R
theorem S_src0.mk {bud : Nat} {k : Nat} {b : List UInt8} {H : List AO} {Q : QT} {R : RT} (hk : H[k]? = some (.inst 393 [] [])) (q : Q .none (H.set k (src b 0))) : S_src0 bud [.obj k, .bytes b] H Q R := ⟨_, _, rfl, hk, q⟩
theorem ok_src0 (w : World) : OK (GP anyP w) 368 S_src0 := by
 refine mkOKd [] ["self", "octets", "at"] 3 2 [.int 0] [.int 0 723] ⟨_, _, _, rfl⟩ rfl (by kernel_rfl) (fun _ _ => CVs.one (by simp [CV])) rfl (T := 361) (its := [.int 0 723]) (m := 0) (by kernel_rfl) rfl (fun vs hv => by obtain ⟨a, b, rfl⟩ := len2 hv; exact ⟨_, rfl, rfl⟩) ?_
 rintro c ok hn hg _ _ H Q R ⟨k, b, rfl, hk, q⟩ hlt
 refine ⟨[_, _, _], ⟨rfl, rfl⟩, ?_⟩
 refine xCons ?_
 refine sSeta ?_
 refine Ev_l1 ok hn ?_
 refine Ev_l0 ok hn ?_
 refine Seta_n co_393 ‹_› (by kernel_rfl) (by decide +kernel) ?_
 refine xCons ?_
 refine sSeta ?_
 refine Ev_l2 ok hn ?_
 refine Ev_l0 ok hn ?_
 refine Seta_n co_393 (get_set' ‹_›) (by kernel_rfl) (by decide +kernel) ?_
 refine xNil ?_
 show Fin H Q _ (List.set (List.set H k _) k _)
 rw [List.set_set]
 exact Fin.set (o := src b 0) trivial ⟨trivial, trivial, trivial⟩ q
inductive S_scanner0 (bud : Nat) (args : List AV) (H : List AO) (Q : QT) (R : RT) : Prop
 | c (k j : Nat) (h0 : args = [.obj k, .obj j]) (h1 : H[k]? = some (.inst 585 [] [])) (h2 : Q .none (H.set k (.inst 585 ["memory"] [.obj j]))) : S_scanner0 bud args H Q R
theorem S_scanner0.mk {bud : Nat} {k j : Nat} {H : List AO} {Q : QT} {R : RT} (hk : H[k]? = some (.inst 585 [] [])) (q : Q .none (H.set k (.inst 585 ["memory"] [.obj j]))) : S_scanner0 bud [.obj k, .obj j] H Q R := ⟨_, _, rfl, hk, q⟩
theorem ok_scanner0 (w : World) : OK (GP anyP w) 516 S_scanner0 := by
 refine mkOK [] ["self", "memory"] 2 ⟨_, _, _, rfl⟩ rfl (by kernel_rfl) rfl (fun vs hv => by obtain ⟨a, b, rfl⟩ := len2 hv; rfl) ?_
 rintro c ok hn hg _ _ H Q R ⟨k, j, rfl, hk, q⟩ hlt
 refine ⟨[_, _], ⟨rfl, rfl⟩, ?_⟩
 refine xCons ?_
 refine sSeta ?_
 refine Ev_l1 ok hn ?_
 refine Ev_l0 ok hn ?_
 refine Seta_n co_585 ‹_› (by kernel_rfl) (by decide +kernel) ?_
 refine xNil ?_
 exact Fin.set trivial ⟨hlt.2.1, trivial⟩ q
theorem set_end {H : List AO} {o o' : AO} : (H ++ [o]).set H.length o' = H ++ [o'] := by rw [List.set_append_right _ _ (Nat.le_refl _), Nat.sub_self]; rfl
inductive S_integer (bud : Nat) (args : List AV) (H : List AO) (Q : QT) (R : RT) : Prop
 | c (b0 : Nat) (n : Int) (h0 : bud = b0 + 2) (h1 : args = [.int n]) (h2 : Q (thing (.str "integer") (.int n) (.bool false) (.int 3)) H) : S_integer bud args H Q R
theorem S_integer.mk {b0 : Nat} {n : Int} {H : List AO} {Q : QT} {R : RT}  (q : Q (thing (.str "integer") (.int n) (.bool false) (.int 3)) H) : S_integer (b0 + 2) [.int n] H Q R := ⟨_, _, rfl, rfl, q⟩
theorem ok_integer (w : World) : OK (GG w) 279 S_integer := by
 refine mkOK ["Thing"] ["number"] 1 ⟨_, _, _, rfl⟩ rfl (by kernel_rfl) rfl (fun vs hv => by obtain ⟨a, rfl⟩ := len1 hv; rfl) ?_
 rintro c ok hn hg _ _ H Q R ⟨b0, n, rfl, rfl, q⟩ hlt
 refine ⟨[_], ⟨rfl, rfl⟩, ?_⟩
 refine xCons ?_
 refine sRet ?_
 refine vCallN ?_
 refine Ev_gr ok hg .z g_Thing ?_
 refine wFn (by kernel_rfl) ?_
 refine aCons ?_
 refine Ev_str ?_
 refine aCons ?_
 refine Ev_l0 ok hn ?_
 refine aNil ?_
 refine Cal_newF tN [_, _, _, _] ok mk_205 (ok_thing2 w) (S_thing2.mk get_end rfl rfl (newOf set_end)) ?_
 exact Fin.same ⟨trivial, trivial, trivial, trivial, trivial⟩ q
inductive S_real (bud : Nat) (args : List AV) (H : List AO) (Q : QT) (R : RT) : Prop
 | c (b0 : Nat) (n : Int) (h0 : bud = b0 + 2) (h1 : args = [.int n]) (h2 : Q (thing (.str "real") (.int n) (.bool false) (.int 3)) H) : S_real bud args H Q R
theorem S_real.mk {b0 : Nat} {n : Int} {H : List AO} {Q : QT} {R : RT}  (q : Q (thing (.str "real") (.int n) (.bool false) (.int 3)) H) : S_real (b0 + 2) [.int n] H Q R := ⟨_, _, rfl, rfl, q⟩
theorem ok_real (w : World) : OK (GG w) 286 S_real := by
 refine mkOK ["Thing"] ["millionths"] 1 ⟨_, _, _, rfl⟩ rfl (by kernel_rfl) rfl (fun vs hv => by obtain ⟨a, rfl⟩ := len1 hv; rfl) ?_
 rintro c ok hn hg _ _ H Q R ⟨b0, n, rfl, rfl, q⟩ hlt
 refine ⟨[_], ⟨rfl, rfl⟩, ?_⟩
 refine xCons ?_
 refine sRet ?_
 refine vCallN ?_
 refine Ev_gr ok hg .z g_Thing ?_
 refine wFn (by kernel_rfl) ?_
 refine aCons ?_
 refine Ev_str ?_
 refine aCons ?_
 refine Ev_l0 ok hn ?_
 refine aNil ?_
 refine Cal_newF tN [_, _, _, _] ok mk_205 (ok_thing2 w) (S_thing2.mk get_end rfl rfl (newOf set_end)) ?_
 exact Fin.same ⟨trivial, trivial, trivial, trivial, trivial⟩ q
inductive S_name (bud : Nat) (args : List AV) (H : List AO) (Q : QT) (R : RT) : Prop
 | c (b0 : Nat) (b : List UInt8) (x : Bool) (h0 : bud = b0 + 2) (h1 : args = [.bytes b, .bool x]) (h2 : Q (thing (.str "name") (.bytes b) (.bool x) (.int 3)) H) : S_name bud args H Q R
theorem S_name.mk {b0 : Nat} {b : List UInt8} {x : Bool} {H : List AO} {Q : QT} {R : RT}  (q : Q (thing (.str "name") (.bytes b) (.bool x) (.int 3)) H) : S_name (b0 + 2) [.bytes b, .bool x] H Q R := ⟨_, _, _, rfl, rfl, q⟩
theorem ok_name (w : World) : OK (GG w) 294 S_name := by
 refine mkOKd ["Thing"] ["octets", "is_exec"] 2 2 [] [] ⟨_, _, _, rfl⟩ rfl (by kernel_rfl) (fun _ _ => CVs.nil) rfl (T := 287) (its := [.bool false]) (m := 0) (by kernel_rfl) rfl (fun vs hv => by obtain ⟨a, b, rfl⟩ := len2 hv; exact ⟨_, rfl, rfl⟩) ?_
 rintro c ok hn hg _ _ H Q R ⟨b0, b, x, rfl, rfl, q⟩ hlt
 refine ⟨[_, _], ⟨rfl, rfl⟩, ?_⟩
 refine xCons ?_
 refine sRet ?_
 refine vCallN ?_
 refine Ev_gr ok hg .z g_Thing ?_
 refine wFn (by kernel_rfl) ?_
 refine aCons ?_
 refine Ev_str ?_
 refine aCons ?_
 refine Ev_l0 ok hn ?_
 refine aCons ?_
 refine Ev_l1 ok hn ?_
 refine aNil ?_
 refine Cal_newF tN [_, _, _, _] ok mk_205 (ok_thing3 w) (S_thing3.mk get_end rfl rfl rfl (newOf set_end)) ?_
 exact Fin.same ⟨trivial, trivial, trivial, trivial, trivial⟩ q
noncomputable abbrev rowA (m : Int) (vs : List AV) : AV := .ins 247 rN [.int m, .lst vs, .bool false, .int 0]
noncomputable abbrev spanA (m : Int) (vs : List AV) : AV := .ins 268 sN [rowA m vs, .int 0, .int vs.length]
inductive S_ofRow (bud : Nat) (args : List AV) (H : List AO) (Q : QT) (R : RT) : Prop
 | c (b0 : Nat) (m : Int) (vs : List AV) (x : Bool) (h0 : bud = b0 + 2) (h1 : args = [rowA m vs, .bool x]) (h2 : vs.length ≤ 1000) (h3 : Q (thing (.str "array") (spanA m vs) (.bool x) (.int 3)) H) : S_ofRow bud args H Q R
theorem S_ofRow.mk {b0 : Nat} {m : Int} {vs : List AV} {x : Bool} {H : List AO} {Q : QT} {R : RT} (hz : vs.length ≤ 1000) (q : Q (thing (.str "array") (spanA m vs) (.bool x) (.int 3)) H) : S_ofRow (b0 + 2) [rowA m vs, .bool x] H Q R := ⟨_, _, _, _, rfl, rfl, hz, q⟩
theorem ok_ofRow (w : World) : OK (GG w) 317 S_ofRow := by
 refine mkOKd ["Thing", "Span", "len"] ["row", "is_exec", "access"] 3 2 [.int 3] [.int 3 450] ⟨_, _, _, rfl⟩ rfl (by kernel_rfl) (fun _ _ => CVs.one (by simp [CV])) rfl (T := 310) (its := [.bool false, .int 3 450]) (m := 0) (by kernel_rfl) rfl (fun vs hv => by obtain ⟨a, b, rfl⟩ := len2 hv; exact ⟨_, rfl, rfl⟩) ?_
 rintro c ok hn hg _ _ H Q R ⟨b0, m, vs, x, rfl, rfl, hz, q⟩ hlt
 refine ⟨[_, _, _], ⟨rfl, rfl⟩, ?_⟩
 refine xCons ?_
 refine sRet ?_
 refine vCallN ?_
 refine Ev_gr ok hg .z g_Thing ?_
 refine wFn (by kernel_rfl) ?_
 refine aCons ?_
 refine Ev_str ?_
 refine aCons ?_
 refine vCallN ?_
 refine Ev_gr ok hg (.s .z) g_Span ?_
 refine wFn (by kernel_rfl) ?_
 refine aCons ?_
 refine Ev_l0 ok hn ?_
 refine aCons ?_
 refine Ev_int ?_
 refine aCons ?_
 refine vCallN ?_
 refine Ev_gu ok hg (.s (.s .z)) b_len ?_
 refine wBi ?_
 refine aCons ?_
 refine vAttrN ?_
 refine Ev_l0 ok hn ?_
 refine Get_i co_247 (.s .z) (.s .z) (by kernel_rfl) rfl ?_
 refine aNil ?_
 refine Cal_len_lst (by omega) ?_
 refine aNil ?_
 refine Cal_newF sN [_, _, _] ok mk_268 (ok_span w) (S_span.mk get_end rfl rfl rfl (newOf set_end)) ?_
 refine aCons ?_
 refine Ev_l1 ok hn ?_
 refine aCons ?_
 refine Ev_l2 ok hn ?_
 refine aNil ?_
 refine Cal_newF tN [_, _, _, _] ok mk_205 (ok_thing4 w) (S_thing4.mk get_end rfl rfl rfl rfl (newOf set_end)) ?_
 show Fin H Q _ ((H ++ [AO.gone]) ++ [AO.gone])
 rw [List.append_assoc]
 exact Fin.same ⟨trivial, ⟨hlt.1, trivial, trivial, trivial⟩, trivial, trivial, trivial⟩ q
inductive S_thingsOf (bud : Nat) (args : List AV) (H : List AO) (Q : QT) (R : RT) : Prop
 | c (m : Int) (vs : List AV) (h0 : args = [spanA m vs]) (h1 : vs.length ≤ 1000) (h2 : Q (.lst vs) H) : S_thingsOf bud args H Q R
theorem S_thingsOf.mk {bud : Nat} {m : Int} {vs : List AV} {H : List AO} {Q : QT} {R : RT} (hz : vs.length ≤ 1000) (q : Q (.lst vs) H) : S_thingsOf bud [spanA m vs] H Q R := ⟨_, _, rfl, hz, q⟩
noncomputable abbrev limN : List Str := ["operands", "dicts", "frames", "saves", "gstates", "text", "row", "entries", "word", "path", "dash", "files", "system", "vm"]
noncomputable abbrev limA : AV := .ins 615 limN [.int 500, .int 20, .int 250, .int 15, .int 31, .int 65535, .int 65535, .int 65535, .int 127, .int 1500, .int 11, .int 15, .int 600, .int 16777216]
noncomputable abbrev mN : List Str := ["limits", "is_global", "saves", "journal", "made", "freed", "used", "used_global", "last_body", "last_save"]
noncomputable abbrev mem (j : Nat) (u l : Int) : AO := .inst 896 mN [limA, .bool false, .lst [], .lst [], .obj j, .lst [], .int u, .int 0, .int l, .int 0]
theorem limA_lt {n : Nat} : AV.lt n limA := ⟨trivial, trivial, trivial, trivial, trivial, trivial, trivial, trivial, trivial, trivial, trivial, trivial, trivial, trivial, trivial⟩
theorem mem_lt {j n : Nat} {u l : Int} (h : j < n) : AO.lt n (mem j u l) := ⟨limA_lt, trivial, trivial, trivial, h, trivial, trivial, trivial, trivial, trivial, trivial⟩
inductive S_lim0 (bud : Nat) (args : List AV) (H : List AO) (Q : QT) (R : RT) : Prop
 | c (k : Nat) (h0 : args = [.obj k]) (h1 : H[k]? = some (.inst 615 [] [])) (h2 : Q .none (H.set k (.inst 615 limN [.int 500, .int 20, .int 250, .int 15, .int 31, .int 65535, .int 65535, .int 65535, .int 127, .int 1500, .int 11, .int 15, .int 600, .int 16777216]))) : S_lim0 bud args H Q R
theorem S_lim0.mk {bud : Nat} {k : Nat} {H : List AO} {Q : QT} {R : RT} (hk : H[k]? = some (.inst 615 [] [])) (q : Q .none (H.set k (.inst 615 limN [.int 500, .int 20, .int 250, .int 15, .int 31, .int 65535, .int 65535, .int 65535, .int 127, .int 1500, .int 11, .int 15, .int 600, .int 16777216]))) : S_lim0 bud [.obj k] H Q R := ⟨_, rfl, hk, q⟩
theorem ok_lim0 (w : World) : OK (GP anyP w) 612 S_lim0 := by
 refine mkOKd [] ["self", "operands", "dicts", "frames", "saves", "gstates", "text", "row", "entries", "word", "path", "dash", "files", "system", "vm"] 15 1 [.int 500, .int 20, .int 250, .int 15, .int 31, .int 65535, .int 65535, .int 65535, .int 127, .int 1500, .int 11, .int 15, .int 600, .int 16777216] [.int 500 1051, .int 20 1052, .int 250 1053, .int 15 1054, .int 31 1055, .int 65535 1056, .int 65535 1057, .int 65535 1058, .int 127 1059, .int 1500 1060, .int 11 1061, .int 15 1062, .int 600 1063, .int 16777216 1037] ⟨_, _, _, rfl⟩ rfl (by kernel_rfl) (fun _ _ => CVs.cons (by simp [CV]) (CVs.cons (by simp [CV]) (CVs.cons (by simp [CV]) (CVs.cons (by simp [CV]) (CVs.cons (by simp [CV]) (CVs.cons (by simp [CV]) (CVs.cons (by simp [CV]) (CVs.cons (by simp [CV]) (CVs.cons (by simp [CV]) (CVs.cons (by simp [CV]) (CVs.cons (by simp [CV]) (CVs.cons (by simp [CV]) (CVs.cons (by simp [CV]) (CVs.one (by simp [CV]))))))))))))))) rfl (T := 605) (its := [.int 500 1051, .int 20 1052, .int 250 1053, .int 15 1054, .int 31 1055, .int 65535 1056, .int 65535 1057, .int 65535 1058, .int 127 1059, .int 1500 1060, .int 11 1061, .int 15 1062, .int 600 1063, .int 16777216 1037]) (m := 0) (by kernel_rfl) rfl (fun vs hv => by obtain ⟨a, rfl⟩ := len1 hv; exact ⟨_, rfl, by kernel_rfl⟩) ?_
 rintro c ok hn hg _ _ H Q R ⟨k, rfl, hk, q⟩ hlt
 refine ⟨_ :: [.int 500, .int 20, .int 250, .int 15, .int 31, .int 65535, .int 65535, .int 65535, .int 127, .int 1500, .int 11, .int 15, .int 600, .int 16777216], ⟨rfl, rfl⟩, ?_⟩
 refine xCons ?_
 refine sSeta ?_
 refine Ev_l1 ok hn ?_
 refine Ev_l0 ok hn ?_
 refine Seta_1 co_615 ‹_› (by kernel_rfl) (by decide +kernel) .nil .nil ?_
 refine xCons ?_
 refine sSeta ?_
 refine Ev_l2 ok hn ?_
 refine Ev_l0 ok hn ?_
 refine Seta_2 co_615 (lt_of_get ‹_›) (by kernel_rfl) (by decide +kernel) (.cons .nil) (.cons .nil) ?_
 refine xCons ?_
 refine sSeta ?_
 refine Ev_l3 ok hn ?_
 refine Ev_l0 ok hn ?_
 refine Seta_2 co_615 (lt_of_get ‹_›) (by kernel_rfl) (by decide +kernel) (.cons (.cons .nil)) (.cons (.cons .nil)) ?_
 refine xCons ?_
 refine sSeta ?_
 refine Ev_l4 ok hn ?_
 refine Ev_l0 ok hn ?_
 refine Seta_2 co_615 (lt_of_get ‹_›) (by kernel_rfl) (by decide +kernel) (.cons (.cons (.cons .nil))) (.cons (.cons (.cons .nil))) ?_
 refine xCons ?_
 refine sSeta ?_
 refine Ev_l5 ok hn ?_
 refine Ev_l0 ok hn ?_
 refine Seta_2 co_615 (lt_of_get ‹_›) (by kernel_rfl) (by decide +kernel) (.cons (.cons (.cons (.cons .nil)))) (.cons (.cons (.cons (.cons .nil)))) ?_
 refine xCons ?_
 refine sSeta ?_
 refine Ev_l6 ok hn ?_
 refine Ev_l0 ok hn ?_
 refine Seta_2 co_615 (lt_of_get ‹_›) (by kernel_rfl) (by decide +kernel) (.cons (.cons (.cons (.cons (.cons .nil))))) (.cons (.cons (.cons (.cons (.cons .nil))))) ?_
 refine xCons ?_
 refine sSeta ?_
 refine Ev_l ok hn (.s (.s (.s (.s (.s (.s (.s .z))))))) (.s (.s (.s (.s (.s (.s (.s .z))))))) rfl ?_
 refine Ev_l0 ok hn ?_
 refine Seta_2 co_615 (lt_of_get ‹_›) (by kernel_rfl) (by decide +kernel) (.cons (.cons (.cons (.cons (.cons (.cons .nil)))))) (.cons (.cons (.cons (.cons (.cons (.cons .nil)))))) ?_
 refine xCons ?_
 refine sSeta ?_
 refine Ev_l ok hn (.s (.s (.s (.s (.s (.s (.s (.s .z)))))))) (.s (.s (.s (.s (.s (.s (.s (.s .z)))))))) rfl ?_
 refine Ev_l0 ok hn ?_
 refine Seta_2 co_615 (lt_of_get ‹_›) (by kernel_rfl) (by decide +kernel) (.cons (.cons (.cons (.cons (.cons (.cons (.cons .nil))))))) (.cons (.cons (.cons (.cons (.cons (.cons (.cons .nil))))))) ?_
 refine xCons ?_
 refine sSeta ?_
 refine Ev_l ok hn (.s (.s (.s (.s (.s (.s (.s (.s (.s .z))))))))) (.s (.s (.s (.s (.s (.s (.s (.s (.s .z))))))))) rfl ?_
 refine Ev_l0 ok hn ?_
 refine Seta_2 co_615 (lt_of_get ‹_›) (by kernel_rfl) (by decide +kernel) (.cons (.cons (.cons (.cons (.cons (.cons (.cons (.cons .nil)))))))) (.cons (.cons (.cons (.cons (.cons (.cons (.cons (.cons .nil)))))))) ?_
 refine xCons ?_
 refine sSeta ?_
 refine Ev_l ok hn (.s (.s (.s (.s (.s (.s (.s (.s (.s (.s .z)))))))))) (.s (.s (.s (.s (.s (.s (.s (.s (.s (.s .z)))))))))) rfl ?_
 refine Ev_l0 ok hn ?_
 refine Seta_2 co_615 (lt_of_get ‹_›) (by kernel_rfl) (by decide +kernel) (.cons (.cons (.cons (.cons (.cons (.cons (.cons (.cons (.cons .nil))))))))) (.cons (.cons (.cons (.cons (.cons (.cons (.cons (.cons (.cons .nil))))))))) ?_
 refine xCons ?_
 refine sSeta ?_
 refine Ev_l ok hn (.s (.s (.s (.s (.s (.s (.s (.s (.s (.s (.s .z))))))))))) (.s (.s (.s (.s (.s (.s (.s (.s (.s (.s (.s .z))))))))))) rfl ?_
 refine Ev_l0 ok hn ?_
 refine Seta_2 co_615 (lt_of_get ‹_›) (by kernel_rfl) (by decide +kernel) (.cons (.cons (.cons (.cons (.cons (.cons (.cons (.cons (.cons (.cons .nil)))))))))) (.cons (.cons (.cons (.cons (.cons (.cons (.cons (.cons (.cons (.cons .nil)))))))))) ?_
 refine xCons ?_
 refine sSeta ?_
 refine Ev_l ok hn (.s (.s (.s (.s (.s (.s (.s (.s (.s (.s (.s (.s .z)))))))))))) (.s (.s (.s (.s (.s (.s (.s (.s (.s (.s (.s (.s .z)))))))))))) rfl ?_
 refine Ev_l0 ok hn ?_
 refine Seta_2 co_615 (lt_of_get ‹_›) (by kernel_rfl) (by decide +kernel) (.cons (.cons (.cons (.cons (.cons (.cons (.cons (.cons (.cons (.cons (.cons .nil))))))))))) (.cons (.cons (.cons (.cons (.cons (.cons (.cons (.cons (.cons (.cons (.cons .nil))))))))))) ?_
 refine xCons ?_
 refine sSeta ?_
 refine Ev_l ok hn (.s (.s (.s (.s (.s (.s (.s (.s (.s (.s (.s (.s (.s .z))))))))))))) (.s (.s (.s (.s (.s (.s (.s (.s (.s (.s (.s (.s (.s .z))))))))))))) rfl ?_
 refine Ev_l0 ok hn ?_
 refine Seta_2 co_615 (lt_of_get ‹_›) (by kernel_rfl) (by decide +kernel) (.cons (.cons (.cons (.cons (.cons (.cons (.cons (.cons (.cons (.cons (.cons (.cons .nil)))))))))))) (.cons (.cons (.cons (.cons (.cons (.cons (.cons (.cons (.cons (.cons (.cons (.cons .nil)))))))))))) ?_
 refine xCons ?_
 refine sSeta ?_
 refine Ev_l ok hn (.s (.s (.s (.s (.s (.s (.s (.s (.s (.s (.s (.s (.s (.s .z)))))))))))))) (.s (.s (.s (.s (.s (.s (.s (.s (.s (.s (.s (.s (.s (.s .z)))))))))))))) rfl ?_
 refine Ev_l0 ok hn ?_
 refine Seta_2 co_615 (lt_of_get ‹_›) (by kernel_rfl) (by decide +kernel) (.cons (.cons (.cons (.cons (.cons (.cons (.cons (.cons (.cons (.cons (.cons (.cons (.cons .nil))))))))))))) (.cons (.cons (.cons (.cons (.cons (.cons (.cons (.cons (.cons (.cons (.cons (.cons (.cons .nil))))))))))))) ?_
 refine xNil ?_
 exact Fin.set trivial ⟨trivial, trivial, trivial, trivial, trivial, trivial, trivial, trivial, trivial, trivial, trivial, trivial, trivial, trivial, trivial⟩ q
inductive S_mem0 (bud : Nat) (args : List AV) (H : List AO) (Q : QT) (R : RT) : Prop
 | c (k : Nat) (h0 : args = [.obj k, limA]) (h1 : H[k]? = some (.inst 896 [] [])) (h2 : Q .none (H.set k (mem H.length 0 0) ++ [.idict 0])) : S_mem0 bud args H Q R
theorem S_mem0.mk {bud : Nat} {k : Nat} {H : List AO} {Q : QT} {R : RT} (hk : H[k]? = some (.inst 896 [] [])) (q : Q .none (H.set k (mem H.length 0 0) ++ [.idict 0])) : S_mem0 bud [.obj k, limA] H Q R := ⟨_, rfl, hk, q⟩
theorem ok_mem0 (w : World) : OK (GP anyP w) 654 S_mem0 := by
 refine mkOK [] ["self", "limits"] 2 ⟨_, _, _, rfl⟩ rfl (by kernel_rfl) rfl (fun vs hv => by obtain ⟨a, b, rfl⟩ := len2 hv; rfl) ?_
 rintro c ok hn hg _ _ H Q R ⟨k, rfl, hk, q⟩ hlt
 refine ⟨[_, _], ⟨rfl, rfl⟩, ?_⟩
 refine xCons ?_
 refine sSeta ?_
 refine Ev_l1 ok hn ?_
 refine Ev_l0 ok hn ?_
 refine Seta_1 co_896 ‹_› (by kernel_rfl) (by decide +kernel) .nil .nil ?_
 refine xCons ?_
 refine sSeta ?_
 refine Ev_bool ?_
 refine Ev_l0 ok hn ?_
 refine Seta_2 co_896 (lt_of_get ‹_›) (by kernel_rfl) (by decide +kernel) (.cons .nil) (.cons .nil) ?_
 refine xCons ?_
 refine sSeta ?_
 refine vLst ?_
 refine aNil ?_
 refine ⟨Nat.le_of_ble_eq_true rfl, ?_⟩
 refine Ev_l0 ok hn ?_
 refine Seta_2 co_896 (lt_of_get ‹_›) (by kernel_rfl) (by decide +kernel) (.cons (.cons .nil)) (.cons (.cons .nil)) ?_
 refine xCons ?_
 refine sSeta ?_
 refine vLst ?_
 refine aNil ?_
 refine ⟨Nat.le_of_ble_eq_true rfl, ?_⟩
 refine Ev_l0 ok hn ?_
 refine Seta_2 co_896 (lt_of_get ‹_›) (by kernel_rfl) (by decide +kernel) (.cons (.cons (.cons .nil))) (.cons (.cons (.cons .nil))) ?_
 refine xCons ?_
 refine sSeta ?_
 refine Ev_dict0 ?_
 refine Ev_l0 ok hn ?_
 refine Seta_1 co_896 (get_app (get_set' ‹_›)) (by kernel_rfl) (by decide +kernel) (.cons (.cons (.cons (.cons .nil)))) (.cons (.cons (.cons (.cons .nil)))) ?_
 refine xCons ?_
 refine sSeta ?_
 refine vLst ?_
 refine aNil ?_
 refine ⟨Nat.le_of_ble_eq_true rfl, ?_⟩
 refine Ev_l0 ok hn ?_
 refine Seta_2 co_896 (lt_of_get (get_app (get_set' ‹_›))) (by kernel_rfl) (by decide +kernel) (.cons (.cons (.cons (.cons (.cons .nil))))) (.cons (.cons (.cons (.cons (.cons .nil))))) ?_
 refine xCons ?_
 refine sSeta ?_
 refine Ev_int ?_
 refine Ev_l0 ok hn ?_
 refine Seta_2 co_896 (lt_of_get (get_app (get_set' ‹_›))) (by kernel_rfl) (by decide +kernel) (.cons (.cons (.cons (.cons (.cons (.cons .nil)))))) (.cons (.cons (.cons (.cons (.cons (.cons .nil)))))) ?_
 refine xCons ?_
 refine sSeta ?_
 refine Ev_int ?_
 refine Ev_l0 ok hn ?_
 refine Seta_2 co_896 (lt_of_get (get_app (get_set' ‹_›))) (by kernel_rfl) (by decide +kernel) (.cons (.cons (.cons (.cons (.cons (.cons (.cons .nil))))))) (.cons (.cons (.cons (.cons (.cons (.cons (.cons .nil))))))) ?_
 refine xCons ?_
 refine sSeta ?_
 refine Ev_int ?_
 refine Ev_l0 ok hn ?_
 refine Seta_2 co_896 (lt_of_get (get_app (get_set' ‹_›))) (by kernel_rfl) (by decide +kernel) (.cons (.cons (.cons (.cons (.cons (.cons (.cons (.cons .nil)))))))) (.cons (.cons (.cons (.cons (.cons (.cons (.cons (.cons .nil)))))))) ?_
 refine xCons ?_
 refine sSeta ?_
 refine Ev_int ?_
 refine Ev_l0 ok hn ?_
 refine Seta_2 co_896 (lt_of_get (get_app (get_set' ‹_›))) (by kernel_rfl) (by decide +kernel) (.cons (.cons (.cons (.cons (.cons (.cons (.cons (.cons (.cons .nil))))))))) (.cons (.cons (.cons (.cons (.cons (.cons (.cons (.cons (.cons .nil))))))))) ?_
 refine xNil ?_
 have hl := lt_of_get hk
 show Fin H Q _ (List.set (List.set H k _ ++ [AO.idict 0]) k _)
 rw [List.set_append_left _ _ (by rw [List.length_set]; exact hl), List.set_set]
 simp only [List.length_set]
 exact Fin.ext trivial (mem_lt (Nat.lt_succ_self _)) trivial q
inductive S_level (bud : Nat) (args : List AV) (H : List AO) (Q : QT) (R : RT) : Prop
 | c (k j : Nat) (u l : Int) (h0 : args = [.obj k]) (h1 : H[k]? = some (mem j u l)) (h2 : Q (.int 0) H) : S_level bud args H Q R
theorem S_level.mk {bud : Nat} {k j : Nat} {u l : Int} {H : List AO} {Q : QT} {R : RT} (hk : H[k]? = some (mem j u l)) (q : Q (.int 0) H) : S_level bud [.obj k] H Q R := ⟨_, _, _, _, rfl, hk, q⟩
theorem ok_level (w : World) : OK (GP anyP w) 661 S_level := by
 refine mkOK ["len"] ["self"] 1 ⟨_, _, _, rfl⟩ rfl (by kernel_rfl) rfl (fun vs hv => by obtain ⟨a, rfl⟩ := len1 hv; rfl) ?_
 rintro c ok hn hg _ _ H Q R ⟨k, j, u, l, rfl, hk, q⟩ hlt
 refine ⟨[_], ⟨rfl, rfl⟩, ?_⟩
 refine xCons ?_
 refine sRet ?_
 refine vCallN ?_
 refine Ev_gu ok hg .z b_len ?_
 refine wBi ?_
 refine aCons ?_
 refine vAttrN ?_
 refine Ev_l0 ok hn ?_
 refine Get_o co_896 ‹_› (.s (.s .z)) (.s (.s .z)) (by kernel_rfl) rfl ?_
 refine aNil ?_
 refine Cal_len_lst (by decide) ?_
 refine Fin.id trivial ?_
 exact q
inductive S_bodyLevel (bud : Nat) (args : List AV) (H : List AO) (Q : QT) (R : RT) : Prop
 | c (b0 : Nat) (k j : Nat) (u l : Int) (h0 : bud = b0 + 1) (h1 : args = [.obj k]) (h2 : H[k]? = some (mem j u l)) (h3 : Q (.int 0) H) : S_bodyLevel bud args H Q R
theorem S_bodyLevel.mk {b0 : Nat} {k j : Nat} {u l : Int} {H : List AO} {Q : QT} {R : RT} (hk : H[k]? = some (mem j u l)) (q : Q (.int 0) H) : S_bodyLevel (b0 + 1) [.obj k] H Q R := ⟨_, _, _, _, _, rfl, rfl, hk, q⟩
theorem ok_bodyLevel (w : World) : OK (GG w) 669 S_bodyLevel := by
 refine mkOK [] ["self"] 1 ⟨_, _, _, rfl⟩ rfl (by kernel_rfl) rfl (fun vs hv => by obtain ⟨a, rfl⟩ := len1 hv; rfl) ?_
 rintro c ok hn hg _ _ H Q R ⟨b0, k, j, u, l, rfl, rfl, hk, q⟩ hlt
 refine ⟨[_], ⟨rfl, rfl⟩, ?_⟩
 refine xCons ?_
 refine sRet ?_
 refine vIf ?_
 refine tVal ?_
 refine vAttrN ?_
 refine Ev_l0 ok hn ?_
 refine Get_o co_896 ‹_› (.s .z) (.s .z) (by kernel_rfl) rfl ?_
 refine Tru_bool ?_
 refine brF rfl ?_
 refine vAttrN ?_
 refine Ev_l0 ok hn ?_
 refine Get_prop ok co_896 ‹_› pr_level (ok_level w) (S_level.mk ‹_› (prOf rfl ?_))
 refine Fin.id trivial ?_
 exact q
inductive S_checkRoom (bud : Nat) (args : List AV) (H : List AO) (Q : QT) (R : RT) : Prop
 | c (k j : Nat) (u l n : Int) (h0 : args = [.obj k, .int n]) (h1 : H[k]? = some (mem j u l)) (h2 : u + n ≤ 16777216) (h3 : Q .none H) : S_checkRoom bud args H Q R
theorem S_checkRoom.mk {bud : Nat} {k j : Nat} {u l n : Int} {H : List AO} {Q : QT} {R : RT} (hk : H[k]? = some (mem j u l)) (hu : u + n ≤ 16777216) (q : Q .none H) : S_checkRoom bud [.obj k, .int n] H Q R := ⟨_, _, _, _, _, rfl, hk, hu, q⟩
theorem ok_checkRoom (w : World) : OK (GG w) 683 S_checkRoom := by
 refine mkOK ["PsError"] ["self", "cost"] 2 ⟨_, _, _, rfl⟩ rfl (by kernel_rfl) rfl (fun vs hv => by obtain ⟨a, b, rfl⟩ := len2 hv; rfl) ?_
 rintro c ok hn hg _ _ H Q R ⟨k, j, u, l, n, rfl, hk, hu, q⟩ hlt
 refine ⟨[_, _], ⟨rfl, rfl⟩, ?_⟩
 refine xCons ?_
 refine sIf ?_
 refine tCmp ?_
 refine vBin ?_
 refine vBin ?_
 refine vAttrN ?_
 refine Ev_l0 ok hn ?_
 refine Get_o co_896 ‹_› (.s (.s (.s (.s (.s (.s .z)))))) (.s (.s (.s (.s (.s (.s .z)))))) (by kernel_rfl) rfl ?_
 refine vAttrN ?_
 refine Ev_l0 ok hn ?_
 refine Get_o co_896 ‹_› (.s (.s (.s (.s (.s (.s (.s .z))))))) (.s (.s (.s (.s (.s (.s (.s .z))))))) (by kernel_rfl) rfl ?_
 refine Bin_add ?_
 refine Ev_l1 ok hn ?_
 refine Bin_add ?_
 refine vAttr ?_
 refine vAttrN ?_
 refine Ev_l0 ok hn ?_
 refine Get_o co_896 ‹_› .z .z (by kernel_rfl) rfl ?_
 refine Get_i co_615 (.s (.s (.s (.s (.s (.s (.s (.s (.s (.s (.s (.s (.s .z))))))))))))) (.s (.s (.s (.s (.s (.s (.s (.s (.s (.s (.s (.s (.s .z))))))))))))) (by kernel_rfl) rfl ?_
 refine Cmp_gt_int ?_
 refine isB ?_
 refine br (fun c1 => ?_) (fun c1 => ?_)
 refine xCons ?_
 refine sRaise ok hg .z ?_
 refine Ev_bytes ?_
 refine rsB ?_
 rotate_left
 refine xNil ?_
 refine xNil ?_
 refine Fin.id trivial ?_
 rotate_left
 ·exact absurd (of_decide_eq_true c1) (by omega)
 ·exact q
inductive S_many (bud : Nat) (args : List AV) (H : List AO) (Q : QT) (R : RT) : Prop
 | c (n m : Int) (h0 : args = [.int n, .int m]) (h1 : 0 ≤ n) (h2 : n ≤ m) (h3 : Q .none H) : S_many bud args H Q R
theorem S_many.mk {bud : Nat} {n m : Int} {H : List AO} {Q : QT} {R : RT} (h0 : 0 ≤ n) (h1 : n ≤ m) (q : Q .none H) : S_many bud [.int n, .int m] H Q R := ⟨_, _, rfl, h0, h1, q⟩
theorem ok_many (w : World) : OK (GG w) 905 S_many := by
 refine mkOK ["PsError"] ["many", "most"] 2 ⟨_, _, _, rfl⟩ rfl (by kernel_rfl) rfl (fun vs hv => by obtain ⟨a, b, rfl⟩ := len2 hv; rfl) ?_
 rintro c ok hn hg _ _ H Q R ⟨n, m, rfl, h0, h1, q⟩ hlt
 refine ⟨[_, _], ⟨rfl, rfl⟩, ?_⟩
 refine xCons ?_
 refine sIf ?_
 refine tCmp ?_
 refine Ev_l0 ok hn ?_
 refine Ev_int ?_
 refine Cmp_lt_int ?_
 refine isB ?_
 refine br (fun c1 => ?_) (fun c1 => ?_)
 refine xCons ?_
 refine sRaise ok hg .z ?_
 refine Ev_bytes ?_
 refine rsB ?_
 rotate_left
 refine xNil ?_
 refine xCons ?_
 refine sIf ?_
 refine tCmp ?_
 refine Ev_l0 ok hn ?_
 refine Ev_l1 ok hn ?_
 refine Cmp_gt_int ?_
 refine isB ?_
 refine br (fun c2 => ?_) (fun c2 => ?_)
 refine xCons ?_
 refine sRaise ok hg .z ?_
 refine Ev_bytes ?_
 refine rsB ?_
 rotate_left
 refine xNil ?_
 refine xNil ?_
 refine Fin.id trivial ?_
 rotate_left
 ·exact absurd (of_decide_eq_true c1) (by omega)
 ·exact absurd (of_decide_eq_true c2) (by omega)
 ·exact q
theorem Fin.set2 {H : List AO} {Q : QT} {av : AV} {j k : Nat} {o o' : AO} (l : av.lt H.length) (ho : o.lt H.length) (ho' : o'.lt H.length) (q : Q av ((H.set k o).set j o')) : Fin H Q av ((H.set k o).set j o') := by
 have el : ((H.set k o).set j o').length = H.length := by rw [List.length_set, List.length_set]
 refine ⟨_, [], (List.append_nil _).symm, by omega, by rw [el]; exact l, fun i x e => ?_, q⟩
 rw [el]
 rw [List.getElem?_set] at e
 split at e
 ·split at e
  ·cases e; exact .inr ho'
  ·cases e
 ·rw [List.getElem?_set] at e
  split at e
  ·split at e
   ·cases e; exact .inr ho
   ·cases e
  ·exact .inl e
inductive S_takeRoom (bud : Nat) (args : List AV) (H : List AO) (Q : QT) (R : RT) : Prop
 | c (b0 : Nat) (k j m : Nat) (u l n : Int) (h0 : bud = b0 + 2) (h1 : args = [.obj k, .int n]) (h2 : H[k]? = some (mem j u l)) (h3 : H[j]? = some (.idict m)) (h4 : k ≠ j) (h5 : m ≤ 1000) (h6 : u + n ≤ 16777216) (h7 : Q (.int (l + 1)) ((H.set k (mem j (u + n) (l + 1))).set j (.idict (m + 1)))) : S_takeRoom bud args H Q R
theorem S_takeRoom.mk {b0 : Nat} {k j m : Nat} {u l n : Int} {H : List AO} {Q : QT} {R : RT} (hk : H[k]? = some (mem j u l)) (hj : H[j]? = some (.idict m)) (hkj : k ≠ j) (hm : m ≤ 1000) (hu : u + n ≤ 16777216) (q : Q (.int (l + 1)) ((H.set k (mem j (u + n) (l + 1))).set j (.idict (m + 1)))) : S_takeRoom (b0 + 2) [.obj k, .int n] H Q R := ⟨_, _, _, _, _, _, _, rfl, rfl, hk, hj, hkj, hm, hu, q⟩
theorem ok_takeRoom (w : World) : OK (GG w) 676 S_takeRoom := by
 refine mkOK [] ["self", "cost"] 2 ⟨_, _, _, rfl⟩ rfl (by kernel_rfl) rfl (fun vs hv => by obtain ⟨a, b, rfl⟩ := len2 hv; rfl) ?_
 rintro c ok hn hg _ _ H Q R ⟨b0, k, j, m, u, l, n, rfl, rfl, hk, hj, hkj, hm, hu, q⟩ hlt
 refine ⟨[_, _], ⟨rfl, rfl⟩, ?_⟩
 have hjk := hkj.symm
 refine xCons ?_
 refine sExpr ok ?_
 refine vMeth ?_
 refine Ev_l0 ok hn ?_
 refine Meth_o co_896 ‹_› (by decide +kernel) m_896_check_room ?_
 refine wFn (by kernel_rfl) ?_
 refine aCons ?_
 refine Ev_l1 ok hn ?_
 refine aNil ?_
 refine calFn ok (ok_checkRoom w) ?_
 refine S_checkRoom.mk ‹_› (by first | exact ‹_› | exact le2 ‹_› | omega) ?_
 refine nONE ?_
 refine xCons ?_
 refine sSeta ?_
 refine vBin ?_
 refine vAttrN ?_
 refine Ev_l0 ok hn ?_
 refine Get_o co_896 ‹_› (.s (.s (.s (.s (.s (.s (.s (.s .z)))))))) (.s (.s (.s (.s (.s (.s (.s (.s .z)))))))) (by kernel_rfl) rfl ?_
 refine Ev_int ?_
 refine Bin_add ?_
 refine Ev_l0 ok hn ?_
 refine Seta_o co_896 ‹_› (by kernel_rfl) (.s (.s (.s (.s (.s (.s (.s (.s .z)))))))) (by decide +kernel) (.s (.s (.s (.s (.s (.s (.s (.s .z)))))))) ?_
 refine xCons ?_
 refine sSeti ?_
 refine vTup ?_
 refine aCons ?_
 refine Ev_l1 ok hn ?_
 refine aCons ?_
 refine vAttrN ?_
 refine Ev_l0 ok hn ?_
 refine Get_o co_896 (get_set' ‹_›) (.s .z) (.s .z) (by kernel_rfl) rfl ?_
 refine aCons ?_
 refine vMeth ?_
 refine Ev_l0 ok hn ?_
 refine Meth_o co_896 (get_set' ‹_›) (by decide +kernel) m_896_body_level ?_
 refine Cw_fn0 (by kernel_rfl) ?_
 refine calFn ok (ok_bodyLevel w) ?_
 refine S_bodyLevel.mk (get_set' ‹_›) ?_
 refine aNil ?_
 refine ⟨Nat.le_of_ble_eq_true rfl, ?_⟩
 refine vAttrN ?_
 refine Ev_l0 ok hn ?_
 refine Get_o co_896 (get_set' ‹_›) (.s (.s (.s (.s .z)))) (.s (.s (.s (.s .z)))) (by kernel_rfl) rfl ?_
 refine vAttrN ?_
 refine Ev_l0 ok hn ?_
 refine Get_o co_896 (get_set' ‹_›) (.s (.s (.s (.s (.s (.s (.s (.s .z)))))))) (.s (.s (.s (.s (.s (.s (.s (.s .z)))))))) (by kernel_rfl) rfl ?_
 refine Seti_id (get_ne ‹_› ‹_›) (by first | exact ‹_› | exact le2 ‹_› | omega) ?_
 refine xCons ?_
 refine sIf ?_
 refine tVal ?_
 refine vAttrN ?_
 refine Ev_l0 ok hn ?_
 refine Get_o co_896 (get_ne ‹_› (get_set' ‹_›)) (.s .z) (.s .z) (by kernel_rfl) rfl ?_
 refine Tru_bool ?_
 refine brF rfl ?_
 refine xCons ?_
 refine sSeta ?_
 refine vBin ?_
 refine vAttrN ?_
 refine Ev_l0 ok hn ?_
 refine Get_o co_896 (get_ne ‹_› (get_set' ‹_›)) (.s (.s (.s (.s (.s (.s .z)))))) (.s (.s (.s (.s (.s (.s .z)))))) (by kernel_rfl) rfl ?_
 refine Ev_l1 ok hn ?_
 refine Bin_add ?_
 refine Ev_l0 ok hn ?_
 refine Seta_o co_896 (get_ne ‹_› (get_set' ‹_›)) (by kernel_rfl) (.s (.s (.s (.s (.s (.s .z)))))) (by decide +kernel) (.s (.s (.s (.s (.s (.s .z)))))) ?_
 refine xNil ?_
 refine xCons ?_
 refine sRet ?_
 refine vAttrN ?_
 refine Ev_l0 ok hn ?_
 refine Get_o co_896 (get_set' (get_ne ‹_› (get_set' ‹_›))) (.s (.s (.s (.s (.s (.s (.s (.s .z)))))))) (.s (.s (.s (.s (.s (.s (.s (.s .z)))))))) (by kernel_rfl) rfl ?_
 show Fin H Q _ (List.set (List.set (List.set H k _) j _) k _)
 rw [List.set_comm _ _ hjk, List.set_set]
 exact Fin.set2 (o := mem j (u + n) (l + 1)) trivial (mem_lt (lt_of_get hj)) trivial q
theorem Fin.tail {H H' X : List AO} {Q : QT} {av : AV} (h : Fin H Q av H') : Fin H Q av (H' ++ X) := by
 obtain ⟨H1, Y, e, a1, a2, a3, a4⟩ := h
 exact ⟨H1, Y ++ X, by rw [e, List.append_assoc], a1, a2, a3, a4⟩
theorem len2s {H : List AO} {j k : Nat} {o o' : AO} : ((H.set k o).set j o').length = H.length := by rw [List.length_set, List.length_set]
inductive S_makeRow (bud : Nat) (args : List AV) (H : List AO) (Q : QT) (R : RT) : Prop
 | c (b0 : Nat) (k j m z : Nat) (u l : Int) (vs : List AV) (h0 : bud = b0 + 3) (h1 : args = [.obj k, .obj z]) (h2 : H[k]? = some (mem j u l)) (h3 : H[j]? = some (.idict m)) (h4 : H[z]? = some (.list vs)) (h5 : k ≠ j) (h6 : k ≠ z) (h7 : j ≠ z) (h8 : m ≤ 1000) (h9 : vs.length ≤ 1000) (h10 : ltL H.length vs) (h11 : u + 8 * vs.length ≤ 16777216) (h12 : Q (rowA (l + 1) vs) ((H.set k (mem j (u + 8 * vs.length) (l + 1))).set j (.idict (m + 1)))) : S_makeRow bud args H Q R
theorem S_makeRow.mk {b0 : Nat} {k j m z : Nat} {u l : Int} {vs : List AV} {H : List AO} {Q : QT} {R : RT} (hk : H[k]? = some (mem j u l)) (hj : H[j]? = some (.idict m)) (hq : H[z]? = some (.list vs)) (hkj : k ≠ j) (hkz : k ≠ z) (hjz : j ≠ z) (hm : m ≤ 1000) (hz : vs.length ≤ 1000) (hl : ltL H.length vs) (hu : u + 8 * vs.length ≤ 16777216) (q : Q (rowA (l + 1) vs) ((H.set k (mem j (u + 8 * vs.length) (l + 1))).set j (.idict (m + 1)))) : S_makeRow (b0 + 3) [.obj k, .obj z] H Q R := ⟨_, _, _, _, _, _, _, _, rfl, rfl, hk, hj, hq, hkj, hkz, hjz, hm, hz, hl, hu, q⟩
theorem ok_makeRow (w : World) : OK (GG w) 704 S_makeRow := by
 refine mkOK ["isinstance", "int", "memory_check_many", "len", "Row", "ITEM_COST"] ["self", "things", "thing"] 2 ⟨_, _, _, rfl⟩ rfl (by kernel_rfl) rfl (fun vs hv => by obtain ⟨a, b, rfl⟩ := len2 hv; rfl) ?_
 rintro c ok hn hg _ _ H Q R ⟨b0, k, j, m, z, u, l, vs, rfl, rfl, hk, hj, hq, hkj, hkz, hjz, hm, hz, hl, hu, q'⟩ hlt
 refine ⟨[_, _, _], ⟨rfl, rfl⟩, ?_⟩
 have hjk := hkj.symm
 refine xCons ?_
 refine sIf ?_
 refine tVal ?_
 refine vCallN ?_
 refine Ev_gu ok hg .z b_isinstance ?_
 refine wBi ?_
 refine aCons ?_
 refine Ev_l1 ok hn ?_
 refine aCons ?_
 refine Ev_gu ok hg (.s .z) b_int ?_
 refine aNil ?_
 refine Cal_isi_list ‹_› ?_
 refine Tru_bool ?_
 refine brF rfl ?_
 refine xNil ?_
 refine xCons ?_
 refine sExpr ok ?_
 refine vCallN ?_
 refine Ev_gr ok hg (.s (.s .z)) g_memory_check_many ?_
 refine wFn (by kernel_rfl) ?_
 refine aCons ?_
 refine vCallN ?_
 refine Ev_gu ok hg (.s (.s (.s .z))) b_len ?_
 refine wBi ?_
 refine aCons ?_
 refine Ev_l1 ok hn ?_
 refine aNil ?_
 refine Cal_len_list ‹_› (by first | exact ‹_› | exact le2 ‹_› | omega) ?_
 refine aCons ?_
 refine vAttr ?_
 refine vAttrN ?_
 refine Ev_l0 ok hn ?_
 refine Get_o co_896 ‹_› .z .z (by kernel_rfl) rfl ?_
 refine Get_i co_615 (.s (.s (.s (.s (.s (.s .z)))))) (.s (.s (.s (.s (.s (.s .z)))))) (by kernel_rfl) rfl ?_
 refine aNil ?_
 refine calFn ok (ok_many w) ?_
 refine S_many.mk (by first | exact ‹_› | exact le2 ‹_› | omega) (by first | exact ‹_› | exact le2 ‹_› | omega) ?_
 refine nONE ?_
 refine xCons ?_
 refine sIf ?_
 refine tVal ?_
 refine vAttrN ?_
 refine Ev_l0 ok hn ?_
 refine Get_o co_896 ‹_› (.s .z) (.s .z) (by kernel_rfl) rfl ?_
 refine Tru_bool ?_
 refine brF rfl ?_
 refine xNil ?_
 refine xCons ?_
 refine sRet ?_
 refine vCallN ?_
 refine Ev_gr ok hg (.s (.s (.s (.s .z)))) g_Row ?_
 refine wFn (by kernel_rfl) ?_
 refine aCons ?_
 refine vMeth ?_
 refine Ev_l0 ok hn ?_
 refine Meth_o co_896 ‹_› (by decide +kernel) m_896_take_room ?_
 refine wFn (by kernel_rfl) ?_
 refine aCons ?_
 refine vBin ?_
 refine Ev_gi ok hg (.s (.s (.s (.s (.s .z))))) g_ITEM_COST ?_
 refine vCallN ?_
 refine Ev_gu ok hg (.s (.s (.s .z))) b_len ?_
 refine wBi ?_
 refine aCons ?_
 refine Ev_l1 ok hn ?_
 refine aNil ?_
 refine Cal_len_list ‹_› (by first | exact ‹_› | exact le2 ‹_› | omega) ?_
 refine Bin_mul (IntMulOk.of_left (by decide +kernel)) ?_
 refine aNil ?_
 refine calFn ok (ok_takeRoom w) ?_
 refine S_takeRoom.mk ‹_› ‹_› (by first | exact ‹_› | exact le2 ‹_› | omega) (by first | exact ‹_› | exact le2 ‹_› | omega) (by first | exact ‹_› | exact le2 ‹_› | omega) ?_
 refine aCons ?_
 refine Ev_l1 ok hn ?_
 refine aCons ?_
 refine vAttrN ?_
 refine Ev_l0 ok hn ?_
 refine Get_o co_896 (get_ne ‹_› (get_set' ‹_›)) (.s .z) (.s .z) (by kernel_rfl) rfl ?_
 refine aCons ?_
 refine vMeth ?_
 refine Ev_l0 ok hn ?_
 refine Meth_o co_896 (get_ne ‹_› (get_set' ‹_›)) (by decide +kernel) m_896_body_level ?_
 refine Cw_fn0 (by kernel_rfl) ?_
 refine calFn ok (ok_bodyLevel w) ?_
 refine S_bodyLevel.mk (get_ne ‹_› (get_set' ‹_›)) ?_
 refine aNil ?_
 refine Cal_newF rN [_, _, _, _] ok mk_247 (ok_row w) (S_row.mk get_end (get_app (get_ne hjz (get_ne hkz hq))) ?_ hz ?_ rfl rfl rfl (newOf set_end)) ?_
 ·rw [len2s]; exact fun e => Nat.lt_irrefl _ (e ▸ lt_of_get hq)
 ·exact ltL_mono (by rw [List.length_append, len2s]; exact Nat.le_add_right _ _) vs hl
 exact (Fin.set2 (av := rowA (l + 1) vs) (o := mem j (u + 8 * vs.length) (l + 1)) (o' := .idict (m + 1)) ⟨trivial, hl, trivial, trivial, trivial⟩ (mem_lt (lt_of_get hj)) trivial q').tail
inductive S_procedure (bud : Nat) (args : List AV) (H : List AO) (Q : QT) (R : RT) : Prop
 | c (b0 : Nat) (s k j m z : Nat) (u l : Int) (vs : List AV) (h0 : bud = b0 + 4) (h1 : args = [.obj s, .obj z, .bool false]) (h2 : H[s]? = some (.inst 585 ["memory"] [.obj k])) (h3 : H[k]? = some (mem j u l)) (h4 : H[j]? = some (.idict m)) (h5 : H[z]? = some (.list vs)) (h6 : k ≠ j) (h7 : k ≠ z) (h8 : j ≠ z) (h9 : m ≤ 1000) (h10 : vs.length ≤ 1000) (h11 : ltL H.length vs) (h12 : u + 8 * vs.length ≤ 16777216) (h13 : Q (thing (.str "array") (spanA (l + 1) vs) (.bool true) (.int 3)) ((H.set k (mem j (u + 8 * vs.length) (l + 1))).set j (.idict (m + 1)))) : S_procedure bud args H Q R
theorem S_procedure.mk {b0 : Nat} {s k j m z : Nat} {u l : Int} {vs : List AV} {H : List AO} {Q : QT} {R : RT} (hs : H[s]? = some (.inst 585 ["memory"] [.obj k])) (hk : H[k]? = some (mem j u l)) (hj : H[j]? = some (.idict m)) (hq : H[z]? = some (.list vs)) (hkj : k ≠ j) (hkz : k ≠ z) (hjz : j ≠ z) (hm : m ≤ 1000) (hz : vs.length ≤ 1000) (hl : ltL H.length vs) (hu : u + 8 * vs.length ≤ 16777216) (q : Q (thing (.str "array") (spanA (l + 1) vs) (.bool true) (.int 3)) ((H.set k (mem j (u + 8 * vs.length) (l + 1))).set j (.idict (m + 1)))) : S_procedure (b0 + 4) [.obj s, .obj z, .bool false] H Q R := ⟨_, _, _, _, _, _, _, _, _, rfl, rfl, hs, hk, hj, hq, hkj, hkz, hjz, hm, hz, hl, hu, q⟩
theorem ok_procedure (w : World) : OK (GG w) 530 S_procedure := by
 refine mkOK ["of_row"] ["self", "things", "is_packing", "row"] 3 ⟨_, _, _, rfl⟩ rfl (by kernel_rfl) rfl (fun vs hv => by obtain ⟨a, b, d, rfl⟩ := len3 hv; rfl) ?_
 rintro c ok hn hg _ _ H Q R ⟨b0, s, k, j, m, z, u, l, vs, rfl, rfl, hs, hk, hj, hq, hkj, hkz, hjz, hm, hz, hl, hu, q'⟩ hlt
 refine ⟨[_, _, _, _], ⟨rfl, rfl⟩, ?_⟩
 refine xCons ?_
 refine sSet ok hn (.s (.s (.s .z))) ?_
 refine vMeth ?_
 refine vAttrN ?_
 refine Ev_l0 ok hn ?_
 refine Get_o co_585 ‹_› .z .z (by kernel_rfl) rfl ?_
 refine Meth_o co_896 ‹_› (by decide +kernel) m_896_make_row ?_
 refine wFn (by kernel_rfl) ?_
 refine aCons ?_
 refine Ev_l1 ok hn ?_
 refine aNil ?_
 refine calFn ok (ok_makeRow w) ?_
 refine S_makeRow.mk ‹_› ‹_› ‹_› (by first | exact ‹_› | exact le2 ‹_› | omega) (by first | exact ‹_› | exact le2 ‹_› | omega) (by first | exact ‹_› | exact le2 ‹_› | omega) (by first | exact ‹_› | exact le2 ‹_› | omega) (by first | exact ‹_› | exact le2 ‹_› | omega) (by first | exact ‹_› | exact le2 ‹_› | omega) (by first | exact ‹_› | exact le2 ‹_› | omega) ?_
 refine sT3 ?_
 refine xCons ?_
 refine sRet ?_
 refine vIf ?_
 refine tVal ?_
 refine Ev_l2 ok hn ?_
 refine Tru_bool ?_
 refine brF rfl ?_
 refine vCallN ?_
 refine Ev_gr ok hg .z g_of_row ?_
 refine wFn (by kernel_rfl) ?_
 refine aCons ?_
 refine Ev_l3 ok hn ?_
 refine aCons ?_
 refine Ev_bool ?_
 refine aNil ?_
 refine calFn ok (ok_ofRow w) ?_
 refine S_ofRow.mk (by first | exact ‹_› | exact le2 ‹_› | omega) ?_
 exact Fin.set2 (av := thing (.str "array") (spanA (l + 1) vs) (.bool true) (.int 3)) (o := mem j (u + 8 * vs.length) (l + 1)) (o' := .idict (m + 1)) ⟨trivial, ⟨⟨trivial, hl, trivial, trivial, trivial⟩, trivial, trivial, trivial⟩, trivial, trivial, trivial⟩ (mem_lt (lt_of_get hj)) trivial q'
noncomputable def oA : Option Int → AV
 | some i => .int i
 | none => .none
noncomputable def dv (x : UInt8) : Option Int := if 48 ≤ (x.toNat : Int) ∧ (x.toNat : Int) ≤ 57 then some (x.toNat - 48) else if 65 ≤ (x.toNat : Int) ∧ (x.toNat : Int) ≤ 90 then some (x.toNat - 55) else if 97 ≤ (x.toNat : Int) ∧ (x.toNat : Int) ≤ 122 then some (x.toNat - 87) else none
inductive S_digit (bud : Nat) (args : List AV) (H : List AO) (Q : QT) (R : RT) : Prop
 | c (x : UInt8) (h0 : args = [.int x.toNat]) (h1 : ∀ a, a = oA (dv x) → Q a H) : S_digit bud args H Q R
theorem S_digit.mk {bud : Nat} {x : UInt8} {H : List AO} {Q : QT} {R : RT}  (q : ∀ a, a = oA (dv x) → Q a H) : S_digit bud [.int x.toNat] H Q R := ⟨_, rfl, q⟩
theorem ok_digit (w : World) : OK (GG w) 96 S_digit := by
 refine mkOK [] ["octet"] 1 ⟨_, _, _, rfl⟩ rfl (by kernel_rfl) rfl (fun vs hv => by obtain ⟨a, rfl⟩ := len1 hv; rfl) ?_
 rintro c ok hn hg _ _ H Q R ⟨x, rfl, q'⟩ hlt
 refine ⟨[_], ⟨rfl, rfl⟩, ?_⟩
 have q := q' _ rfl
 refine xCons ?_
 refine sIf ?_
 refine tCmp2 ?_
 refine Ev_int ?_
 refine Ev_l0 ok hn ?_
 refine Cmp_le_int ?_
 refine isB ?_
 refine br (fun c1 => ?_) (fun c1 => ?_)
 refine Ev_int ?_
 refine Cmp_le_int ?_
 refine isB ?_
 refine br (fun c2 => ?_) (fun c2 => ?_)
 refine xCons ?_
 refine sRet ?_
 refine vBin ?_
 refine Ev_l0 ok hn ?_
 refine Ev_int ?_
 refine Bin_sub ?_
 refine Fin.id trivial ?_
 rotate_left
 refine xNil ?_
 refine xCons ?_
 refine sIf ?_
 refine tCmp2 ?_
 refine Ev_int ?_
 refine Ev_l0 ok hn ?_
 refine Cmp_le_int ?_
 refine isB ?_
 refine br (fun c3 => ?_) (fun c3 => ?_)
 refine Ev_int ?_
 refine Cmp_le_int ?_
 refine isB ?_
 refine br (fun c4 => ?_) (fun c4 => ?_)
 refine xCons ?_
 refine sRet ?_
 refine vBin ?_
 refine Ev_l0 ok hn ?_
 refine Ev_int ?_
 refine Bin_sub ?_
 refine Fin.id trivial ?_
 rotate_left
 refine xNil ?_
 refine xCons ?_
 refine sIf ?_
 refine tCmp2 ?_
 refine Ev_int ?_
 refine Ev_l0 ok hn ?_
 refine Cmp_le_int ?_
 refine isB ?_
 refine br (fun c5 => ?_) (fun c5 => ?_)
 refine Ev_int ?_
 refine Cmp_le_int ?_
 refine isB ?_
 refine br (fun c6 => ?_) (fun c6 => ?_)
 refine xCons ?_
 refine sRet ?_
 refine vBin ?_
 refine Ev_l0 ok hn ?_
 refine Ev_int ?_
 refine Bin_sub ?_
 refine Fin.id trivial ?_
 rotate_left
 refine xNil ?_
 refine xCons ?_
 refine sRet ?_
 refine Ev_none ?_
 refine Fin.id trivial ?_
 rotate_left
 refine brF rfl ?_
 refine xNil ?_
 refine xCons ?_
 refine sRet ?_
 refine Ev_none ?_
 refine Fin.id trivial ?_
 rotate_left
 refine brF rfl ?_
 refine xNil ?_
 refine xCons ?_
 refine sIf ?_
 refine tCmp2 ?_
 refine Ev_int ?_
 refine Ev_l0 ok hn ?_
 refine Cmp_le_int ?_
 refine isB ?_
 refine br (fun c4 => ?_) (fun c4 => ?_)
 refine Ev_int ?_
 refine Cmp_le_int ?_
 refine isB ?_
 refine br (fun c5 => ?_) (fun c5 => ?_)
 refine xCons ?_
 refine sRet ?_
 refine vBin ?_
 refine Ev_l0 ok hn ?_
 refine Ev_int ?_
 refine Bin_sub ?_
 refine Fin.id trivial ?_
 rotate_left
 refine xNil ?_
 refine xCons ?_
 refine sRet ?_
 refine Ev_none ?_
 refine Fin.id trivial ?_
 rotate_left
 refine brF rfl ?_
 refine xNil ?_
 refine xCons ?_
 refine sRet ?_
 refine Ev_none ?_
 refine Fin.id trivial ?_
 rotate_left
 refine brF rfl ?_
 refine xNil ?_
 refine xCons ?_
 refine sIf ?_
 refine tCmp2 ?_
 refine Ev_int ?_
 refine Ev_l0 ok hn ?_
 refine Cmp_le_int ?_
 refine isB ?_
 refine br (fun c2 => ?_) (fun c2 => ?_)
 refine Ev_int ?_
 refine Cmp_le_int ?_
 refine isB ?_
 refine br (fun c3 => ?_) (fun c3 => ?_)
 refine xCons ?_
 refine sRet ?_
 refine vBin ?_
 refine Ev_l0 ok hn ?_
 refine Ev_int ?_
 refine Bin_sub ?_
 refine Fin.id trivial ?_
 rotate_left
 refine xNil ?_
 refine xCons ?_
 refine sIf ?_
 refine tCmp2 ?_
 refine Ev_int ?_
 refine Ev_l0 ok hn ?_
 refine Cmp_le_int ?_
 refine isB ?_
 refine br (fun c4 => ?_) (fun c4 => ?_)
 refine Ev_int ?_
 refine Cmp_le_int ?_
 refine isB ?_
 refine br (fun c5 => ?_) (fun c5 => ?_)
 refine xCons ?_
 refine sRet ?_
 refine vBin ?_
 refine Ev_l0 ok hn ?_
 refine Ev_int ?_
 refine Bin_sub ?_
 refine Fin.id trivial ?_
 rotate_left
 refine xNil ?_
 refine xCons ?_
 refine sRet ?_
 refine Ev_none ?_
 refine Fin.id trivial ?_
 rotate_left
 refine brF rfl ?_
 refine xNil ?_
 refine xCons ?_
 refine sRet ?_
 refine Ev_none ?_
 refine Fin.id trivial ?_
 rotate_left
 refine brF rfl ?_
 refine xNil ?_
 refine xCons ?_
 refine sIf ?_
 refine tCmp2 ?_
 refine Ev_int ?_
 refine Ev_l0 ok hn ?_
 refine Cmp_le_int ?_
 refine isB ?_
 refine br (fun c3 => ?_) (fun c3 => ?_)
 refine Ev_int ?_
 refine Cmp_le_int ?_
 refine isB ?_
 refine br (fun c4 => ?_) (fun c4 => ?_)
 refine xCons ?_
 refine sRet ?_
 refine vBin ?_
 refine Ev_l0 ok hn ?_
 refine Ev_int ?_
 refine Bin_sub ?_
 refine Fin.id trivial ?_
 rotate_left
 refine xNil ?_
 refine xCons ?_
 refine sRet ?_
 refine Ev_none ?_
 refine Fin.id trivial ?_
 rotate_left
 refine brF rfl ?_
 refine xNil ?_
 refine xCons ?_
 refine sRet ?_
 refine Ev_none ?_
 refine Fin.id trivial ?_
 rotate_left
 all_goals (unfold dv at q; simp only [decide_eq_true_eq, decide_eq_false_iff_not] at *; repeat' split at q)
 all_goals first | exact q | (exfalso; omega)
noncomputable def fvl : List UInt8 → Int → Int → Option Int
 | [], _, acc => some acc
 | x :: l, base, acc => match dv x with
  | none => none
  | some d => if base ≤ d then none else fvl l base (acc * base + d)
noncomputable def fv (b : List UInt8) (base : Int) : Option Int := if b.length == 0 then none else fvl b base 0
theorem bits_le {x : Int} {n : Nat} (h : x.natAbs < 2 ^ n) : Builtin.Int.intBits x ≤ n := by
 unfold Builtin.Int.intBits
 split
 ·exact Nat.zero_le _
 ·rename_i hx
  have : x.natAbs ≠ 0 := by intro e; apply hx; simp; omega
  exact (Nat.log2_lt this).mpr h
theorem mul36 {a b : Int} (h0 : 0 ≤ b) (h1 : b ≤ 36) : IntMulOk a b := IntMulOk.of_right (bits_le (by omega))
theorem ofb {b : List UInt8} {i : Nat} {v : AV} (h : (b.map fun x => AV.int x.toNat)[i]? = some v) : ∃ x, b[i]? = some x ∧ v = .int x.toNat := by
 rw [List.getElem?_map] at h
 obtain ⟨x, e1, e2⟩ := Option.map_eq_some_iff.mp h
 exact ⟨x, e1, e2.symm⟩
inductive S_figures (bud : Nat) (args : List AV) (H : List AO) (Q : QT) (R : RT) : Prop
 | c (b0 : Nat) (b : List UInt8) (base : Int) (h0 : bud = b0 + 1) (h1 : args = [.bytes b, .int base]) (h2 : 0 ≤ base) (h3 : base ≤ 36) (h4 : b.length ≤ 1000) (h5 : ∀ a, a = oA (fv b base) → Q a H) : S_figures bud args H Q R
theorem S_figures.mk {b0 : Nat} {b : List UInt8} {base : Int} {H : List AO} {Q : QT} {R : RT} (h0 : 0 ≤ base) (h1 : base ≤ 36) (hb : b.length ≤ 1000) (q : ∀ a, a = oA (fv b base) → Q a H) : S_figures (b0 + 1) [.bytes b, .int base] H Q R := ⟨_, _, _, rfl, rfl, h0, h1, hb, q⟩
theorem ok_figures (w : World) : OK (GG w) 138 S_figures := by
 refine mkOK ["len", "digit_value"] ["octets", "base", "found", "octet", "figure"] 2 ⟨_, _, _, rfl⟩ rfl (by kernel_rfl) rfl (fun vs hv => by obtain ⟨a, b, rfl⟩ := len2 hv; rfl) ?_
 rintro c ok hn hg _ _ H Q R ⟨b0, b, base, rfl, rfl, h0, h1, hb, q'⟩ hlt
 refine ⟨[_, _, _, _, _], ⟨rfl, rfl⟩, ?_⟩
 have q := q' _ rfl
 refine xCons ?_
 refine sIf ?_
 refine tCmp ?_
 refine vCallN ?_
 refine Ev_gu ok hg .z b_len ?_
 refine wBi ?_
 refine aCons ?_
 refine Ev_l0 ok hn ?_
 refine aNil ?_
 refine Cal_len_bytes (by first | exact le2 ‹_› | omega) ?_
 refine Ev_int ?_
 refine Cmp_eq_int ?_
 refine isB ?_
 refine br (fun c1 => ?_) (fun c1 => ?_)
 refine xCons ?_
 refine sRet ?_
 refine Ev_none ?_
 refine Fin.id trivial ?_
 rotate_left
 refine xNil ?_
 refine xCons ?_
 refine sSet ok hn (.s (.s .z)) ?_
 refine Ev_int ?_
 refine sT2 ?_
 refine xCons ?_
 rotate_left
 ·have : (b.length == 0) = true := by simpa using c1
  rw [fv, this] at q
  exact q
 have hb0 : (b.length == 0) = false := by rw [← c1]; cases b <;> rfl
 rw [fv, hb0] at q
 refine sForB (fun i st2 => ∃ acc o fg, st2 = ⟨[.bytes b, .int base, .int acc, o, fg], H⟩ ∧ o.lt H.length ∧ fg.lt H.length ∧ fvl (b.drop i) base acc = fvl b base 0) ok hn (.s (.s (.s .z))) b ?_
 refine Ev_l0 ok hn ?_
 refine ⟨rfl, ?_⟩
 refine ⟨rfl, ?_⟩
 refine ⟨⟨0, _, _, rfl, trivial, trivial, rfl⟩, ?_, ?_, ?_⟩
 ·rintro i _ ⟨acc, o, fg, rfl, _⟩; rfl
 ·rintro _ ⟨acc, o, fg, rfl, l1, l2, e⟩
  refine ⟨⟨trivial, trivial, trivial, l1, l2, trivial⟩, fun o ho => .inl ho, ?_⟩
  rw [List.length_map, List.drop_length, fvl] at e
  rw [← e] at q
  refine xCons ?_
  refine sRet ?_
  refine Ev_l2 ok hn ?_
  refine Fin.id trivial ?_
  exact q
 ·rintro i v _ os hv ⟨acc, o, fg, rfl, l1, l2, e⟩
  obtain ⟨x, hx, rfl⟩ := ofb hv
  obtain ⟨hi, hx'⟩ := List.getElem?_eq_some_iff.mp hx
  rw [List.drop_eq_getElem_cons hi, hx', fvl] at e
  refine t1 (.s (.s (.s .z))) ?_
  refine xCons ?_
  refine sSet ok hn (.s (.s (.s (.s .z)))) ?_
  refine vCallN ?_
  refine Ev_gr ok hg (.s .z) g_digit_value ?_
  refine wFn (by kernel_rfl) ?_
  refine aCons ?_
  refine Ev_l3 ok hn ?_
  refine aNil ?_
  refine calFn ok (ok_digit w) ?_
  refine S_digit.mk ?_
  intro a ha
  cases hd : dv x with
  | none =>
   rw [hd] at ha e
   obtain rfl : a = .none := ha
   refine sT4 ?_
   refine xCons ?_
   refine sIf ?_
   refine tBool ?_
   refine lOr ?_
   refine tCmp ?_
   refine Ev_l4 ok hn ?_
   refine Ev_none ?_
   refine Cmp_is_none ?_
   refine isB ?_
   refine brT rfl ?_
   refine brT rfl ?_
   refine xCons ?_
   refine sRet ?_
   refine Ev_none ?_
   rw [← e] at q
   exact Fin.same trivial q
  | some d =>
   rw [hd] at ha e
   obtain rfl : a = .int d := ha
   refine sT4 ?_
   refine xCons ?_
   refine sIf ?_
   refine tBool ?_
   refine lOr ?_
   refine tCmp ?_
   refine Ev_l4 ok hn ?_
   refine Ev_none ?_
   refine Cmp_is_none ?_
   refine isB ?_
   refine brF rfl ?_
   refine lOr ?_
   refine tCmp ?_
   refine Ev_l4 ok hn ?_
   refine Ev_l1 ok hn ?_
   refine Cmp_ge_int ?_
   refine isB ?_
   refine br (fun c2 => ?_) (fun c2 => ?_)
   refine brT rfl ?_
   refine xCons ?_
   refine sRet ?_
   refine Ev_none ?_
   rotate_left
   refine lOr0 ?_
   refine brF rfl ?_
   refine xNil ?_
   refine xCons ?_
   refine sSet ok hn (.s (.s .z)) ?_
   refine vBin ?_
   refine vBin ?_
   refine Ev_l2 ok hn ?_
   refine Ev_l1 ok hn ?_
   rotate_left
   ·have e2 : none = fvl b base 0 := (if_pos (of_decide_eq_true c2)).symm.trans e
    rw [← e2] at q
    exact Fin.same trivial q
   ·refine Bin_mul (mul36 h0 h1) ?_
    refine Ev_l4 ok hn ?_
    refine Bin_add ?_
    refine sT2 ?_
    refine xNil ?_
    refine ⟨_, rfl, ?_⟩
    refine ⟨rfl, ?_⟩
    exact ⟨_, _, _, rfl, trivial, trivial, ((if_neg (of_decide_eq_false c2)).symm.trans e)⟩
noncomputable abbrev lErr : List UInt8 := [108, 105, 109, 105, 116, 99, 104, 101, 99, 107]
noncomputable abbrev ab (i : Int) : Int := if i < 0 then -i else i
inductive Rn | non | int (i : Int) | real (i : Int) | bad
noncomputable def kRn (r : Rn) (Q : QT) (R : RT) (H : List AO) : Prop := match r with
 | .non => Q .none H
 | .int i => Q (.tup [.str "integer", .int i]) H
 | .real i => Q (.tup [.str "real", .int i]) H
 | .bad => R lErr H
noncomputable def sw (n : Int) : Int := if n.fmod 4294967296 ≤ 2147483647 then n.fmod 4294967296 else n.fmod 4294967296 - 4294967296
inductive S_signed (bud : Nat) (args : List AV) (H : List AO) (Q : QT) (R : RT) : Prop
 | c (n : Int) (h0 : args = [.int n]) (h1 : Q (.int (sw n)) H) : S_signed bud args H Q R
theorem S_signed.mk {bud : Nat} {n : Int} {H : List AO} {Q : QT} {R : RT}  (q : Q (.int (sw n)) H) : S_signed bud [.int n] H Q R := ⟨_, rfl, q⟩
theorem ok_signed (w : World) : OK (GG w) 152 S_signed := by
 refine mkOK ["WORD_SIZE", "MOST_INT"] ["number", "found"] 1 ⟨_, _, _, rfl⟩ rfl (by kernel_rfl) rfl (fun vs hv => by obtain ⟨a, rfl⟩ := len1 hv; rfl) ?_
 rintro c ok hn hg _ _ H Q R ⟨n, rfl, q⟩ hlt
 refine ⟨[_, _], ⟨rfl, rfl⟩, ?_⟩
 refine xCons ?_
 refine sSet ok hn (.s .z) ?_
 refine vBin ?_
 refine Ev_l0 ok hn ?_
 refine Ev_gi ok hg .z g_WORD_SIZE ?_
 refine Bin_mod (by decide) ?_
 refine sT1 ?_
 refine xCons ?_
 refine sRet ?_
 refine vIf ?_
 refine tCmp ?_
 refine Ev_l1 ok hn ?_
 refine Ev_gi ok hg (.s .z) g_MOST_INT ?_
 refine Cmp_le_int ?_
 refine isB ?_
 refine br (fun c1 => ?_) (fun c1 => ?_)
 refine Ev_l1 ok hn ?_
 refine Fin.id trivial ?_
 rotate_left
 refine vBin ?_
 refine Ev_l1 ok hn ?_
 refine Ev_gi ok hg .z g_WORD_SIZE ?_
 refine Bin_sub ?_
 refine Fin.id trivial ?_
 rotate_left
 ·rw [sw, if_pos (of_decide_eq_true c1)] at q; exact q
 ·rw [sw, if_neg (of_decide_eq_false c1)] at q; exact q
inductive S_isInt (bud : Nat) (args : List AV) (H : List AO) (Q : QT) (R : RT) : Prop
 | c (n : Int) (h0 : args = [.int n]) (h1 : Q (.bool (decide (-2147483648 ≤ n ∧ n ≤ 2147483647))) H) : S_isInt bud args H Q R
theorem S_isInt.mk {bud : Nat} {n : Int} {H : List AO} {Q : QT} {R : RT}  (q : Q (.bool (decide (-2147483648 ≤ n ∧ n ≤ 2147483647))) H) : S_isInt bud [.int n] H Q R := ⟨_, rfl, q⟩
theorem ok_isInt (w : World) : OK (GG w) 110 S_isInt := by
 refine mkOK ["LEAST_INT", "MOST_INT"] ["number"] 1 ⟨_, _, _, rfl⟩ rfl (by kernel_rfl) rfl (fun vs hv => by obtain ⟨a, rfl⟩ := len1 hv; rfl) ?_
 rintro c ok hn hg _ _ H Q R ⟨n, rfl, q⟩ hlt
 refine ⟨[_], ⟨rfl, rfl⟩, ?_⟩
 refine xCons ?_
 refine sRet ?_
 refine vCmp2 ?_
 refine Ev_gi ok hg .z g_LEAST_INT ?_
 refine Ev_l0 ok hn ?_
 refine Cmp_le_int ?_
 refine isB ?_
 refine br (fun c1 => ?_) (fun c1 => ?_)
 refine Ev_gi ok hg (.s .z) g_MOST_INT ?_
 refine Cmp_le_int ?_
 refine Fin.id trivial ?_
 rotate_left
 refine Fin.id trivial ?_
 rotate_left
 ·have h1 := of_decide_eq_true c1
  by_cases h2 : n ≤ 2147483647
  ·rw [decide_eq_true ⟨h1, h2⟩] at q; rw [decide_eq_true h2]; exact q
  ·rw [decide_eq_false (fun z => h2 z.2)] at q; rw [decide_eq_false h2]; exact q
 ·rw [decide_eq_false (fun z => of_decide_eq_false c1 z.1)] at q; exact q
noncomputable def ck (m : Int) : Option Int := if 1000000000000000000000 < ab m then none else some m
noncomputable def kOQ (r : Option Int) (Q : QT) (R : RT) (H : List AO) : Prop := match r with
 | some i => Q (.int i) H
 | none => R lErr H
inductive S_checked (bud : Nat) (args : List AV) (H : List AO) (Q : QT) (R : RT) : Prop
 | c (n : Int) (h0 : args = [.int n]) (h1 : kOQ (ck n) Q R H) : S_checked bud args H Q R
theorem S_checked.mk {bud : Nat} {n : Int} {H : List AO} {Q : QT} {R : RT}  (q : kOQ (ck n) Q R H) : S_checked bud [.int n] H Q R := ⟨_, rfl, q⟩
theorem ok_checked (w : World) : OK (GG w) 117 S_checked := by
 refine mkOK ["abs", "MOST_REAL", "PsError"] ["millionths"] 1 ⟨_, _, _, rfl⟩ rfl (by kernel_rfl) rfl (fun vs hv => by obtain ⟨a, rfl⟩ := len1 hv; rfl) ?_
 rintro c ok hn hg _ _ H Q R ⟨n, rfl, q⟩ hlt
 refine ⟨[_], ⟨rfl, rfl⟩, ?_⟩
 refine xCons ?_
 refine sIf ?_
 refine tCmp ?_
 refine vCallN ?_
 refine Ev_gu ok hg .z b_abs ?_
 refine wBi ?_
 refine aCons ?_
 refine Ev_l0 ok hn ?_
 refine aNil ?_
 refine Cal_abs ?_
 refine Ev_gi ok hg (.s .z) g_MOST_REAL ?_
 refine Cmp_gt_int ?_
 refine isB ?_
 refine br (fun c1 => ?_) (fun c1 => ?_)
 refine xCons ?_
 refine sRaise ok hg (.s (.s .z)) ?_
 refine Ev_bytes ?_
 refine rsB ?_
 rotate_left
 refine xNil ?_
 refine xCons ?_
 refine sRet ?_
 refine Ev_l0 ok hn ?_
 refine Fin.id trivial ?_
 rotate_left
 ·rw [ck, if_pos (of_decide_eq_true c1)] at q; exact FinE.id q
 ·rw [ck, if_neg (of_decide_eq_false c1)] at q; exact q
inductive S_realOf (bud : Nat) (args : List AV) (H : List AO) (Q : QT) (R : RT) : Prop
 | c (b0 : Nat) (n : Int) (h0 : bud = b0 + 1) (h1 : args = [.int n]) (h2 : kOQ (ck (n * 1000000)) Q R H) : S_realOf bud args H Q R
theorem S_realOf.mk {b0 : Nat} {n : Int} {H : List AO} {Q : QT} {R : RT}  (q : kOQ (ck (n * 1000000)) Q R H) : S_realOf (b0 + 1) [.int n] H Q R := ⟨_, _, rfl, rfl, q⟩
theorem ok_realOf (w : World) : OK (GG w) 124 S_realOf := by
 refine mkOK ["checked_real", "GRAIN"] ["number"] 1 ⟨_, _, _, rfl⟩ rfl (by kernel_rfl) rfl (fun vs hv => by obtain ⟨a, rfl⟩ := len1 hv; rfl) ?_
 rintro c ok hn hg _ _ H Q R ⟨b0, n, rfl, rfl, q⟩ hlt
 refine ⟨[_], ⟨rfl, rfl⟩, ?_⟩
 refine xCons ?_
 refine sRet ?_
 refine vCallN ?_
 refine Ev_gr ok hg .z g_checked_real ?_
 refine wFn (by kernel_rfl) ?_
 refine aCons ?_
 refine vBin ?_
 refine Ev_l0 ok hn ?_
 refine Ev_gi ok hg (.s .z) g_GRAIN ?_
 refine Bin_mul (IntMulOk.of_right (by decide +kernel)) ?_
 refine aNil ?_
 refine calFn ok (ok_checked w) ?_
 refine S_checked.mk ?_
 cases h : ck (n * 1000000) with
 | none => rw [h] at q; exact FinE.id q
 | some m => rw [h] at q; exact Fin.id trivial q
noncomputable def wn (n : Int) : Rn := if -2147483648 ≤ n ∧ n ≤ 2147483647 then .int n else match ck (n * 1000000) with
 | some m => .real m
 | none => .bad
inductive S_whole (bud : Nat) (args : List AV) (H : List AO) (Q : QT) (R : RT) : Prop
 | c (b0 : Nat) (n : Int) (h0 : bud = b0 + 2) (h1 : args = [.int n]) (h2 : kRn (wn n) Q R H) : S_whole bud args H Q R
theorem S_whole.mk {b0 : Nat} {n : Int} {H : List AO} {Q : QT} {R : RT}  (q : kRn (wn n) Q R H) : S_whole (b0 + 2) [.int n] H Q R := ⟨_, _, rfl, rfl, q⟩
theorem ok_whole (w : World) : OK (GG w) 131 S_whole := by
 refine mkOK ["is_integer_size", "INTEGER", "REAL", "real_of"] ["number"] 1 ⟨_, _, _, rfl⟩ rfl (by kernel_rfl) rfl (fun vs hv => by obtain ⟨a, rfl⟩ := len1 hv; rfl) ?_
 rintro c ok hn hg _ _ H Q R ⟨b0, n, rfl, rfl, q⟩ hlt
 refine ⟨[_], ⟨rfl, rfl⟩, ?_⟩
 refine xCons ?_
 refine sIf ?_
 refine tVal ?_
 refine vCallN ?_
 refine Ev_gr ok hg .z g_is_integer_size ?_
 refine wFn (by kernel_rfl) ?_
 refine aCons ?_
 refine Ev_l0 ok hn ?_
 refine aNil ?_
 refine calFn ok (ok_isInt w) ?_
 refine S_isInt.mk ?_
 refine Tru_bool ?_
 refine br (fun c1 => ?_) (fun c1 => ?_)
 refine xCons ?_
 refine sRet ?_
 refine vTup ?_
 refine aCons ?_
 refine Ev_gs ok hg (.s .z) g_INTEGER ?_
 refine aCons ?_
 refine Ev_l0 ok hn ?_
 refine aNil ?_
 refine ⟨Nat.le_of_ble_eq_true rfl, ?_⟩
 rotate_left
 refine xNil ?_
 refine xCons ?_
 refine sRet ?_
 refine vTup ?_
 refine aCons ?_
 refine Ev_gs ok hg (.s (.s .z)) g_REAL ?_
 refine aCons ?_
 refine vCallN ?_
 refine Ev_gr ok hg (.s (.s (.s .z))) g_real_of ?_
 refine wFn (by kernel_rfl) ?_
 refine aCons ?_
 refine Ev_l0 ok hn ?_
 refine aNil ?_
 refine calFn ok (ok_realOf w) ?_
 refine S_realOf.mk ?_
 rotate_left
 ·rw [wn, if_pos (of_decide_eq_true c1)] at q
  exact Fin.id (av := .tup [.str "integer", .int n]) ⟨trivial, trivial, trivial⟩ q
 rw [wn, if_neg (of_decide_eq_false c1)] at q
 cases h : ck (n * 1000000) with
 | none => rw [h] at q; exact FinE.id q
 | some m =>
  rw [h] at q
  refine aNil ?_
  refine ⟨Nat.le_of_ble_eq_true rfl, ?_⟩
  exact Fin.id (av := .tup [.str "real", .int m]) ⟨trivial, trivial, trivial⟩ q
theorem cut_len {b : List UInt8} {lo hi : Option Nat} : (cutL lo hi b).length ≤ b.length := by
 unfold cutL
 exact Nat.le_trans (List.length_take_le' _ _) (by rw [List.length_drop]; exact Nat.sub_le _ _)
noncomputable def rr (b : List UInt8) (at_ : Nat) : Rn := match fv (cutL none (some at_) b) 10 with
 | none => .non
 | some base => if 2 < at_ then .non else if 2 ≤ base ∧ base ≤ 36 then (match fv (cutL (some (at_ + 1)) none b) base with
  | none => .non
  | some f => if 4294967296 ≤ f then .bad else .int (sw f)) else .non
inductive S_radix (bud : Nat) (args : List AV) (H : List AO) (Q : QT) (R : RT) : Prop
 | c (b0 : Nat) (b : List UInt8) (n : Nat) (h0 : bud = b0 + 2) (h1 : args = [.bytes b, .int n]) (h2 : b.length ≤ 1000) (h3 : kRn (rr b n) Q R H) : S_radix bud args H Q R
theorem S_radix.mk {b0 : Nat} {b : List UInt8} {n : Nat} {H : List AO} {Q : QT} {R : RT} (hb : b.length ≤ 1000) (q : kRn (rr b n) Q R H) : S_radix (b0 + 2) [.bytes b, .int n] H Q R := ⟨_, _, _, rfl, rfl, hb, q⟩
theorem ok_radix (w : World) : OK (GG w) 145 S_radix := by
 refine mkOK ["figures_value", "WORD_SIZE", "PsError", "INTEGER", "signed_word"] ["octets", "at", "base", "found"] 2 ⟨_, _, _, rfl⟩ rfl (by kernel_rfl) rfl (fun vs hv => by obtain ⟨a, b, rfl⟩ := len2 hv; rfl) ?_
 rintro c ok hn hg _ _ H Q R ⟨b0, b, n, rfl, rfl, hb, q⟩ hlt
 refine ⟨[_, _, _, _], ⟨rfl, rfl⟩, ?_⟩
 have hl1 := cut_len (b := b) (lo := none) (hi := some n)
 have hl2 := cut_len (b := b) (lo := some (n + 1)) (hi := none)
 have h10 : (0 : Int) ≤ 10 := by decide
 have h36 : (10 : Int) ≤ 36 := by decide
 refine xCons ?_
 refine sSet ok hn (.s (.s .z)) ?_
 refine vCallN ?_
 refine Ev_gr ok hg .z g_figures_value ?_
 refine wFn (by kernel_rfl) ?_
 refine aCons ?_
 refine vCut ?_
 refine Ev_l0 ok hn ?_
 refine Eo_none ?_
 refine Eo_some ?_
 refine Ev_l1 ok hn ?_
 refine Cut_bytes (lo := none) (hi := some n) .none (.int rfl) (by first | exact le2 ‹_› | omega) ?_
 refine aCons ?_
 refine Ev_int ?_
 refine aNil ?_
 refine calFn ok (ok_figures w) ?_
 refine S_figures.mk (by first | exact ‹_› | exact le2 ‹_› | omega) (by first | exact ‹_› | exact le2 ‹_› | omega) (by first | exact ‹_› | exact le2 ‹_› | omega) ?_
 intro a ha
 unfold rr at q
 cases h : fv (cutL none (some n) b) 10 with
 | none =>
  rw [h] at ha q
  obtain rfl : a = .none := ha
  refine sT2 ?_
  refine xCons ?_
  refine sIf ?_
  refine tBool ?_
  refine lOr ?_
  refine tCmp ?_
  refine Ev_l2 ok hn ?_
  refine Ev_none ?_
  refine Cmp_is_none ?_
  refine isB ?_
  refine brT rfl ?_
  refine brT rfl ?_
  refine xCons ?_
  refine sRet ?_
  refine Ev_none ?_
  refine Fin.id trivial ?_
  exact q
 | some base =>
  rw [h] at ha q
  dsimp only at q
  obtain rfl : a = .int base := ha
  refine sT2 ?_
  refine xCons ?_
  refine sIf ?_
  refine tBool ?_
  refine lOr ?_
  refine tCmp ?_
  refine Ev_l2 ok hn ?_
  refine Ev_none ?_
  refine Cmp_is_none ?_
  refine isB ?_
  refine brF rfl ?_
  refine lOr ?_
  refine tCmp ?_
  refine Ev_l1 ok hn ?_
  refine Ev_int ?_
  refine Cmp_gt_int ?_
  refine isB ?_
  refine br (fun c1 => ?_) (fun c1 => ?_)
  refine brT rfl ?_
  refine xCons ?_
  refine sRet ?_
  refine Ev_none ?_
  refine Fin.id trivial ?_
  rotate_left
  refine lOr ?_
  refine tNot ?_
  refine tCmp2 ?_
  refine Ev_int ?_
  refine Ev_l2 ok hn ?_
  refine Cmp_le_int ?_
  refine isB ?_
  refine br (fun c2 => ?_) (fun c2 => ?_)
  refine Ev_int ?_
  refine Cmp_le_int ?_
  refine isB ?_
  refine br (fun c3 => ?_) (fun c3 => ?_)
  refine brT rfl ?_
  refine xCons ?_
  refine sRet ?_
  refine Ev_none ?_
  refine Fin.id trivial ?_
  rotate_left
  refine lOr0 ?_
  refine brF rfl ?_
  refine xNil ?_
  refine xCons ?_
  refine sSet ok hn (.s (.s (.s .z))) ?_
  refine vCallN ?_
  refine Ev_gr ok hg .z g_figures_value ?_
  refine wFn (by kernel_rfl) ?_
  refine aCons ?_
  refine vCut ?_
  refine Ev_l0 ok hn ?_
  refine Eo_some ?_
  refine vBin ?_
  refine Ev_l1 ok hn ?_
  refine Ev_int ?_
  refine Bin_add ?_
  refine Eo_none ?_
  rotate_left
  refine brT rfl ?_
  refine brT rfl ?_
  refine xCons ?_
  refine sRet ?_
  refine Ev_none ?_
  refine Fin.id trivial ?_
  rotate_left
  ·rw [if_pos (by have := of_decide_eq_true c1; omega)] at q; exact q
  all_goals rw [if_neg (by have := of_decide_eq_false c1; omega)] at q
  ·rw [if_neg (by have := of_decide_eq_false (nB c3); omega)] at q; exact q
  ·have b2 := of_decide_eq_true c2
   have b36 := of_decide_eq_true (nF c3)
   have b0' : 0 ≤ base := by omega
   rw [if_pos ⟨b2, b36⟩] at q
   refine Cut_bytes (lo := some (n + 1)) (hi := none) (.int (by omega)) .none (by first | exact le2 ‹_› | omega) ?_
   refine aCons ?_
   refine Ev_l2 ok hn ?_
   refine aNil ?_
   refine calFn ok (ok_figures w) ?_
   refine S_figures.mk (by first | exact ‹_› | exact le2 ‹_› | omega) (by first | exact ‹_› | exact le2 ‹_› | omega) (by first | exact ‹_› | exact le2 ‹_› | omega) ?_
   intro a ha
   cases h' : fv (cutL (some (n + 1)) none b) base with
   | none =>
    rw [h'] at ha q
    obtain rfl : a = .none := ha
    refine sT3 ?_
    refine xCons ?_
    refine sIf ?_
    refine tCmp ?_
    refine Ev_l3 ok hn ?_
    refine Ev_none ?_
    refine Cmp_is_none ?_
    refine isB ?_
    refine brT rfl ?_
    refine xCons ?_
    refine sRet ?_
    refine Ev_none ?_
    refine Fin.id trivial ?_
    exact q
   | some f =>
    rw [h'] at ha q
    dsimp only at q
    obtain rfl : a = .int f := ha
    refine sT3 ?_
    refine xCons ?_
    refine sIf ?_
    refine tCmp ?_
    refine Ev_l3 ok hn ?_
    refine Ev_none ?_
    refine Cmp_is_none ?_
    refine isB ?_
    refine brF rfl ?_
    refine xNil ?_
    refine xCons ?_
    refine sIf ?_
    refine tCmp ?_
    refine Ev_l3 ok hn ?_
    refine Ev_gi ok hg (.s .z) g_WORD_SIZE ?_
    refine Cmp_ge_int ?_
    refine isB ?_
    refine br (fun c4 => ?_) (fun c4 => ?_)
    refine xCons ?_
    refine sRaise ok hg (.s (.s .z)) ?_
    refine Ev_bytes ?_
    refine rsB ?_
    rotate_left
    refine xNil ?_
    refine xCons ?_
    refine sRet ?_
    refine vTup ?_
    refine aCons ?_
    refine Ev_gs ok hg (.s (.s (.s .z))) g_INTEGER ?_
    refine aCons ?_
    refine vCallN ?_
    refine Ev_gr ok hg (.s (.s (.s (.s .z)))) g_signed_word ?_
    refine wFn (by kernel_rfl) ?_
    refine aCons ?_
    refine Ev_l3 ok hn ?_
    refine aNil ?_
    refine calFn ok (ok_signed w) ?_
    refine S_signed.mk ?_
    refine aNil ?_
    refine ⟨Nat.le_of_ble_eq_true rfl, ?_⟩
    rotate_left
    ·rw [if_pos (of_decide_eq_true c4)] at q; exact FinE.id q
    ·rw [if_neg (of_decide_eq_false c4)] at q; exact Fin.id (av := .tup [.str "integer", .int (sw f)]) ⟨trivial, trivial, trivial⟩ q
  ·rw [if_neg (fun z => of_decide_eq_false c2 z.1)] at q; exact q
noncomputable def sgn (n : Bool) (i : Int) : Int := if n then -i else i
noncomputable def sg (b : List UInt8) : Bool := [43] == cutL none (some 1) b || ([45] == cutL none (some 1) b || false)
noncomputable def bgn (b : List UInt8) : Nat := if sg b then 1 else 0
theorem bgn_t {b : List UInt8} (h : sg b = true) : bgn b = 1 := if_pos h
theorem bgn_f {b : List UInt8} (h : sg b = false) : bgn b = 0 := if_neg (by rw [h]; decide)
theorem sgn_t {n : Bool} {i : Int} (h : n = true) : sgn n i = -i := if_pos h
theorem sgn_f {n : Bool} {i : Int} (h : n = false) : sgn n i = i := if_neg (by rw [h]; decide)
noncomputable def neg (b : List UInt8) : Bool := cutL none (some 1) b == [45]
noncomputable def rx (b : List UInt8) : Option Int := match fv (cutL (some (bgn b)) none b) 10 with
 | none => none
 | some f => some (sgn (neg b) (if 1000000 < f then 1000000 else f))
theorem ok_expo_pow : (10 : Int) ^ (6 : Int).toNat = 1000000 := by decide
inductive S_expo (bud : Nat) (args : List AV) (H : List AO) (Q : QT) (R : RT) : Prop
 | c (b0 : Nat) (b : List UInt8) (h0 : bud = b0 + 2) (h1 : args = [.bytes b]) (h2 : b.length ≤ 1000) (h3 : ∀ a, a = oA (rx b) → Q a H) : S_expo bud args H Q R
theorem S_expo.mk {b0 : Nat} {b : List UInt8} {H : List AO} {Q : QT} {R : RT} (hb : b.length ≤ 1000) (q : ∀ a, a = oA (rx b) → Q a H) : S_expo (b0 + 2) [.bytes b] H Q R := ⟨_, _, rfl, rfl, hb, q⟩
theorem ok_expo (w : World) : OK (GG w) 159 S_expo := by
 refine mkOK ["figures_value", "min", "MOST_FIGURES"] ["octets", "begin", "figures", "found"] 1 ⟨_, _, _, rfl⟩ rfl (by kernel_rfl) rfl (fun vs hv => by obtain ⟨a, rfl⟩ := len1 hv; rfl) ?_
 rintro c ok hn hg _ _ H Q R ⟨b0, b, rfl, rfl, hb, q'⟩ hlt
 refine ⟨[_, _, _, _], ⟨rfl, rfl⟩, ?_⟩
 have q := q' _ rfl
 unfold rx at q
 have h10 : (0 : Int) ≤ 10 := by decide
 have h36 : (10 : Int) ≤ 36 := by decide
 refine xCons ?_
 refine sSet ok hn (.s .z) ?_
 refine vIf ?_
 refine tCmp ?_
 refine vCut ?_
 refine Ev_l0 ok hn ?_
 refine Eo_none ?_
 refine Eo_some ?_
 refine Ev_int ?_
 refine Cut_bytes (lo := none) (hi := some 1) .none (.int rfl) (by first | exact le2 ‹_› | omega) ?_
 refine vTup ?_
 refine aCons ?_
 refine Ev_bytes ?_
 refine aCons ?_
 refine Ev_bytes ?_
 refine aNil ?_
 refine ⟨Nat.le_of_ble_eq_true rfl, ?_⟩
 refine Cmp_in_tup rfl ?_
 refine isB ?_
 refine br (fun c1 => ?_) (fun c1 => ?_)
 refine Ev_int ?_
 refine sT1 ?_
 refine xCons ?_
 refine sSet ok hn (.s (.s .z)) ?_
 refine vCut ?_
 refine Ev_l0 ok hn ?_
 refine Eo_some ?_
 refine Ev_l1 ok hn ?_
 refine Eo_none ?_
 rotate_left
 refine Ev_int ?_
 refine sT1 ?_
 refine xCons ?_
 refine sSet ok hn (.s (.s .z)) ?_
 refine vCut ?_
 refine Ev_l0 ok hn ?_
 refine Eo_some ?_
 refine Ev_l1 ok hn ?_
 refine Eo_none ?_
 rotate_left
 ·rw [bgn_t (show sg b = true from c1)] at q
  refine Cut_bytes (lo := some 1) (hi := none) (.int rfl) .none (by first | exact le2 ‹_› | omega) ?_
  have hl := cut_len (b := b) (lo := some 1) (hi := none)
  refine sT2 ?_
  refine xCons ?_
  refine sSet ok hn (.s (.s (.s .z))) ?_
  refine vCallN ?_
  refine Ev_gr ok hg .z g_figures_value ?_
  refine wFn (by kernel_rfl) ?_
  refine aCons ?_
  refine Ev_l2 ok hn ?_
  refine aCons ?_
  refine Ev_int ?_
  refine aNil ?_
  refine calFn ok (ok_figures w) ?_
  refine S_figures.mk (by first | exact ‹_› | exact le2 ‹_› | omega) (by first | exact ‹_› | exact le2 ‹_› | omega) (by first | exact ‹_› | exact le2 ‹_› | omega) ?_
  intro a ha
  cases h : fv (cutL (some 1) none b) 10 with
  | none =>
   rw [h] at ha q
   obtain rfl : a = .none := ha
   refine sT3 ?_
   refine xCons ?_
   refine sIf ?_
   refine tCmp ?_
   refine Ev_l3 ok hn ?_
   refine Ev_none ?_
   refine Cmp_is_none ?_
   refine isB ?_
   refine brT rfl ?_
   refine xCons ?_
   refine sRet ?_
   refine Ev_none ?_
   refine Fin.id trivial ?_
   exact q
  | some f =>
   rw [h] at ha q
   dsimp only at q
   obtain rfl : a = .int f := ha
   refine sT3 ?_
   refine xCons ?_
   refine sIf ?_
   refine tCmp ?_
   refine Ev_l3 ok hn ?_
   refine Ev_none ?_
   refine Cmp_is_none ?_
   refine isB ?_
   refine brF rfl ?_
   refine xNil ?_
   refine xCons ?_
   refine sSet ok hn (.s (.s (.s .z))) ?_
   refine vCallN ?_
   refine Ev_gu ok hg (.s .z) b_min ?_
   refine wBi ?_
   refine aCons ?_
   refine Ev_l3 ok hn ?_
   refine aCons ?_
   refine vBin ?_
   refine Ev_int ?_
   refine Ev_gi ok hg (.s (.s .z)) g_MOST_FIGURES ?_
   refine Bin_pow (by decide) (by decide) (by decide) (by decide +kernel) ?_
   rw [ok_expo_pow]
   refine aNil ?_
   refine Cal_min ?_
   refine sT3 ?_
   refine xCons ?_
   refine sRet ?_
   refine vIf ?_
   refine tCmp ?_
   refine vCut ?_
   refine Ev_l0 ok hn ?_
   refine Eo_none ?_
   refine Eo_some ?_
   refine Ev_int ?_
   refine Cut_bytes (lo := none) (hi := some 1) .none (.int rfl) (by first | exact le2 ‹_› | omega) ?_
   refine Ev_bytes ?_
   refine Cmp_eq_bytes ?_
   refine isB ?_
   refine br (fun c2 => ?_) (fun c2 => ?_)
   refine vUna ?_
   refine Ev_l3 ok hn ?_
   refine Una_neg ?_
   refine Fin.id trivial ?_
   rotate_left
   refine Ev_l3 ok hn ?_
   refine Fin.id trivial ?_
   rotate_left
   ·rw [sgn_t (show neg b = true from c2)] at q; exact q
   ·rw [sgn_f (show neg b = false from c2)] at q; exact q
 ·rw [bgn_f (show sg b = false from c1)] at q
  refine Cut_bytes (lo := some 0) (hi := none) (.int rfl) .none (by first | exact le2 ‹_› | omega) ?_
  have hl := cut_len (b := b) (lo := some 0) (hi := none)
  refine sT2 ?_
  refine xCons ?_
  refine sSet ok hn (.s (.s (.s .z))) ?_
  refine vCallN ?_
  refine Ev_gr ok hg .z g_figures_value ?_
  refine wFn (by kernel_rfl) ?_
  refine aCons ?_
  refine Ev_l2 ok hn ?_
  refine aCons ?_
  refine Ev_int ?_
  refine aNil ?_
  refine calFn ok (ok_figures w) ?_
  refine S_figures.mk (by first | exact ‹_› | exact le2 ‹_› | omega) (by first | exact ‹_› | exact le2 ‹_› | omega) (by first | exact ‹_› | exact le2 ‹_› | omega) ?_
  intro a ha
  cases h : fv (cutL (some 0) none b) 10 with
  | none =>
   rw [h] at ha q
   obtain rfl : a = .none := ha
   refine sT3 ?_
   refine xCons ?_
   refine sIf ?_
   refine tCmp ?_
   refine Ev_l3 ok hn ?_
   refine Ev_none ?_
   refine Cmp_is_none ?_
   refine isB ?_
   refine brT rfl ?_
   refine xCons ?_
   refine sRet ?_
   refine Ev_none ?_
   refine Fin.id trivial ?_
   exact q
  | some f =>
   rw [h] at ha q
   dsimp only at q
   obtain rfl : a = .int f := ha
   refine sT3 ?_
   refine xCons ?_
   refine sIf ?_
   refine tCmp ?_
   refine Ev_l3 ok hn ?_
   refine Ev_none ?_
   refine Cmp_is_none ?_
   refine isB ?_
   refine brF rfl ?_
   refine xNil ?_
   refine xCons ?_
   refine sSet ok hn (.s (.s (.s .z))) ?_
   refine vCallN ?_
   refine Ev_gu ok hg (.s .z) b_min ?_
   refine wBi ?_
   refine aCons ?_
   refine Ev_l3 ok hn ?_
   refine aCons ?_
   refine vBin ?_
   refine Ev_int ?_
   refine Ev_gi ok hg (.s (.s .z)) g_MOST_FIGURES ?_
   refine Bin_pow (by decide) (by decide) (by decide) (by decide +kernel) ?_
   rw [ok_expo_pow]
   refine aNil ?_
   refine Cal_min ?_
   refine sT3 ?_
   refine xCons ?_
   refine sRet ?_
   refine vIf ?_
   refine tCmp ?_
   refine vCut ?_
   refine Ev_l0 ok hn ?_
   refine Eo_none ?_
   refine Eo_some ?_
   refine Ev_int ?_
   refine Cut_bytes (lo := none) (hi := some 1) .none (.int rfl) (by first | exact le2 ‹_› | omega) ?_
   refine Ev_bytes ?_
   refine Cmp_eq_bytes ?_
   refine isB ?_
   refine br (fun c2 => ?_) (fun c2 => ?_)
   refine vUna ?_
   refine Ev_l3 ok hn ?_
   refine Una_neg ?_
   refine Fin.id trivial ?_
   rotate_left
   refine Ev_l3 ok hn ?_
   refine Fin.id trivial ?_
   rotate_left
   ·rw [sgn_t (show neg b = true from c2)] at q; exact q
   ·rw [sgn_f (show neg b = false from c2)] at q; exact q
noncomputable def dvd (n b : Int) : Int := if decide (n < 0) == decide (b < 0) then (2 * ab n + ab b).fdiv (2 * ab b) else -((2 * ab n + ab b).fdiv (2 * ab b))
inductive S_divided (bud : Nat) (args : List AV) (H : List AO) (Q : QT) (R : RT) : Prop
 | c (n b : Int) (h0 : args = [.int n, .int b]) (h1 : 0 < b) (h2 : Builtin.divisionGoesByPylong (2 * ab n + ab b) (2 * ab b) = false) (h3 : Q (.int (dvd n b)) H) : S_divided bud args H Q R
theorem S_divided.mk {bud : Nat} {n b : Int} {H : List AO} {Q : QT} {R : RT} (hb : 0 < b) (hp : Builtin.divisionGoesByPylong (2 * ab n + ab b) (2 * ab b) = false) (q : Q (.int (dvd n b)) H) : S_divided bud [.int n, .int b] H Q R := ⟨_, _, rfl, hb, hp, q⟩
theorem ok_divided (w : World) : OK (GG w) 103 S_divided := by
 refine mkOK ["abs"] ["number", "by", "size", "parts", "found"] 2 ⟨_, _, _, rfl⟩ rfl (by kernel_rfl) rfl (fun vs hv => by obtain ⟨a, b, rfl⟩ := len2 hv; rfl) ?_
 rintro c ok hn hg _ _ H Q R ⟨n, b, rfl, hb, hp, q⟩ hlt
 refine ⟨[_, _, _, _, _], ⟨rfl, rfl⟩, ?_⟩
 refine xCons ?_
 refine sTup2 ok hn (.s (.s .z)) (.s (.s (.s .z))) ?_
 refine vTup ?_
 refine aCons ?_
 refine vCallN ?_
 refine Ev_gu ok hg .z b_abs ?_
 refine wBi ?_
 refine aCons ?_
 refine Ev_l0 ok hn ?_
 refine aNil ?_
 refine Cal_abs ?_
 refine aCons ?_
 refine vCallN ?_
 refine Ev_gu ok hg .z b_abs ?_
 refine wBi ?_
 refine aCons ?_
 refine Ev_l1 ok hn ?_
 refine aNil ?_
 refine Cal_abs ?_
 refine aNil ?_
 refine ⟨Nat.le_of_ble_eq_true rfl, ?_⟩
 refine tsN (.s (.s (.s .z))) (.s (.s .z)) ?_
 refine xCons ?_
 refine sSet ok hn (.s (.s (.s (.s .z)))) ?_
 refine vBin ?_
 refine vBin ?_
 refine vBin ?_
 refine Ev_int ?_
 refine Ev_l2 ok hn ?_
 refine Bin_mul (IntMulOk.of_left (by decide +kernel)) ?_
 refine Ev_l3 ok hn ?_
 refine Bin_add ?_
 refine vBin ?_
 refine Ev_int ?_
 refine Ev_l3 ok hn ?_
 refine Bin_mul (IntMulOk.of_left (by decide +kernel)) ?_
 refine Bin_div (show (2 * ab b : Int) ≠ 0 from by unfold ab; split <;> omega) hp ?_
 refine sT4 ?_
 refine xCons ?_
 refine sRet ?_
 refine vIf ?_
 refine tCmp ?_
 refine vCmp ?_
 refine Ev_l0 ok hn ?_
 refine Ev_int ?_
 refine Cmp_lt_int ?_
 refine vCmp ?_
 refine Ev_l1 ok hn ?_
 refine Ev_int ?_
 refine Cmp_lt_int ?_
 refine Cmp_eq_bool ?_
 refine isB ?_
 refine br (fun c1 => ?_) (fun c1 => ?_)
 refine Ev_l4 ok hn ?_
 refine Fin.id trivial ?_
 rotate_left
 refine vUna ?_
 refine Ev_l4 ok hn ?_
 refine Una_neg ?_
 refine Fin.id trivial ?_
 rotate_left
 ·rw [dvd, if_pos c1] at q; exact q
 ·rw [dvd, if_neg (by rw [c1]; decide)] at q; exact q
theorem p10 (k : Nat) : 10 ^ k ≤ 2 ^ (4 * k) := by
 rw [Nat.pow_mul]
 exact Nat.pow_le_pow_left (by decide) k
theorem ab_p10 (k : Nat) : ab ((10 : Int) ^ k) = ((10 ^ k : Nat) : Int) := by
 have : (10 : Int) ^ k = ((10 ^ k : Nat) : Int) := by push_cast; rfl
 rw [ab, this]
 exact if_neg (Int.not_lt.mpr (Int.natCast_nonneg _))
theorem pylong_no {k : Nat} {x : Int} (h : k ≤ 400) : Builtin.divisionGoesByPylong x (2 * ab ((10 : Int) ^ k)) = false := by
 rw [ab_p10]
 unfold Builtin.divisionGoesByPylong
 have h3 := Nat.pow_pos (n := k) (show 0 < 10 by decide)
 have h4 := p10 k
 have h5 : 2 ^ (4 * k + 2) = 2 ^ (4 * k) * 4 := Nat.pow_add ..
 generalize 10 ^ k = y at *
 have h0 : (2 * (y : Int)).natAbs ≠ 0 := by omega
 have h1 : (2 * (y : Int)).natAbs < 2 ^ (4 * k + 2) := by
  rw [h5]
  generalize 2 ^ (4 * k) = z at *
  omega
 have h2 := (Nat.log2_lt h0).mpr h1
 dsimp only
 rw [Bool.and_eq_false_iff]
 left
 rw [decide_eq_false_iff_not]
 split <;> omega
theorem bits10 {k : Nat} : Builtin.Int.intBits ((10 : Int) ^ k) ≤ 4 * k + 1 := by
 refine bits_le ?_
 have h1 : ((10 : Int) ^ k).natAbs = 10 ^ k := by rw [Int.natAbs_pow]; rfl
 have h2 := p10 k
 have h3 := Nat.pow_pos (n := 4 * k) (show 0 < 2 by decide)
 rw [h1, Nat.pow_add]
 generalize 10 ^ k = y at *
 generalize 2 ^ (4 * k) = z at *
 omega
noncomputable def nsc (n t : Int) : Option Int := if n == 0 then some 0 else if 0 ≤ t then (if 32 < t then none else ck (n * 10 ^ t.toNat)) else if (Builtin.Int.intBits n : Int) < -t then some 0 else ck (dvd n (10 ^ (-t).toNat))
inductive S_scaled (bud : Nat) (args : List AV) (H : List AO) (Q : QT) (R : RT) : Prop
 | c (b0 : Nat) (n t : Int) (h0 : bud = b0 + 1) (h1 : args = [.int n, .int t]) (h2 : Builtin.Int.intBits n ≤ 400) (h3 : -2000000 ≤ t) (h4 : t ≤ 2000000) (h5 : kOQ (nsc n t) Q R H) : S_scaled bud args H Q R
theorem S_scaled.mk {b0 : Nat} {n t : Int} {H : List AO} {Q : QT} {R : RT} (hn : Builtin.Int.intBits n ≤ 400) (h0 : -2000000 ≤ t) (h1 : t ≤ 2000000) (q : kOQ (nsc n t) Q R H) : S_scaled (b0 + 1) [.int n, .int t] H Q R := ⟨_, _, _, rfl, rfl, hn, h0, h1, q⟩
theorem ok_scaled (w : World) : OK (GG w) 166 S_scaled := by
 refine mkOK ["PLACES", "PsError", "checked_real", "divided"] ["number", "tens"] 2 ⟨_, _, _, rfl⟩ rfl (by kernel_rfl) rfl (fun vs hv => by obtain ⟨a, b, rfl⟩ := len2 hv; rfl) ?_
 rintro c ok hn hg _ _ H Q R ⟨b0, n, t, rfl, rfl, hb, h0, h1, q⟩ hlt
 refine ⟨[_, _], ⟨rfl, rfl⟩, ?_⟩
 unfold nsc at q
 refine xCons ?_
 refine sIf ?_
 refine tCmp ?_
 refine Ev_l0 ok hn ?_
 refine Ev_int ?_
 refine Cmp_eq_int ?_
 refine isB ?_
 refine br (fun c1 => ?_) (fun c1 => ?_)
 refine xCons ?_
 refine sRet ?_
 refine Ev_int ?_
 refine Fin.id trivial ?_
 rotate_left
 refine xNil ?_
 refine xCons ?_
 refine sIf ?_
 refine tCmp ?_
 refine Ev_l1 ok hn ?_
 refine Ev_int ?_
 refine Cmp_ge_int ?_
 refine isB ?_
 refine br (fun c2 => ?_) (fun c2 => ?_)
 refine xCons ?_
 refine sIf ?_
 refine tCmp ?_
 refine Ev_l1 ok hn ?_
 refine vBin ?_
 refine vBin ?_
 refine Ev_int ?_
 refine Ev_gi ok hg .z g_PLACES ?_
 refine Bin_mul (IntMulOk.of_left (by decide +kernel)) ?_
 refine Ev_int ?_
 refine Bin_add ?_
 refine Cmp_gt_int ?_
 refine isB ?_
 refine br (fun c3 => ?_) (fun c3 => ?_)
 refine xCons ?_
 refine sRaise ok hg (.s .z) ?_
 refine Ev_bytes ?_
 refine rsB ?_
 rotate_left
 refine xNil ?_
 refine xCons ?_
 refine sRet ?_
 refine vCallN ?_
 refine Ev_gr ok hg (.s (.s .z)) g_checked_real ?_
 refine wFn (by kernel_rfl) ?_
 refine aCons ?_
 refine vBin ?_
 refine Ev_l0 ok hn ?_
 refine vBin ?_
 refine Ev_int ?_
 refine Ev_l1 ok hn ?_
 rotate_left
 refine xNil ?_
 refine xCons ?_
 refine sIf ?_
 refine tCmp ?_
 refine vUna ?_
 refine Ev_l1 ok hn ?_
 refine Una_neg ?_
 refine vMeth ?_
 refine Ev_l0 ok hn ?_
 refine Meth_bitlen ?_
 refine Cw_bi0 ?_
 refine Cal_bitlen ?_
 refine Cmp_gt_int ?_
 refine isB ?_
 refine br (fun c3 => ?_) (fun c3 => ?_)
 refine xCons ?_
 refine sRet ?_
 refine Ev_int ?_
 refine Fin.id trivial ?_
 rotate_left
 refine xNil ?_
 refine xCons ?_
 refine sRet ?_
 refine vCallN ?_
 refine Ev_gr ok hg (.s (.s .z)) g_checked_real ?_
 refine wFn (by kernel_rfl) ?_
 refine aCons ?_
 refine vCallN ?_
 refine Ev_gr ok hg (.s (.s (.s .z))) g_divided ?_
 refine wFn (by kernel_rfl) ?_
 refine aCons ?_
 refine Ev_l0 ok hn ?_
 refine aCons ?_
 refine vBin ?_
 refine Ev_int ?_
 refine vUna ?_
 refine Ev_l1 ok hn ?_
 refine Una_neg ?_
 rotate_left
 ·rw [c1] at q; exact q
 ·rw [c1, if_neg (by decide), if_pos (of_decide_eq_true c2), if_pos (show 32 < t from of_decide_eq_true c3)] at q; exact FinE.id q
 ·have c2' := of_decide_eq_true c2
  have c3' : ¬ 32 < t := of_decide_eq_false c3
  rw [c1, if_neg (by decide), if_pos c2', if_neg c3'] at q
  have hz : t ≤ 32 := Int.not_lt.mp c3'
  refine Bin_pow c2' (by omega) (by decide) (by show (4 : Int) * t ≤ 2 ^ 27; omega) ?_
  skip
  refine Bin_mul (IntMulOk.of_bits (by omega) (Nat.le_trans bits10 (by omega))) ?_
  refine aNil ?_
  refine calFn ok (ok_checked w) ?_
  refine S_checked.mk ?_
  cases h : ck (n * 10 ^ t.toNat) with
  | none => rw [h] at q; exact FinE.id q
  | some m => rw [h] at q; exact Fin.id trivial q
 ·rw [c1, if_neg (by decide), if_neg (of_decide_eq_false c2), if_pos (of_decide_eq_true c3)] at q; exact q
 ·have c2' := of_decide_eq_false c2
  have c3' := of_decide_eq_false c3
  rw [c1, if_neg (by decide), if_neg c2', if_neg c3'] at q
  refine Bin_pow (by omega) (by omega) (by decide) (by show (4 : Int) * -t ≤ 2 ^ 27; omega) ?_
  have hpos : (0 : Int) < 10 ^ (-t).toNat := Int.pow_pos (by decide)
  have hpy := pylong_no (k := (-t).toNat) (x := 2 * ab n + ab (10 ^ (-t).toNat)) (by omega)
  refine aNil ?_
  refine calFn ok (ok_divided w) ?_
  refine S_divided.mk (by first | exact ‹_› | exact le2 ‹_› | omega) ‹_› ?_
  refine aNil ?_
  refine calFn ok (ok_checked w) ?_
  refine S_checked.mk ?_
  cases h : ck (dvd n (10 ^ (-t).toNat)) with
  | none => rw [h] at q; exact FinE.id q
  | some m => rw [h] at q; exact Fin.id trivial q
theorem ofe {b : List UInt8} {i : Nat} {v : AV} (h : (b.zipIdx.map fun p => AV.tup [.int p.2, .int p.1.toNat])[i]? = some v) : ∃ x, b[i]? = some x ∧ v = .tup [.int i, .int x.toNat] := by
 rw [List.getElem?_map] at h
 obtain ⟨⟨x, j⟩, e1, e2⟩ := Option.map_eq_some_iff.mp h
 rw [List.getElem?_zipIdx] at e1
 obtain ⟨y, e3, e4⟩ := Option.map_eq_some_iff.mp e1
 cases e4
 exact ⟨x, e3, by rw [← e2]; simp⟩
theorem fi_at {p : UInt8 → Bool} {b : List UInt8} {i : Nat} {x : UInt8} (hx : b[i]? = some x) (hp : p x = true) (hn : ∀ (j : Nat) (y : UInt8), j < i → b[j]? = some y → p y = false) : b.findIdx? p = some i := by
 obtain ⟨hi, e⟩ := List.getElem?_eq_some_iff.mp hx
 rw [List.findIdx?_eq_some_iff_getElem]
 refine ⟨hi, by rw [e]; exact hp, fun j hj => ?_⟩
 rw [hn j b[j] hj (by simp [Nat.lt_trans hj hi])]; decide
theorem fi_no {p : UInt8 → Bool} {b : List UInt8} (hn : ∀ (j : Nat) (y : UInt8), j < b.length → b[j]? = some y → p y = false) : b.findIdx? p = none := by
 rw [List.findIdx?_eq_none_iff]
 intro y hy
 obtain ⟨j, hj, e⟩ := List.mem_iff_getElem.mp hy
 exact hn j y hj (by simp [hj, e])
theorem fi_step {p : UInt8 → Bool} {b : List UInt8} {i : Nat} {x : UInt8} (hx : b[i]? = some x) (hp : p x = false) (hn : ∀ (j : Nat) (y : UInt8), j < i → b[j]? = some y → p y = false) : ∀ (j : Nat) (y : UInt8), j < i + 1 → b[j]? = some y → p y = false := fun j y hj hy => by
 by_cases e : j = i
 ·subst e; rw [hx] at hy; cases hy; exact hp
 ·exact hn j y (by omega) hy
noncomputable def sp (b s : List UInt8) : List UInt8 × Option (List UInt8) := match b.findIdx? (fun x => s.contains x) with
 | some i => (cutL none (some i) b, some (cutL (some (i + 1)) none b))
 | none => (b, none)
noncomputable def oB : Option (List UInt8) → AV
 | some b => .bytes b
 | none => .none
inductive S_split (bud : Nat) (args : List AV) (H : List AO) (Q : QT) (R : RT) : Prop
 | c (b s : List UInt8) (h0 : args = [.bytes b, .bytes s]) (h1 : b.length ≤ 1000) (h2 : ∀ a, a = .tup [.bytes (sp b s).1, oB (sp b s).2] → Q a H) : S_split bud args H Q R
theorem S_split.mk {bud : Nat} {b s : List UInt8} {H : List AO} {Q : QT} {R : RT} (hb : b.length ≤ 1000) (q : ∀ a, a = .tup [.bytes (sp b s).1, oB (sp b s).2] → Q a H) : S_split bud [.bytes b, .bytes s] H Q R := ⟨_, _, rfl, hb, q⟩
theorem ok_split (w : World) : OK (GG w) 173 S_split := by
 refine mkOK ["enumerate"] ["octets", "signs", "at", "octet"] 2 ⟨_, _, _, rfl⟩ rfl (by kernel_rfl) rfl (fun vs hv => by obtain ⟨a, b, rfl⟩ := len2 hv; rfl) ?_
 rintro c ok hn hg _ _ H Q R ⟨b, s, rfl, hb, q'⟩ hlt
 refine ⟨[_, _, _, _], ⟨rfl, rfl⟩, ?_⟩
 have q := q' _ rfl
 refine xCons ?_
 refine sForE (i := 2) (j := 3) (fun i st2 => ∃ o1 o2, st2 = ⟨[.bytes b, .bytes s, o1, o2], H⟩ ∧ o1.lt H.length ∧ o2.lt H.length ∧ ∀ (j : Nat) (y : UInt8), j < i → b[j]? = some y → s.contains y = false) b ok hn hg .z (.s (.s .z)) (.s (.s (.s .z))) ?_
 refine Ev_l0 ok hn ?_
 refine ⟨rfl, ?_⟩
 refine ⟨rfl, ?_⟩
 refine ⟨⟨_, _, rfl, trivial, trivial, fun j y hj => absurd hj (Nat.not_lt_zero _)⟩, ?_, ?_, ?_⟩
 ·rintro i _ ⟨o1, o2, rfl, _⟩; rfl
 ·rintro _ ⟨o1, o2, rfl, l1, l2, e⟩
  refine ⟨⟨trivial, trivial, l1, l2, trivial⟩, fun o ho => .inl ho, ?_⟩
  rw [List.length_map, List.length_zipIdx] at e
  rw [sp, fi_no e] at q
  refine xCons ?_
  refine sRet ?_
  refine vTup ?_
  refine aCons ?_
  refine Ev_l0 ok hn ?_
  refine aCons ?_
  refine Ev_none ?_
  refine aNil ?_
  refine ⟨Nat.le_of_ble_eq_true rfl, ?_⟩
  exact Fin.id (av := .tup [.bytes b, .none]) ⟨trivial, trivial, trivial⟩ q
 ·rintro i v _ os hv ⟨o1, o2, rfl, l1, l2, e⟩
  obtain ⟨x, hx, rfl⟩ := ofe hv
  refine t2 (.s (.s .z)) (.s (.s (.s .z))) ?_
  refine xCons ?_
  refine sIf ?_
  refine tCmp ?_
  refine Ev_l3 ok hn ?_
  refine Ev_l1 ok hn ?_
  refine Cmp_in_bytes ?_
  refine isB ?_
  refine br (fun c1 => ?_) (fun c1 => ?_)
  refine xCons ?_
  refine sRet ?_
  refine vTup ?_
  refine aCons ?_
  refine vCut ?_
  refine Ev_l0 ok hn ?_
  refine Eo_none ?_
  refine Eo_some ?_
  refine Ev_l2 ok hn ?_
  rotate_left
  refine xNil ?_
  refine xNil ?_
  refine ⟨_, rfl, ?_⟩
  refine ⟨rfl, ?_⟩
  rotate_left
  ·rw [sp, fi_at (p := fun x => s.contains x) hx c1 e] at q
   refine Cut_bytes (lo := none) (hi := some i) .none (.int rfl) (by first | exact le2 ‹_› | omega) ?_
   refine aCons ?_
   refine vCut ?_
   refine Ev_l0 ok hn ?_
   refine Eo_some ?_
   refine vBin ?_
   refine Ev_l2 ok hn ?_
   refine Ev_int ?_
   refine Bin_add ?_
   refine Eo_none ?_
   refine Cut_bytes (lo := some (i + 1)) (hi := none) (.int (by omega)) .none (by first | exact le2 ‹_› | omega) ?_
   refine aNil ?_
   refine ⟨Nat.le_of_ble_eq_true rfl, ?_⟩
   exact Fin.same (av := .tup [.bytes (cutL none (some i) b), .bytes (cutL (some (i + 1)) none b)]) ⟨trivial, trivial, trivial⟩ q
  ·exact ⟨_, _, rfl, trivial, trivial, fi_step (p := fun x => s.contains x) hx c1 e⟩
theorem dv_lt {x : UInt8} {d : Int} (h : dv x = some d) : 0 ≤ d := by
 unfold dv at h
 repeat' split at h
 all_goals first | (cases h; omega) | cases h
theorem fvl_bd : ∀ {b : List UInt8} {acc f : Int} {n : Nat}, fvl b 10 acc = some f → 0 ≤ acc → acc < 10 ^ n → 0 ≤ f ∧ f < 10 ^ (n + b.length)
 | [], acc, f, n, h, h0, h1 => by
  cases h
  exact ⟨h0, h1⟩
 | x :: b, acc, f, n, h, h0, h1 => by
  unfold fvl at h
  cases hd : dv x with
  | none => rw [hd] at h; cases h
  | some d =>
   rw [hd] at h
   dsimp only at h
   have hd0 := dv_lt hd
   split at h
   ·cases h
   ·rename_i hlt
    have := fvl_bd (n := n + 1) h (by omega) (by rw [Int.pow_succ]; omega)
    rw [List.length_cons, show n + (b.length + 1) = n + 1 + b.length by omega]
    exact this
theorem fv_bd {b : List UInt8} {f : Int} (h : fv b 10 = some f) : 0 ≤ f ∧ f < 10 ^ b.length := by
 unfold fv at h
 split at h
 ·cases h
 ·have := fvl_bd (n := 0) h (by omega) (by decide)
  rwa [Nat.zero_add] at this
theorem fv_bits {b : List UInt8} {f : Int} {n : Bool} (h : fv b 10 = some f) (hb : b.length ≤ 100) : Builtin.Int.intBits (sgn n f) ≤ 400 := by
 obtain ⟨h0, h1⟩ := fv_bd h
 have h2 : f < ((10 ^ 100 : Nat) : Int) := Int.lt_of_lt_of_le h1 (by
  have : (10 : Int) ^ b.length = ((10 ^ b.length : Nat) : Int) := by push_cast; rfl
  rw [this]
  exact Int.ofNat_le.mpr (Nat.pow_le_pow_right (by decide) hb))
 have h3 : (10 : Nat) ^ 100 ≤ 2 ^ 400 := by decide +kernel
 refine bits_le ?_
 generalize (10 : Nat) ^ 100 = y at *
 generalize (2 : Nat) ^ 400 = z at *
 unfold sgn
 split <;> omega
theorem rx_bd {b : List UInt8} {t : Int} (h : rx b = some t) : -1000000 ≤ t ∧ t ≤ 1000000 := by
 unfold rx at h
 cases hf : fv (cutL (some (bgn b)) none b) 10 with
 | none => rw [hf] at h; cases h
 | some f =>
  rw [hf] at h
  have := fv_bd hf
  injection h with h
  subst h
  unfold sgn
  repeat' split
  all_goals omega
noncomputable def rl (b : List UInt8) (n : Bool) : Rn :=
 if (sp b [101, 69]).2.isNone && (sp (sp b [101, 69]).1 [46]).2.isNone then .non else
 match (match (sp b [101, 69]).2 with | none => some 0 | some e => rx e), fv ((sp (sp b [101, 69]).1 [46]).1 ++ (sp (sp b [101, 69]).1 [46]).2.getD []) 10 with
 | some t, some m => (match nsc (sgn n m) (t - ((sp (sp b [101, 69]).1 [46]).2.getD []).length + 6) with
  | some r => .real r
  | none => .bad)
 | _, _ => .non
theorem mm {i n : Nat} : min i n + (n - (i + 1)) ≤ n := by
 rcases Nat.le_total n i with h | h
 ·rw [Nat.min_eq_right h, Nat.sub_eq_zero_of_le (Nat.le_succ_of_le h)]; exact Nat.le_refl _
 ·rw [Nat.min_eq_left h]; exact Nat.le_trans (Nat.add_le_add_left (Nat.sub_le_sub_left (Nat.le_succ i) n) i) (Nat.le_of_eq (Nat.add_sub_of_le h))
theorem sp_len {b s : List UInt8} : (sp b s).1.length + ((sp b s).2.getD []).length ≤ b.length ∧ ∀ r, (sp b s).2 = some r → r.length ≤ b.length := by
 unfold sp
 cases h : b.findIdx? (fun x => s.contains x) with
 | none => exact ⟨by simp, fun r e => by cases e⟩
 | some i =>
  refine ⟨?_, fun r e => by cases e; exact cut_len⟩
  show ((b.drop 0).take (i - 0)).length + ((b.drop (i + 1)).take (b.length - (i + 1))).length ≤ b.length
  refine Nat.le_trans (Nat.add_le_add (d := (b.drop (i + 1)).length) (Nat.le_of_eq List.length_take) (List.length_take_le' _ _)) ?_
  rw [List.length_drop, List.length_drop]
  exact mm
theorem sTail {G : Gl} {c : FnC} {bud : Nat} {x s1 s2 : Stmt} {rest : List Stmt} {Q : PF} {R : PR} {st : St} (T : St → Prop) (ht : ∀ st', T st' → Ex G c bud rest Q R st') (h : (∀ st', T st' → Ex G c bud rest Q R st') → Es G c bud x (kX G c bud (s1 :: s2 :: rest) Q R) R st) : Es G c bud x (kX G c bud (s1 :: s2 :: rest) Q R) R st := h ht
inductive S_readReal (bud : Nat) (args : List AV) (H : List AO) (Q : QT) (R : RT) : Prop
 | c (b0 : Nat) (b : List UInt8) (n : Bool) (h0 : bud = b0 + 3) (h1 : args = [.bytes b, .bool n]) (h2 : b.length ≤ 100) (h3 : kRn (rl b n) Q R H) : S_readReal bud args H Q R
theorem S_readReal.mk {b0 : Nat} {b : List UInt8} {n : Bool} {H : List AO} {Q : QT} {R : RT} (hb : b.length ≤ 100) (q : kRn (rl b n) Q R H) : S_readReal (b0 + 3) [.bytes b, .bool n] H Q R := ⟨_, _, _, rfl, rfl, hb, q⟩
theorem ok_readReal (w : World) : OK (GG w) 180 S_readReal := by
 refine mkOK ["split_at", "read_exponent", "figures_value", "REAL", "number_scaled", "len", "PLACES"] ["octets", "is_below", "figures", "exponent", "whole", "rest", "tens", "behind", "number"] 2 ⟨_, _, _, rfl⟩ rfl (by kernel_rfl) rfl (fun vs hv => by obtain ⟨a, b, rfl⟩ := len2 hv; rfl) ?_
 rintro c ok hn hg _ _ H Q R ⟨b0, b, n, rfl, rfl, hb, q⟩ hlt
 refine ⟨[_, _, _, _, _, _, _, _, _], ⟨rfl, rfl⟩, ?_⟩
 have l1 := sp_len (b := b) (s := [101, 69])
 have l2 := sp_len (b := (sp b [101, 69]).1) (s := [46])
 have h10 : (0 : Int) ≤ 10 := by decide
 have h36 : (10 : Int) ≤ 36 := by decide
 unfold rl at q
 refine xCons ?_
 refine sTupN ok hn (.s (.s .z)) (.s (.s (.s .z))) ?_
 refine vCallN ?_
 refine Ev_gr ok hg .z g_split_at ?_
 refine wFn (by kernel_rfl) ?_
 refine aCons ?_
 refine Ev_l0 ok hn ?_
 refine aCons ?_
 refine Ev_bytes ?_
 refine aNil ?_
 refine calFn ok (ok_split w) ?_
 refine S_split.mk (by first | exact ‹_› | exact le2 ‹_› | omega) ?_
 rintro _ rfl
 refine tuN (.s (.s .z)) (.s (.s (.s .z))) ?_
 refine xCons ?_
 refine sTupN ok hn (.s (.s (.s (.s .z)))) (.s (.s (.s (.s (.s .z))))) ?_
 refine vCallN ?_
 refine Ev_gr ok hg .z g_split_at ?_
 refine wFn (by kernel_rfl) ?_
 refine aCons ?_
 refine Ev_l2 ok hn ?_
 refine aCons ?_
 refine Ev_bytes ?_
 refine aNil ?_
 refine calFn ok (ok_split w) ?_
 refine S_split.mk (by first | exact ‹_› | exact le2 ‹_› | omega) ?_
 rintro _ rfl
 generalize sp (sp b [101, 69]).1 [46] = wr at *
 generalize sp b [101, 69] = fe at *
 obtain ⟨fi, ex⟩ := fe
 obtain ⟨wh, re⟩ := wr
 dsimp only at *
 refine tuN (.s (.s (.s (.s .z)))) (.s (.s (.s (.s (.s .z))))) ?_
 refine xCons ?_
 refine sTail (fun st' => ∃ tv bd ea ra, st' = ⟨[.bytes b, .bool n, .bytes fi, ea, .bytes wh, ra, oA tv, .bytes bd, .un], H⟩ ∧ wh.length + bd.length ≤ 100 ∧ (∀ t, tv = some t → -1000000 ≤ t ∧ t ≤ 1000000) ∧ ea.isUn = false ∧
  kRn (match tv, fv (wh ++ bd) 10 with | some t, some m => (match nsc (sgn n m) (t - bd.length + 6) with | some r => .real r | none => .bad) | _, _ => .non) Q R H) ?_ (fun tl => ?_)
 ·rintro _ ⟨tv, bd, ea, ra, rfl, hz, ht, hea, q⟩
  have hl : (wh ++ bd).length ≤ 1000 := by rw [List.length_append]; omega
  have hl' : (wh ++ bd).length ≤ 100 := by rw [List.length_append]; exact hz
  cases tv with
  | none =>
   rw [show oA none = .none from rfl]
   refine xCons ?_
   refine sSet ok hn (.s (.s (.s (.s (.s (.s (.s (.s .z)))))))) ?_
   refine vCallN ?_
   refine Ev_gr ok hg (.s (.s .z)) g_figures_value ?_
   refine wFn (by kernel_rfl) ?_
   refine aCons ?_
   refine vBin ?_
   refine Ev_l4 ok hn ?_
   refine Ev_l ok hn (.s (.s (.s (.s (.s (.s (.s .z))))))) (.s (.s (.s (.s (.s (.s (.s .z))))))) rfl ?_
   refine Bin_add_bytes (by first | exact le2 ‹_› | omega) ?_
   refine aCons ?_
   refine Ev_int ?_
   refine aNil ?_
   refine calFn ok (ok_figures w) ?_
   refine S_figures.mk (by first | exact ‹_› | exact le2 ‹_› | omega) (by first | exact ‹_› | exact le2 ‹_› | omega) (by first | exact ‹_› | exact le2 ‹_› | omega) ?_
   intro a ha
   cases hm : fv (wh ++ bd) 10 with
   | none =>
    rw [hm] at ha
    obtain rfl : a = .none := ha
    refine sT (.s (.s (.s (.s (.s (.s (.s (.s .z)))))))) ?_
    refine xCons ?_
    refine sIf ?_
    refine tBool ?_
    refine lOr ?_
    refine tCmp ?_
    refine Ev_l6 ok hn ?_
    refine Ev_none ?_
    refine Cmp_is_none ?_
    refine isB ?_
    refine brT rfl ?_
    refine brT rfl ?_
    refine xCons ?_
    refine sRet ?_
    refine Ev_none ?_
    refine Fin.id trivial ?_
    exact q
   | some m =>
    rw [hm] at ha
    obtain rfl : a = .int m := ha
    refine sT (.s (.s (.s (.s (.s (.s (.s (.s .z)))))))) ?_
    refine xCons ?_
    refine sIf ?_
    refine tBool ?_
    refine lOr ?_
    refine tCmp ?_
    refine Ev_l6 ok hn ?_
    refine Ev_none ?_
    refine Cmp_is_none ?_
    refine isB ?_
    refine brT rfl ?_
    refine brT rfl ?_
    refine xCons ?_
    refine sRet ?_
    refine Ev_none ?_
    refine Fin.id trivial ?_
    exact q
  | some t =>
   have ht := ht t rfl
   rw [show oA (some t) = .int t from rfl]
   refine xCons ?_
   refine sSet ok hn (.s (.s (.s (.s (.s (.s (.s (.s .z)))))))) ?_
   refine vCallN ?_
   refine Ev_gr ok hg (.s (.s .z)) g_figures_value ?_
   refine wFn (by kernel_rfl) ?_
   refine aCons ?_
   refine vBin ?_
   refine Ev_l4 ok hn ?_
   refine Ev_l ok hn (.s (.s (.s (.s (.s (.s (.s .z))))))) (.s (.s (.s (.s (.s (.s (.s .z))))))) rfl ?_
   refine Bin_add_bytes (by first | exact le2 ‹_› | omega) ?_
   refine aCons ?_
   refine Ev_int ?_
   refine aNil ?_
   refine calFn ok (ok_figures w) ?_
   refine S_figures.mk (by first | exact ‹_› | exact le2 ‹_› | omega) (by first | exact ‹_› | exact le2 ‹_› | omega) (by first | exact ‹_› | exact le2 ‹_› | omega) ?_
   intro a ha
   cases hm : fv (wh ++ bd) 10 with
   | none =>
    rw [hm] at ha q
    obtain rfl : a = .none := ha
    refine sT (.s (.s (.s (.s (.s (.s (.s (.s .z)))))))) ?_
    refine xCons ?_
    refine sIf ?_
    refine tBool ?_
    refine lOr ?_
    refine tCmp ?_
    refine Ev_l6 ok hn ?_
    refine Ev_none ?_
    refine Cmp_is_none ?_
    refine isB ?_
    refine brF rfl ?_
    refine lOr ?_
    refine tCmp ?_
    refine Ev_l ok hn (.s (.s (.s (.s (.s (.s (.s (.s .z)))))))) (.s (.s (.s (.s (.s (.s (.s (.s .z)))))))) rfl ?_
    refine Ev_none ?_
    refine Cmp_is_none ?_
    refine isB ?_
    refine brT rfl ?_
    refine brT rfl ?_
    refine xCons ?_
    refine sRet ?_
    refine Ev_none ?_
    refine Fin.id trivial ?_
    exact q
   | some m =>
    rw [hm] at ha q
    dsimp only at q
    obtain rfl : a = .int m := ha
    have e1 : Builtin.Int.intBits (-m) ≤ 400 := fv_bits (n := true) hm hl'
    have e2 : Builtin.Int.intBits m ≤ 400 := fv_bits (n := false) hm hl'
    refine sT (.s (.s (.s (.s (.s (.s (.s (.s .z)))))))) ?_
    refine xCons ?_
    refine sIf ?_
    refine tBool ?_
    refine lOr ?_
    refine tCmp ?_
    refine Ev_l6 ok hn ?_
    refine Ev_none ?_
    refine Cmp_is_none ?_
    refine isB ?_
    refine brF rfl ?_
    refine lOr ?_
    refine tCmp ?_
    refine Ev_l ok hn (.s (.s (.s (.s (.s (.s (.s (.s .z)))))))) (.s (.s (.s (.s (.s (.s (.s (.s .z)))))))) rfl ?_
    refine Ev_none ?_
    refine Cmp_is_none ?_
    refine isB ?_
    refine brF rfl ?_
    refine lOr0 ?_
    refine brF rfl ?_
    refine xNil ?_
    refine xCons ?_
    refine sRet ?_
    refine vTup ?_
    refine aCons ?_
    refine Ev_gs ok hg (.s (.s (.s .z))) g_REAL ?_
    refine aCons ?_
    refine vCallN ?_
    refine Ev_gr ok hg (.s (.s (.s (.s .z)))) g_number_scaled ?_
    refine wFn (by kernel_rfl) ?_
    refine aCons ?_
    refine vIf ?_
    refine tVal ?_
    refine Ev_l1 ok hn ?_
    refine Tru_bool ?_
    refine br (fun c1 => ?_) (fun c1 => ?_)
    refine vUna ?_
    refine Ev_l ok hn (.s (.s (.s (.s (.s (.s (.s (.s .z)))))))) (.s (.s (.s (.s (.s (.s (.s (.s .z)))))))) rfl ?_
    refine Una_neg ?_
    refine aCons ?_
    refine vBin ?_
    refine vBin ?_
    refine Ev_l6 ok hn ?_
    refine vCallN ?_
    refine Ev_gu ok hg (.s (.s (.s (.s (.s .z))))) b_len ?_
    refine wBi ?_
    refine aCons ?_
    refine Ev_l ok hn (.s (.s (.s (.s (.s (.s (.s .z))))))) (.s (.s (.s (.s (.s (.s (.s .z))))))) rfl ?_
    refine aNil ?_
    refine Cal_len_bytes (by first | exact le2 ‹_› | omega) ?_
    refine Bin_sub ?_
    refine Ev_gi ok hg (.s (.s (.s (.s (.s (.s .z)))))) g_PLACES ?_
    refine Bin_add ?_
    refine aNil ?_
    refine calFn ok (ok_scaled w) ?_
    refine S_scaled.mk (by first | exact ‹_› | exact le2 ‹_› | omega) (by first | exact ‹_› | exact le2 ‹_› | omega) (by first | exact ‹_› | exact le2 ‹_› | omega) ?_
    rotate_left
    refine Ev_l ok hn (.s (.s (.s (.s (.s (.s (.s (.s .z)))))))) (.s (.s (.s (.s (.s (.s (.s (.s .z)))))))) rfl ?_
    refine aCons ?_
    refine vBin ?_
    refine vBin ?_
    refine Ev_l6 ok hn ?_
    refine vCallN ?_
    refine Ev_gu ok hg (.s (.s (.s (.s (.s .z))))) b_len ?_
    refine wBi ?_
    refine aCons ?_
    refine Ev_l ok hn (.s (.s (.s (.s (.s (.s (.s .z))))))) (.s (.s (.s (.s (.s (.s (.s .z))))))) rfl ?_
    refine aNil ?_
    refine Cal_len_bytes (by first | exact le2 ‹_› | omega) ?_
    refine Bin_sub ?_
    refine Ev_gi ok hg (.s (.s (.s (.s (.s (.s .z)))))) g_PLACES ?_
    refine Bin_add ?_
    refine aNil ?_
    refine calFn ok (ok_scaled w) ?_
    refine S_scaled.mk (by first | exact ‹_› | exact le2 ‹_› | omega) (by first | exact ‹_› | exact le2 ‹_› | omega) (by first | exact ‹_› | exact le2 ‹_› | omega) ?_
    rotate_left
    ·rw [sgn_t c1] at q
     cases h : nsc (-m) (t - (bd.length : Int) + 6) with
     | none => rw [h] at q; exact FinE.id q
     | some r' =>
      rw [h] at q
      refine aNil ?_
      refine ⟨Nat.le_of_ble_eq_true rfl, ?_⟩
      exact Fin.id (av := .tup [.str "real", .int r']) ⟨trivial, trivial, trivial⟩ q
    ·rw [sgn_f c1] at q
     cases h : nsc m (t - (bd.length : Int) + 6) with
     | none => rw [h] at q; exact FinE.id q
     | some r' =>
      rw [h] at q
      refine aNil ?_
      refine ⟨Nat.le_of_ble_eq_true rfl, ?_⟩
      exact Fin.id (av := .tup [.str "real", .int r']) ⟨trivial, trivial, trivial⟩ q
 cases ex <;> cases re
 all_goals dsimp only [oB, Option.isNone, Option.getD] at *
 ·refine sIf ?_
  refine tBool ?_
  refine lAnd ?_
  refine tCmp ?_
  refine Ev_l3 ok hn ?_
  refine Ev_none ?_
  refine Cmp_is_none ?_
  refine isB ?_
  refine brT rfl ?_
  refine lAnd ?_
  refine tCmp ?_
  refine Ev_l5 ok hn ?_
  refine Ev_none ?_
  refine Cmp_is_none ?_
  refine isB ?_
  refine brT rfl ?_
  refine lAnd0 ?_
  refine brT rfl ?_
  refine xCons ?_
  refine sRet ?_
  refine Ev_none ?_
  refine Fin.id trivial ?_
  exact q
 ·rename_i r
  refine sIf ?_
  refine tBool ?_
  refine lAnd ?_
  refine tCmp ?_
  refine Ev_l3 ok hn ?_
  refine Ev_none ?_
  refine Cmp_is_none ?_
  refine isB ?_
  refine brT rfl ?_
  refine lAnd ?_
  refine tCmp ?_
  refine Ev_l5 ok hn ?_
  refine Ev_none ?_
  refine Cmp_is_none ?_
  refine isB ?_
  refine brF rfl ?_
  refine brF rfl ?_
  refine xNil ?_
  refine xCons ?_
  refine sSet ok hn (.s (.s (.s (.s (.s (.s .z)))))) ?_
  refine vIf ?_
  refine tCmp ?_
  refine Ev_l3 ok hn ?_
  refine Ev_none ?_
  refine Cmp_is_none ?_
  refine isB ?_
  refine brT rfl ?_
  refine Ev_int ?_
  refine sT6 ?_
  refine xCons ?_
  refine sSet ok hn (.s (.s (.s (.s (.s (.s (.s .z))))))) ?_
  refine vIf ?_
  refine tCmp ?_
  refine Ev_l5 ok hn ?_
  refine Ev_none ?_
  refine Cmp_is_none ?_
  refine isB ?_
  refine brF rfl ?_
  refine Ev_l5 ok hn ?_
  refine sT (.s (.s (.s (.s (.s (.s (.s .z))))))) ?_
  refine tl _ ?_
  exact ⟨some 0, r, _, _, rfl, by omega, fun t e => by cases e; decide, rfl, q⟩
 ·rename_i e
  have le := l1.2 e rfl
  refine sIf ?_
  refine tBool ?_
  refine lAnd ?_
  refine tCmp ?_
  refine Ev_l3 ok hn ?_
  refine Ev_none ?_
  refine Cmp_is_none ?_
  refine isB ?_
  refine brF rfl ?_
  refine brF rfl ?_
  refine xNil ?_
  refine xCons ?_
  refine sSet ok hn (.s (.s (.s (.s (.s (.s .z)))))) ?_
  refine vIf ?_
  refine tCmp ?_
  refine Ev_l3 ok hn ?_
  refine Ev_none ?_
  refine Cmp_is_none ?_
  refine isB ?_
  refine brF rfl ?_
  refine vCallN ?_
  refine Ev_gr ok hg (.s .z) g_read_exponent ?_
  refine wFn (by kernel_rfl) ?_
  refine aCons ?_
  refine Ev_l3 ok hn ?_
  refine aNil ?_
  refine calFn ok (ok_expo w) ?_
  refine S_expo.mk (by first | exact ‹_› | exact le2 ‹_› | omega) ?_
  intro a ha
  obtain rfl : a = oA (rx e) := ha
  have hu : (oA (rx e)).isUn = false := by cases rx e <;> rfl
  refine sT6 ?_
  refine xCons ?_
  refine sSet ok hn (.s (.s (.s (.s (.s (.s (.s .z))))))) ?_
  refine vIf ?_
  refine tCmp ?_
  refine Ev_l5 ok hn ?_
  refine Ev_none ?_
  refine Cmp_is_none ?_
  refine isB ?_
  refine brT rfl ?_
  refine Ev_bytes ?_
  refine sT (.s (.s (.s (.s (.s (.s (.s .z))))))) ?_
  refine tl _ ?_
  exact ⟨rx e, [], _, _, rfl, by omega, fun t h => rx_bd h, rfl, q⟩
 ·rename_i e r
  have le := l1.2 e rfl
  refine sIf ?_
  refine tBool ?_
  refine lAnd ?_
  refine tCmp ?_
  refine Ev_l3 ok hn ?_
  refine Ev_none ?_
  refine Cmp_is_none ?_
  refine isB ?_
  refine brF rfl ?_
  refine brF rfl ?_
  refine xNil ?_
  refine xCons ?_
  refine sSet ok hn (.s (.s (.s (.s (.s (.s .z)))))) ?_
  refine vIf ?_
  refine tCmp ?_
  refine Ev_l3 ok hn ?_
  refine Ev_none ?_
  refine Cmp_is_none ?_
  refine isB ?_
  refine brF rfl ?_
  refine vCallN ?_
  refine Ev_gr ok hg (.s .z) g_read_exponent ?_
  refine wFn (by kernel_rfl) ?_
  refine aCons ?_
  refine Ev_l3 ok hn ?_
  refine aNil ?_
  refine calFn ok (ok_expo w) ?_
  refine S_expo.mk (by first | exact ‹_› | exact le2 ‹_› | omega) ?_
  intro a ha
  obtain rfl : a = oA (rx e) := ha
  have hu : (oA (rx e)).isUn = false := by cases rx e <;> rfl
  refine sT6 ?_
  refine xCons ?_
  refine sSet ok hn (.s (.s (.s (.s (.s (.s (.s .z))))))) ?_
  refine vIf ?_
  refine tCmp ?_
  refine Ev_l5 ok hn ?_
  refine Ev_none ?_
  refine Cmp_is_none ?_
  refine isB ?_
  refine brF rfl ?_
  refine Ev_l5 ok hn ?_
  refine sT (.s (.s (.s (.s (.s (.s (.s .z))))))) ?_
  refine tl _ ?_
  exact ⟨rx e, r, _, _, rfl, by omega, fun t h => rx_bd h, rfl, q⟩
noncomputable def rn (b : List UInt8) : Rn := match b.findIdx? (fun x => ((x.toNat : Int) == 35)) with
 | some i => rr b i
 | none => match fv (cutL (some (bgn b)) none b) 10 with
  | some f => wn (sgn (neg b) f)
  | none => rl (cutL (some (bgn b)) none b) (neg b)
theorem kRn_map {H H' : List AO} {Q Q' : QT} {R R' : RT} (r : Rn) (q : kRn r Q R H) (h1 : ∀ v : AV, (∀ n, v.lt n) → Q v H → Q' v H') (h2 : ∀ b, R b H → R' b H') : kRn r Q' R' H' := by
 cases r with
 | non => exact h1 _ (fun _ => trivial) q
 | int i => exact h1 _ (fun _ => ⟨trivial, trivial, trivial⟩) q
 | real i => exact h1 _ (fun _ => ⟨trivial, trivial, trivial⟩) q
 | bad => exact h2 _ q
inductive S_number (bud : Nat) (args : List AV) (H : List AO) (Q : QT) (R : RT) : Prop
 | c (b0 : Nat) (b : List UInt8) (h0 : bud = b0 + 4) (h1 : args = [.bytes b]) (h2 : b.length ≤ 100) (h3 : kRn (rn b) Q R H) : S_number bud args H Q R
theorem S_number.mk {b0 : Nat} {b : List UInt8} {H : List AO} {Q : QT} {R : RT} (hb : b.length ≤ 100) (q : kRn (rn b) Q R H) : S_number (b0 + 4) [.bytes b] H Q R := ⟨_, _, rfl, rfl, hb, q⟩
theorem ok_number (w : World) : OK (GG w) 187 S_number := by
 refine mkOK ["enumerate", "read_radix", "figures_value", "whole_number", "read_real"] ["octets", "at", "octet", "begin", "is_below", "number"] 1 ⟨_, _, _, rfl⟩ rfl (by kernel_rfl) rfl (fun vs hv => by obtain ⟨a, rfl⟩ := len1 hv; rfl) ?_
 rintro c ok hn hg _ _ H Q R ⟨b0, b, rfl, rfl, hb, q⟩ hlt
 refine ⟨[_, _, _, _, _, _], ⟨rfl, rfl⟩, ?_⟩
 unfold rn at q
 refine xCons ?_
 refine sForE (i := 1) (j := 2) (fun i st2 => ∃ o1 o2, st2 = ⟨[.bytes b, o1, o2, .un, .un, .un], H⟩ ∧ o1.lt H.length ∧ o2.lt H.length ∧ ∀ (j : Nat) (y : UInt8), j < i → b[j]? = some y → ((y.toNat : Int) == 35) = false) b ok hn hg .z (.s .z) (.s (.s .z)) ?_
 refine Ev_l0 ok hn ?_
 refine ⟨rfl, ?_⟩
 refine ⟨rfl, ?_⟩
 refine ⟨⟨_, _, rfl, trivial, trivial, fun j y hj => absurd hj (Nat.not_lt_zero _)⟩, ?_, ?_, ?_⟩
 ·rintro i _ ⟨o1, o2, rfl, _⟩; rfl
 ·rintro _ ⟨o1, o2, rfl, l1, l2, e⟩
  refine ⟨⟨trivial, l1, l2, trivial, trivial, trivial, trivial⟩, fun o ho => .inl ho, ?_⟩
  rw [List.length_map, List.length_zipIdx] at e
  rw [fi_no e] at q
  dsimp only at q
  have h10 : (0 : Int) ≤ 10 := by decide
  have h36 : (10 : Int) ≤ 36 := by decide
  refine xCons ?_
  refine sSet ok hn (.s (.s (.s .z))) ?_
  refine vIf ?_
  refine tCmp ?_
  refine vCut ?_
  refine Ev_l0 ok hn ?_
  refine Eo_none ?_
  refine Eo_some ?_
  refine Ev_int ?_
  refine Cut_bytes (lo := none) (hi := some 1) .none (.int rfl) (by first | exact le2 ‹_› | omega) ?_
  refine vTup ?_
  refine aCons ?_
  refine Ev_bytes ?_
  refine aCons ?_
  refine Ev_bytes ?_
  refine aNil ?_
  refine ⟨Nat.le_of_ble_eq_true rfl, ?_⟩
  refine Cmp_in_tup rfl ?_
  refine isB ?_
  refine br (fun c1 => ?_) (fun c1 => ?_)
  refine Ev_int ?_
  refine sT3 ?_
  refine xCons ?_
  refine sSet ok hn (.s (.s (.s (.s .z)))) ?_
  refine vCmp ?_
  refine vCut ?_
  refine Ev_l0 ok hn ?_
  refine Eo_none ?_
  refine Eo_some ?_
  refine Ev_int ?_
  rotate_left
  refine Ev_int ?_
  refine sT3 ?_
  refine xCons ?_
  refine sSet ok hn (.s (.s (.s (.s .z)))) ?_
  refine vCmp ?_
  refine vCut ?_
  refine Ev_l0 ok hn ?_
  refine Eo_none ?_
  refine Eo_some ?_
  refine Ev_int ?_
  rotate_left
  ·rw [bgn_t (show sg b = true from c1)] at q
   have hl := cut_len (b := b) (lo := some 1) (hi := none)
   refine Cut_bytes (lo := none) (hi := some 1) .none (.int rfl) (by first | exact le2 ‹_› | omega) ?_
   refine Ev_bytes ?_
   refine Cmp_eq_bytes ?_
   refine sT4 ?_
   refine xCons ?_
   refine sSet ok hn (.s (.s (.s (.s (.s .z))))) ?_
   refine vCallN ?_
   refine Ev_gr ok hg (.s (.s .z)) g_figures_value ?_
   refine wFn (by kernel_rfl) ?_
   refine aCons ?_
   refine vCut ?_
   refine Ev_l0 ok hn ?_
   refine Eo_some ?_
   refine Ev_l3 ok hn ?_
   refine Eo_none ?_
   refine Cut_bytes (lo := some 1) (hi := none) (.int rfl) .none (by first | exact le2 ‹_› | omega) ?_
   refine aCons ?_
   refine Ev_int ?_
   refine aNil ?_
   refine calFn ok (ok_figures w) ?_
   refine S_figures.mk (by first | exact ‹_› | exact le2 ‹_› | omega) (by first | exact ‹_› | exact le2 ‹_› | omega) (by first | exact ‹_› | exact le2 ‹_› | omega) ?_
   intro a ha
   cases h : fv (cutL (some 1) none b) 10 with
   | none =>
    rw [h] at ha q
    obtain rfl : a = .none := ha
    refine sT5 ?_
    refine xCons ?_
    refine sIf ?_
    refine tCmp ?_
    refine Ev_l5 ok hn ?_
    refine Ev_none ?_
    refine Cmp_isnt_none ?_
    refine isB ?_
    refine brF rfl ?_
    refine xNil ?_
    refine xCons ?_
    refine sRet ?_
    refine vCallN ?_
    refine Ev_gr ok hg (.s (.s (.s (.s .z)))) g_read_real ?_
    refine wFn (by kernel_rfl) ?_
    refine aCons ?_
    refine vCut ?_
    refine Ev_l0 ok hn ?_
    refine Eo_some ?_
    refine Ev_l3 ok hn ?_
    refine Eo_none ?_
    refine Cut_bytes (lo := some 1) (hi := none) (.int rfl) .none (by first | exact le2 ‹_› | omega) ?_
    refine aCons ?_
    refine Ev_l4 ok hn ?_
    refine aNil ?_
    refine calFn ok (ok_readReal w) ?_
    refine S_readReal.mk (by first | exact ‹_› | exact le2 ‹_› | omega) ?_
    exact kRn_map _ q (fun v l q => Fin.id (l _) q) fun b q => FinE.id q
   | some f =>
    rw [h] at ha q
    dsimp only at q
    obtain rfl : a = .int f := ha
    refine sT5 ?_
    refine xCons ?_
    refine sIf ?_
    refine tCmp ?_
    refine Ev_l5 ok hn ?_
    refine Ev_none ?_
    refine Cmp_isnt_none ?_
    refine isB ?_
    refine brT rfl ?_
    refine xCons ?_
    refine sRet ?_
    refine vCallN ?_
    refine Ev_gr ok hg (.s (.s (.s .z))) g_whole_number ?_
    refine wFn (by kernel_rfl) ?_
    refine aCons ?_
    refine vIf ?_
    refine tVal ?_
    refine Ev_l4 ok hn ?_
    refine Tru_bool ?_
    refine br (fun c2 => ?_) (fun c2 => ?_)
    refine vUna ?_
    refine Ev_l5 ok hn ?_
    refine Una_neg ?_
    refine aNil ?_
    refine calFn ok (ok_whole w) ?_
    refine S_whole.mk ?_
    rotate_left
    refine Ev_l5 ok hn ?_
    refine aNil ?_
    refine calFn ok (ok_whole w) ?_
    refine S_whole.mk ?_
    rotate_left
    ·rw [sgn_t (show neg b = true from c2)] at q
     exact kRn_map _ q (fun v l q => Fin.id (l _) q) fun b q => FinE.id q
    ·rw [sgn_f (show neg b = false from c2)] at q
     exact kRn_map _ q (fun v l q => Fin.id (l _) q) fun b q => FinE.id q
  ·rw [bgn_f (show sg b = false from c1)] at q
   have hl := cut_len (b := b) (lo := some 0) (hi := none)
   refine Cut_bytes (lo := none) (hi := some 1) .none (.int rfl) (by first | exact le2 ‹_› | omega) ?_
   refine Ev_bytes ?_
   refine Cmp_eq_bytes ?_
   refine sT4 ?_
   refine xCons ?_
   refine sSet ok hn (.s (.s (.s (.s (.s .z))))) ?_
   refine vCallN ?_
   refine Ev_gr ok hg (.s (.s .z)) g_figures_value ?_
   refine wFn (by kernel_rfl) ?_
   refine aCons ?_
   refine vCut ?_
   refine Ev_l0 ok hn ?_
   refine Eo_some ?_
   refine Ev_l3 ok hn ?_
   refine Eo_none ?_
   refine Cut_bytes (lo := some 0) (hi := none) (.int rfl) .none (by first | exact le2 ‹_› | omega) ?_
   refine aCons ?_
   refine Ev_int ?_
   refine aNil ?_
   refine calFn ok (ok_figures w) ?_
   refine S_figures.mk (by first | exact ‹_› | exact le2 ‹_› | omega) (by first | exact ‹_› | exact le2 ‹_› | omega) (by first | exact ‹_› | exact le2 ‹_› | omega) ?_
   intro a ha
   cases h : fv (cutL (some 0) none b) 10 with
   | none =>
    rw [h] at ha q
    obtain rfl : a = .none := ha
    refine sT5 ?_
    refine xCons ?_
    refine sIf ?_
    refine tCmp ?_
    refine Ev_l5 ok hn ?_
    refine Ev_none ?_
    refine Cmp_isnt_none ?_
    refine isB ?_
    refine brF rfl ?_
    refine xNil ?_
    refine xCons ?_
    refine sRet ?_
    refine vCallN ?_
    refine Ev_gr ok hg (.s (.s (.s (.s .z)))) g_read_real ?_
    refine wFn (by kernel_rfl) ?_
    refine aCons ?_
    refine vCut ?_
    refine Ev_l0 ok hn ?_
    refine Eo_some ?_
    refine Ev_l3 ok hn ?_
    refine Eo_none ?_
    refine Cut_bytes (lo := some 0) (hi := none) (.int rfl) .none (by first | exact le2 ‹_› | omega) ?_
    refine aCons ?_
    refine Ev_l4 ok hn ?_
    refine aNil ?_
    refine calFn ok (ok_readReal w) ?_
    refine S_readReal.mk (by first | exact ‹_› | exact le2 ‹_› | omega) ?_
    exact kRn_map _ q (fun v l q => Fin.id (l _) q) fun b q => FinE.id q
   | some f =>
    rw [h] at ha q
    dsimp only at q
    obtain rfl : a = .int f := ha
    refine sT5 ?_
    refine xCons ?_
    refine sIf ?_
    refine tCmp ?_
    refine Ev_l5 ok hn ?_
    refine Ev_none ?_
    refine Cmp_isnt_none ?_
    refine isB ?_
    refine brT rfl ?_
    refine xCons ?_
    refine sRet ?_
    refine vCallN ?_
    refine Ev_gr ok hg (.s (.s (.s .z))) g_whole_number ?_
    refine wFn (by kernel_rfl) ?_
    refine aCons ?_
    refine vIf ?_
    refine tVal ?_
    refine Ev_l4 ok hn ?_
    refine Tru_bool ?_
    refine br (fun c2 => ?_) (fun c2 => ?_)
    refine vUna ?_
    refine Ev_l5 ok hn ?_
    refine Una_neg ?_
    refine aNil ?_
    refine calFn ok (ok_whole w) ?_
    refine S_whole.mk ?_
    rotate_left
    refine Ev_l5 ok hn ?_
    refine aNil ?_
    refine calFn ok (ok_whole w) ?_
    refine S_whole.mk ?_
    rotate_left
    ·rw [sgn_t (show neg b = true from c2)] at q
     exact kRn_map _ q (fun v l q => Fin.id (l _) q) fun b q => FinE.id q
    ·rw [sgn_f (show neg b = false from c2)] at q
     exact kRn_map _ q (fun v l q => Fin.id (l _) q) fun b q => FinE.id q
 ·rintro i v _ os hv ⟨o1, o2, rfl, l1, l2, e⟩
  obtain ⟨x, hx, rfl⟩ := ofe hv
  refine t2 (.s .z) (.s (.s .z)) ?_
  refine xCons ?_
  refine sIf ?_
  refine tCmp ?_
  refine Ev_l2 ok hn ?_
  refine Ev_int ?_
  refine Cmp_eq_int ?_
  refine isB ?_
  refine br (fun c1 => ?_) (fun c1 => ?_)
  refine xCons ?_
  refine sRet ?_
  refine vCallN ?_
  refine Ev_gr ok hg (.s .z) g_read_radix ?_
  refine wFn (by kernel_rfl) ?_
  refine aCons ?_
  refine Ev_l0 ok hn ?_
  refine aCons ?_
  refine Ev_l1 ok hn ?_
  refine aNil ?_
  refine calFn ok (ok_radix w) ?_
  refine S_radix.mk (by first | exact ‹_› | exact le2 ‹_› | omega) ?_
  rotate_left
  refine xNil ?_
  refine xNil ?_
  refine ⟨_, rfl, ?_⟩
  refine ⟨rfl, ?_⟩
  rotate_left
  ·rw [fi_at (p := fun x => ((x.toNat : Int) == 35)) hx c1 e] at q
   exact kRn_map _ q (fun v l q => Fin.same (l _) q) fun b q => FinE.same q
  ·exact ⟨_, _, rfl, trivial, trivial, fi_step (p := fun x => ((x.toNat : Int) == 35)) hx c1 e⟩
noncomputable abbrev sErr : List UInt8 := [115, 121, 110, 116, 97, 120, 101, 114, 114, 111, 114]
noncomputable abbrev uErr : List UInt8 := [117, 110, 100, 101, 102, 105, 110, 101, 100]
noncomputable abbrev nameT (b : List UInt8) (x : Bool) : AV := thing (.str "name") (.bytes b) (.bool x) (.int 3)
noncomputable abbrev intT (n : Int) : AV := thing (.str "integer") (.int n) (.bool false) (.int 3)
noncomputable abbrev realT (n : Int) : AV := thing (.str "real") (.int n) (.bool false) (.int 3)
theorem nameT_lt {b : List UInt8} {x : Bool} {n : Nat} : AV.lt n (nameT b x) := ⟨trivial, trivial, trivial, trivial, trivial⟩
theorem intT_lt {i : Int} {n : Nat} : AV.lt n (intT i) := ⟨trivial, trivial, trivial, trivial, trivial⟩
theorem realT_lt {i : Int} {n : Nat} : AV.lt n (realT i) := ⟨trivial, trivial, trivial, trivial, trivial⟩
inductive Lf | name (b : List UInt8) (x : Bool) | int (n : Int) | real (n : Int)
noncomputable def lfT : Lf → AV
 | .name b x => nameT b x
 | .int n => intT n
 | .real n => realT n
noncomputable def lfP : Lf → AV
 | .name b x => .tup [.str "name", .bytes b, .bool x]
 | .int n => .tup [.str "integer", .int n, .bool false]
 | .real n => .tup [.str "real", .int n, .bool false]
theorem lfT_lt {l : Lf} {n : Nat} : AV.lt n (lfT l) := by cases l <;> exact ⟨trivial, trivial, trivial, trivial, trivial⟩
theorem run_le {b : List UInt8} {n : Nat} (h : n ≤ b.length) : n ≤ run b n ∧ run b n ≤ b.length := by
 have h1 := (List.takeWhile_sublist (l := b.drop n) rg).length_le
 rw [List.length_drop] at h1
 exact ⟨Nat.le_add_right _ _, by unfold run; omega⟩
inductive One | tok (l : Lf) (m : Nat) | bad (e : List UInt8)
noncomputable def kOne (o : One) (k : Nat) (b : List UInt8) (Q : QT) (R : RT) (H : List AO) : Prop := match o with
 | .tok l m => Q (lfT l) (H.set k (src b m))
 | .bad e => ∀ m, R e (H.set k (src b m))
noncomputable def regO (b : List UInt8) (m : Nat) : One := match rn b with
 | .non => .tok (.name b true) m
 | .int i => .tok (.int i) m
 | .real i => .tok (.real i) m
 | .bad => .bad lErr
noncomputable def slashO (b : List UInt8) (n : Nat) : One := if b[n]? = some 47 then (if seg b (n + 1) (run b (n + 1)) == [107] then .tok (.int 7) (bh b (run b (n + 1))) else .bad uErr) else .tok (.name (seg b n (run b n)) false) (bh b (run b n))
theorem FinE.set {H : List AO} {R : RT} {b : List UInt8} {k : Nat} {o : AO} (ho : o.lt H.length) (q : R b (H.set k o)) : FinE H R b (H.set k o) := by
 refine ⟨H.set k o, [], (List.append_nil _).symm, by simp, fun i o' e => ?_, q⟩
 rw [List.getElem?_set] at e
 split at e
 ·split at e
  ·cases e; exact .inr (by rwa [List.length_set])
  ·cases e
 ·exact .inl e
inductive S_sure (bud : Nat) (args : List AV) (H : List AO) (Q : QT) (R : RT) : Prop
 | c (b0 : Nat) (k : Nat) (b : List UInt8) (n : Nat) (x : UInt8) (h0 : bud = b0 + 1) (h1 : args = [.obj k]) (h2 : H[k]? = some (src b n)) (h3 : b.length ≤ 1000) (h4 : b[n]? = some x) (h5 : Q (.int x.toNat) (H.set k (src b (n + 1)))) : S_sure bud args H Q R
theorem S_sure.mk {b0 : Nat} {k : Nat} {b : List UInt8} {n : Nat} {x : UInt8} {H : List AO} {Q : QT} {R : RT} (hk : H[k]? = some (src b n)) (hb : b.length ≤ 1000) (hx : b[n]? = some x) (q : Q (.int x.toNat) (H.set k (src b (n + 1)))) : S_sure (b0 + 1) [.obj k] H Q R := ⟨_, _, _, _, _, rfl, rfl, hk, hb, hx, q⟩
theorem ok_sure (w : World) : OK (GG w) 439 S_sure := by
 refine mkOK ["PsError"] ["source", "octet"] 1 ⟨_, _, _, rfl⟩ rfl (by kernel_rfl) rfl (fun vs hv => by obtain ⟨a, rfl⟩ := len1 hv; rfl) ?_
 rintro c ok hn hg _ _ H Q R ⟨b0, k, b, n, x, rfl, rfl, hk, hb, hx, q⟩ hlt
 refine ⟨[_, _], ⟨rfl, rfl⟩, ?_⟩
 refine xCons ?_
 refine sSet ok hn (.s .z) ?_
 refine vMeth ?_
 refine Ev_l0 ok hn ?_
 refine Meth_o co_393 ‹_› (by decide +kernel) m_393_next ?_
 refine Cw_fn0 (by kernel_rfl) ?_
 refine calFn ok (ok_next w) ?_
 refine S_next.mk ‹_› (by first | exact ‹_› | exact le2 ‹_› | omega) ?_
 refine sT1 ?_
 refine xCons ?_
 refine sIf ?_
 refine tCmp ?_
 rw [oct_some hx, nx_some hx]
 refine Ev_l1 ok hn ?_
 refine Ev_none ?_
 refine Cmp_is_none ?_
 refine isB ?_
 refine brF rfl ?_
 refine xNil ?_
 refine xCons ?_
 refine sRet ?_
 refine Ev_l1 ok hn ?_
 exact Fin.set (o := src b (n + 1)) trivial ⟨trivial, trivial, trivial⟩ q
inductive S_scanName (bud : Nat) (args : List AV) (H : List AO) (Q : QT) (R : RT) : Prop
 | c (b0 : Nat) (b : List UInt8) (x : Bool) (h0 : bud = b0 + 3) (h1 : args = [.bytes b, .bool x]) (h2 : b.length ≤ 100) (h3 : Q (nameT b x) H) : S_scanName bud args H Q R
theorem S_scanName.mk {b0 : Nat} {b : List UInt8} {x : Bool} {H : List AO} {Q : QT} {R : RT} (hb : b.length ≤ 100) (q : Q (nameT b x) H) : S_scanName (b0 + 3) [.bytes b, .bool x] H Q R := ⟨_, _, _, rfl, rfl, hb, q⟩
theorem ok_scanName (w : World) : OK (GG w) 488 S_scanName := by
 refine mkOK ["len", "SCAN_MOST_NAME", "PsError", "name"] ["word", "is_exec"] 2 ⟨_, _, _, rfl⟩ rfl (by kernel_rfl) rfl (fun vs hv => by obtain ⟨a, b, rfl⟩ := len2 hv; rfl) ?_
 rintro c ok hn hg _ _ H Q R ⟨b0, b, x, rfl, rfl, hb, q⟩ hlt
 refine ⟨[_, _], ⟨rfl, rfl⟩, ?_⟩
 refine xCons ?_
 refine sIf ?_
 refine tCmp ?_
 refine vCallN ?_
 refine Ev_gu ok hg .z b_len ?_
 refine wBi ?_
 refine aCons ?_
 refine Ev_l0 ok hn ?_
 refine aNil ?_
 refine Cal_len_bytes (by first | exact le2 ‹_› | omega) ?_
 refine Ev_gi ok hg (.s .z) g_SCAN_MOST_NAME ?_
 refine Cmp_gt_int ?_
 refine isB ?_
 refine br (fun c1 => ?_) (fun c1 => ?_)
 refine xCons ?_
 refine sRaise ok hg (.s (.s .z)) ?_
 refine Ev_bytes ?_
 refine rsB ?_
 rotate_left
 refine xNil ?_
 refine xCons ?_
 refine sRet ?_
 refine vCallN ?_
 refine Ev_gr ok hg (.s (.s (.s .z))) g_name ?_
 refine wFn (by kernel_rfl) ?_
 refine aCons ?_
 refine Ev_l0 ok hn ?_
 refine aCons ?_
 refine Ev_l1 ok hn ?_
 refine aNil ?_
 refine calFn ok (ok_name w) ?_
 refine S_name.mk ?_
 rotate_left
 ·exact absurd (of_decide_eq_true c1) (by omega)
 ·exact Fin.id nameT_lt q
inductive S_known (bud : Nat) (args : List AV) (H : List AO) (Q : QT) (R : RT) : Prop
 | c (b0 : Nat) (b : List UInt8) (h0 : bud = b0 + 3) (h1 : args = [.bytes b]) (h2 : ∀ a, a = (if b == [107] then intT 7 else .none) → Q a H) : S_known bud args H Q R
theorem S_known.mk {b0 : Nat} {b : List UInt8} {H : List AO} {Q : QT} {R : RT}  (q : ∀ a, a = (if b == [107] then intT 7 else .none) → Q a H) : S_known (b0 + 3) [.bytes b] H Q R := ⟨_, _, rfl, rfl, q⟩
theorem ok_known (w : World) : OK (GG w) 987 S_known := by
 refine mkOK ["integer"] ["octets"] 1 ⟨_, _, _, rfl⟩ rfl (by kernel_rfl) rfl (fun vs hv => by obtain ⟨a, rfl⟩ := len1 hv; rfl) ?_
 rintro c ok hn hg _ _ H Q R ⟨b0, b, rfl, rfl, q'⟩ hlt
 refine ⟨[_], ⟨rfl, rfl⟩, ?_⟩
 have q := q' _ rfl
 refine xCons ?_
 refine sRet ?_
 refine vIf ?_
 refine tCmp ?_
 refine Ev_l0 ok hn ?_
 refine Ev_bytes ?_
 refine Cmp_eq_bytes ?_
 refine isB ?_
 refine br (fun c1 => ?_) (fun c1 => ?_)
 refine vCallN ?_
 refine Ev_gr ok hg .z g_integer ?_
 refine wFn (by kernel_rfl) ?_
 refine aCons ?_
 refine Ev_int ?_
 refine aNil ?_
 refine calFn ok (ok_integer w) ?_
 refine S_integer.mk ?_
 rotate_left
 refine Ev_none ?_
 refine Fin.id trivial ?_
 rotate_left
 ·rw [if_pos c1] at q; exact Fin.id intT_lt q
 ·rw [if_neg (by rw [c1]; decide)] at q; exact q
inductive S_atOnce (bud : Nat) (args : List AV) (H : List AO) (Q : QT) (R : RT) : Prop
 | c (b0 : Nat) (b : List UInt8) (h0 : bud = b0 + 4) (h1 : args = [.bytes b, .val (.ref 987)]) (h2 : (b == [107]) = true → Q (intT 7) H) (h3 : (b == [107]) = false → R uErr H) : S_atOnce bud args H Q R
theorem S_atOnce.mk {b0 : Nat} {b : List UInt8} {H : List AO} {Q : QT} {R : RT} (q1 : (b == [107]) = true → Q (intT 7) H) (q : (b == [107]) = false → R uErr H) : S_atOnce (b0 + 4) [.bytes b, .val (.ref 987)] H Q R := ⟨_, _, rfl, rfl, q1, q⟩
theorem ok_atOnce (w : World) : OK (GG w) 502 S_atOnce := by
 refine mkOK ["PsError"] ["word", "lookup", "found"] 2 ⟨_, _, _, rfl⟩ rfl (by kernel_rfl) rfl (fun vs hv => by obtain ⟨a, b, rfl⟩ := len2 hv; rfl) ?_
 rintro c ok hn hg _ _ H Q R ⟨b0, b, rfl, rfl, q1, q2⟩ hlt
 refine ⟨[_, _, _], ⟨rfl, rfl⟩, ?_⟩
 refine xCons ?_
 refine sSet ok hn (.s (.s .z)) ?_
 refine vIf ?_
 refine tCmp ?_
 refine Ev_l1 ok hn ?_
 refine Ev_none ?_
 refine Cmp_is_none ?_
 refine isB ?_
 refine brF rfl ?_
 refine vCallN ?_
 refine Ev_l1 ok hn ?_
 refine wFn (by kernel_rfl) ?_
 refine aCons ?_
 refine Ev_l0 ok hn ?_
 refine aNil ?_
 refine calFn ok (ok_known w) ?_
 refine S_known.mk ?_
 intro a ha
 cases h : b == [107] with
 | true =>
  rw [h] at ha
  obtain rfl : a = intT 7 := ha
  refine sT2 ?_
  refine xCons ?_
  refine sIf ?_
  refine tCmp ?_
  refine Ev_l2 ok hn ?_
  refine Ev_none ?_
  refine Cmp_is_none ?_
  refine isB ?_
  refine brF rfl ?_
  refine xNil ?_
  refine xCons ?_
  refine sRet ?_
  refine Ev_l2 ok hn ?_
  exact Fin.id intT_lt (q1 h)
 | false =>
  rw [h] at ha
  obtain rfl : a = .none := ha
  refine sT2 ?_
  refine xCons ?_
  refine sIf ?_
  refine tCmp ?_
  refine Ev_l2 ok hn ?_
  refine Ev_none ?_
  refine Cmp_is_none ?_
  refine isB ?_
  refine brT rfl ?_
  refine xCons ?_
  refine sRaise ok hg .z ?_
  refine Ev_bytes ?_
  refine rsB ?_
  exact FinE.id (q2 h)
noncomputable def kReg (r : Rn) (b : List UInt8) (Q : QT) (R : RT) (H : List AO) : Prop := match r with
 | .non => Q (nameT b true) H
 | .int i => Q (intT i) H
 | .real i => Q (realT i) H
 | .bad => R lErr H
inductive S_regular (bud : Nat) (args : List AV) (H : List AO) (Q : QT) (R : RT) : Prop
 | c (b0 : Nat) (b : List UInt8) (h0 : bud = b0 + 5) (h1 : args = [.bytes b]) (h2 : b.length ≤ 100) (h3 : kReg (rn b) b Q R H) : S_regular bud args H Q R
theorem S_regular.mk {b0 : Nat} {b : List UInt8} {H : List AO} {Q : QT} {R : RT} (hb : b.length ≤ 100) (q : kReg (rn b) b Q R H) : S_regular (b0 + 5) [.bytes b] H Q R := ⟨_, _, rfl, rfl, hb, q⟩
theorem ok_regular (w : World) : OK (GG w) 495 S_regular := by
 refine mkOK ["read_number", "scan_name", "integer", "real"] ["word", "told"] 1 ⟨_, _, _, rfl⟩ rfl (by kernel_rfl) rfl (fun vs hv => by obtain ⟨a, rfl⟩ := len1 hv; rfl) ?_
 rintro c ok hn hg _ _ H Q R ⟨b0, b, rfl, rfl, hb, q⟩ hlt
 refine ⟨[_, _], ⟨rfl, rfl⟩, ?_⟩
 refine xCons ?_
 refine sSet ok hn (.s .z) ?_
 refine vCallN ?_
 refine Ev_gr ok hg .z g_read_number ?_
 refine wFn (by kernel_rfl) ?_
 refine aCons ?_
 refine Ev_l0 ok hn ?_
 refine aNil ?_
 refine calFn ok (ok_number w) ?_
 refine S_number.mk (by first | exact ‹_› | exact le2 ‹_› | omega) ?_
 cases h : rn b with
 | non =>
  rw [h] at q
  refine sT1 ?_
  refine xCons ?_
  refine sIf ?_
  refine tCmp ?_
  refine Ev_l1 ok hn ?_
  refine Ev_none ?_
  refine Cmp_is_none ?_
  refine isB ?_
  refine brT rfl ?_
  refine xCons ?_
  refine sRet ?_
  refine vCallN ?_
  refine Ev_gr ok hg (.s .z) g_scan_name ?_
  refine wFn (by kernel_rfl) ?_
  refine aCons ?_
  refine Ev_l0 ok hn ?_
  refine aCons ?_
  refine Ev_bool ?_
  refine aNil ?_
  refine calFn ok (ok_scanName w) ?_
  refine S_scanName.mk (by first | exact ‹_› | exact le2 ‹_› | omega) ?_
  exact Fin.id nameT_lt q
 | int i =>
  rw [h] at q
  refine sT1 ?_
  refine xCons ?_
  refine sIf ?_
  refine tCmp ?_
  refine Ev_l1 ok hn ?_
  refine Ev_none ?_
  refine Cmp_is_none ?_
  refine isB ?_
  refine brF rfl ?_
  refine xNil ?_
  refine xCons ?_
  refine sRet ?_
  refine vIf ?_
  refine tCmp ?_
  refine vSub ?_
  refine Ev_l1 ok hn ?_
  refine Ev_int ?_
  refine Item_tup 0 rfl (by decide) rfl ?_
  refine Ev_str ?_
  refine Cmp_eq_str ?_
  refine isB ?_
  refine brT rfl ?_
  refine vCallN ?_
  refine Ev_gr ok hg (.s (.s .z)) g_integer ?_
  refine wFn (by kernel_rfl) ?_
  refine aCons ?_
  refine vSub ?_
  refine Ev_l1 ok hn ?_
  refine Ev_int ?_
  refine Item_tup 1 rfl (by decide) rfl ?_
  refine aNil ?_
  refine calFn ok (ok_integer w) ?_
  refine S_integer.mk ?_
  exact Fin.id intT_lt q
 | real i =>
  rw [h] at q
  refine sT1 ?_
  refine xCons ?_
  refine sIf ?_
  refine tCmp ?_
  refine Ev_l1 ok hn ?_
  refine Ev_none ?_
  refine Cmp_is_none ?_
  refine isB ?_
  refine brF rfl ?_
  refine xNil ?_
  refine xCons ?_
  refine sRet ?_
  refine vIf ?_
  refine tCmp ?_
  refine vSub ?_
  refine Ev_l1 ok hn ?_
  refine Ev_int ?_
  refine Item_tup 0 rfl (by decide) rfl ?_
  refine Ev_str ?_
  refine Cmp_eq_str ?_
  refine isB ?_
  refine brF rfl ?_
  refine vCallN ?_
  refine Ev_gr ok hg (.s (.s (.s .z))) g_real ?_
  refine wFn (by kernel_rfl) ?_
  refine aCons ?_
  refine vSub ?_
  refine Ev_l1 ok hn ?_
  refine Ev_int ?_
  refine Item_tup 1 rfl (by decide) rfl ?_
  refine aNil ?_
  refine calFn ok (ok_real w) ?_
  refine S_real.mk ?_
  exact Fin.id realT_lt q
 | bad =>
  rw [h] at q
  exact FinE.id q
inductive S_closed (bud : Nat) (args : List AV) (H : List AO) (Q : QT) (R : RT) : Prop
 | c (b0 : Nat) (s k : Nat) (b : List UInt8) (n : Nat) (h0 : bud = b0 + 3) (h1 : args = [.obj s, .obj k]) (h2 : H[k]? = some (src b n)) (h3 : b.length ≤ 1000) (h4 : if b[n]? = some 62 then Q (nameT [62, 62] true) (H.set k (src b (n + 1))) else ∀ m, R sErr (H.set k (src b m))) : S_closed bud args H Q R
theorem S_closed.mk {b0 : Nat} {s k : Nat} {b : List UInt8} {n : Nat} {H : List AO} {Q : QT} {R : RT} (hk : H[k]? = some (src b n)) (hb : b.length ≤ 1000) (q : if b[n]? = some 62 then Q (nameT [62, 62] true) (H.set k (src b (n + 1))) else ∀ m, R sErr (H.set k (src b m))) : S_closed (b0 + 3) [.obj s, .obj k] H Q R := ⟨_, _, _, _, _, rfl, rfl, hk, hb, q⟩
theorem ok_closed (w : World) : OK (GG w) 551 S_closed := by
 refine mkOK ["SCAN_MORE", "PsError", "name"] ["self", "source"] 2 ⟨_, _, _, rfl⟩ rfl (by kernel_rfl) rfl (fun vs hv => by obtain ⟨a, b, rfl⟩ := len2 hv; rfl) ?_
 rintro c ok hn hg _ _ H Q R ⟨b0, s, k, b, n, rfl, rfl, hk, hb, q⟩ hlt
 refine ⟨[_, _], ⟨rfl, rfl⟩, ?_⟩
 refine xCons ?_
 refine sIf ?_
 refine tCmp ?_
 refine vMeth ?_
 refine Ev_l1 ok hn ?_
 refine Meth_o co_393 ‹_› (by decide +kernel) m_393_next ?_
 refine Cw_fn0 (by kernel_rfl) ?_
 refine calFn ok (ok_next w) ?_
 refine S_next.mk ‹_› (by first | exact ‹_› | exact le2 ‹_› | omega) ?_
 refine Ev_gi ok hg .z g_SCAN_MORE ?_
 cases hx : b[n]? with
 | none =>
  rw [oct_none hx, nx_none hx]
  rw [hx, if_neg (by simp)] at q
  refine Cmp_ne_none_int ?_
  refine isB ?_
  refine brT rfl ?_
  refine xCons ?_
  refine sRaise ok hg (.s .z) ?_
  refine Ev_bytes ?_
  refine rsB ?_
  exact FinE.set (o := src b n) ⟨trivial, trivial, trivial⟩ (q n)
 | some x =>
  rw [oct_some hx, nx_some hx]
  refine Cmp_ne_int ?_
  refine isB ?_
  refine br (fun c1 => ?_) (fun c1 => ?_)
  refine xCons ?_
  refine sRaise ok hg (.s .z) ?_
  refine Ev_bytes ?_
  refine rsB ?_
  rotate_left
  refine xNil ?_
  refine xCons ?_
  refine sRet ?_
  refine vCallN ?_
  refine Ev_gr ok hg (.s (.s .z)) g_name ?_
  refine wFn (by kernel_rfl) ?_
  refine aCons ?_
  refine Ev_bytes ?_
  refine aCons ?_
  refine Ev_bool ?_
  refine aNil ?_
  refine calFn ok (ok_name w) ?_
  refine S_name.mk ?_
  rotate_left
  ·rw [hx, if_neg (fun e => by cases e; cases c1)] at q
   exact FinE.set (o := src b (n + 1)) ⟨trivial, trivial, trivial⟩ (q (n + 1))
  ·rw [hx, if_pos (by rw [show x = 62 from u8i (y := 62) (by simpa using c1)])] at q
   exact Fin.set (o := src b (n + 1)) nameT_lt ⟨trivial, trivial, trivial⟩ q
inductive S_pointed (bud : Nat) (args : List AV) (H : List AO) (Q : QT) (R : RT) : Prop
 | c (b0 : Nat) (s k : Nat) (b : List UInt8) (n : Nat) (h0 : bud = b0 + 3) (h1 : args = [.obj s, .obj k]) (h2 : H[k]? = some (src b n)) (h3 : b.length ≤ 1000) (h4 : b[n]? = some 60) (h5 : Q (nameT [60, 60] true) (H.set k (src b (n + 1)))) : S_pointed bud args H Q R
theorem S_pointed.mk {b0 : Nat} {s k : Nat} {b : List UInt8} {n : Nat} {H : List AO} {Q : QT} {R : RT} (hk : H[k]? = some (src b n)) (hb : b.length ≤ 1000) (hx : b[n]? = some 60) (q : Q (nameT [60, 60] true) (H.set k (src b (n + 1)))) : S_pointed (b0 + 3) [.obj s, .obj k] H Q R := ⟨_, _, _, _, _, rfl, rfl, hk, hb, hx, q⟩
theorem ok_pointed (w : World) : OK (GG w) 544 S_pointed := by
 refine mkOK ["scan_sure", "SCAN_LESS", "name"] ["self", "source", "octet"] 2 ⟨_, _, _, rfl⟩ rfl (by kernel_rfl) rfl (fun vs hv => by obtain ⟨a, b, rfl⟩ := len2 hv; rfl) ?_
 rintro c ok hn hg _ _ H Q R ⟨b0, s, k, b, n, rfl, rfl, hk, hb, hx, q⟩ hlt
 refine ⟨[_, _, _], ⟨rfl, rfl⟩, ?_⟩
 have h60 : (((60 : UInt8).toNat : Int) == 60) = true := by decide
 refine xCons ?_
 refine sSet ok hn (.s (.s .z)) ?_
 refine vCallN ?_
 refine Ev_gr ok hg .z g_scan_sure ?_
 refine wFn (by kernel_rfl) ?_
 refine aCons ?_
 refine Ev_l1 ok hn ?_
 refine aNil ?_
 refine calFn ok (ok_sure w) ?_
 refine S_sure.mk ‹_› (by first | exact ‹_› | exact le2 ‹_› | omega) ‹_› ?_
 refine sT2 ?_
 refine xCons ?_
 refine sIf ?_
 refine tCmp ?_
 refine Ev_l2 ok hn ?_
 refine Ev_gi ok hg (.s .z) g_SCAN_LESS ?_
 refine Cmp_eq_int ?_
 refine isB ?_
 refine brT rfl ?_
 refine xCons ?_
 refine sRet ?_
 refine vCallN ?_
 refine Ev_gr ok hg (.s (.s .z)) g_name ?_
 refine wFn (by kernel_rfl) ?_
 refine aCons ?_
 refine Ev_bytes ?_
 refine aCons ?_
 refine Ev_bool ?_
 refine aNil ?_
 refine calFn ok (ok_name w) ?_
 refine S_name.mk ?_
 exact Fin.set (o := src b (n + 1)) nameT_lt ⟨trivial, trivial, trivial⟩ q
inductive S_slashed (bud : Nat) (args : List AV) (H : List AO) (Q : QT) (R : RT) : Prop
 | c (b0 : Nat) (s k : Nat) (b : List UInt8) (n : Nat) (h0 : bud = b0 + 5) (h1 : args = [.obj s, .obj k, .val (.ref 987)]) (h2 : H[k]? = some (src b n)) (h3 : b.length ≤ 100) (h4 : n ≤ b.length) (h5 : kOne (slashO b n) k b Q R H) : S_slashed bud args H Q R
theorem S_slashed.mk {b0 : Nat} {s k : Nat} {b : List UInt8} {n : Nat} {H : List AO} {Q : QT} {R : RT} (hk : H[k]? = some (src b n)) (hb : b.length ≤ 100) (hn : n ≤ b.length) (q : kOne (slashO b n) k b Q R H) : S_slashed (b0 + 5) [.obj s, .obj k, .val (.ref 987)] H Q R := ⟨_, _, _, _, _, rfl, rfl, hk, hb, hn, q⟩
theorem ok_slashed (w : World) : OK (GG w) 537 S_slashed := by
 refine mkOK ["SCAN_SLASH", "scan_at_once", "scan_word", "scan_name"] ["self", "source", "lookup", "octet"] 3 ⟨_, _, _, rfl⟩ rfl (by kernel_rfl) rfl (fun vs hv => by obtain ⟨a, b, d, rfl⟩ := len3 hv; rfl) ?_
 rintro c ok hn hg _ _ H Q R ⟨b0, s, k, b, n, rfl, rfl, hk, hb, hnb, q⟩ hlt
 refine ⟨[_, _, _, _], ⟨rfl, rfl⟩, ?_⟩
 unfold slashO at q
 have hb' : b.length ≤ 1000 := le2 hb
 have hs1 : (seg b n (run b n)).length ≤ 100 := Nat.le_trans (seg_len (run_le hnb).2) hb
 have fs : ∀ {v : AV} {m : Nat}, v.lt H.length → Q v (H.set k (src b m)) → Fin H Q v (H.set k (src b m)) := fun l q => Fin.set l ⟨trivial, trivial, trivial⟩ q
 refine xCons ?_
 refine sSet ok hn (.s (.s (.s .z))) ?_
 refine vMeth ?_
 refine Ev_l1 ok hn ?_
 refine Meth_o co_393 ‹_› (by decide +kernel) m_393_next ?_
 refine Cw_fn0 (by kernel_rfl) ?_
 refine calFn ok (ok_next w) ?_
 refine S_next.mk ‹_› (by first | exact ‹_› | exact le2 ‹_› | omega) ?_
 refine sT3 ?_
 refine xCons ?_
 refine sIf ?_
 refine tCmp ?_
 cases hx : b[n]? with
 | none =>
  rw [oct_none hx, nx_none hx]
  rw [hx, if_neg (by simp)] at q
  refine Ev_l3 ok hn ?_
  refine Ev_gi ok hg .z g_SCAN_SLASH ?_
  refine Cmp_eq_none_int ?_
  refine isB ?_
  refine brF rfl ?_
  refine xNil ?_
  refine xCons ?_
  refine sIf ?_
  refine tCmp ?_
  refine Ev_l3 ok hn ?_
  refine Ev_none ?_
  refine Cmp_isnt_none ?_
  refine isB ?_
  refine brF rfl ?_
  refine xNil ?_
  refine xCons ?_
  refine sRet ?_
  refine vCallN ?_
  refine Ev_gr ok hg (.s (.s (.s .z))) g_scan_name ?_
  refine wFn (by kernel_rfl) ?_
  refine aCons ?_
  refine vCallN ?_
  refine Ev_gr ok hg (.s (.s .z)) g_scan_word ?_
  refine wFn (by kernel_rfl) ?_
  refine aCons ?_
  refine Ev_l1 ok hn ?_
  refine aNil ?_
  refine calFn ok (ok_word w) ?_
  refine S_word.mk (get_set' ‹_›) (by first | exact ‹_› | exact le2 ‹_› | omega) (by first | exact ‹_› | exact le2 ‹_› | omega) ?_
  refine aCons ?_
  refine Ev_bool ?_
  refine aNil ?_
  refine calFn ok (ok_scanName w) ?_
  refine S_scanName.mk (by first | exact ‹_› | exact le2 ‹_› | omega) ?_
  show Fin H Q _ (List.set (List.set H k _) k _)
  rw [List.set_set]
  exact fs nameT_lt q
 | some x =>
  have hl : n + 1 ≤ b.length := (List.getElem?_eq_some_iff.mp hx).1
  rw [oct_some hx, nx_some hx]
  refine Ev_l3 ok hn ?_
  refine Ev_gi ok hg .z g_SCAN_SLASH ?_
  refine Cmp_eq_int ?_
  refine isB ?_
  refine br (fun c1 => ?_) (fun c1 => ?_)
  refine xCons ?_
  refine sRet ?_
  refine vCallN ?_
  refine Ev_gr ok hg (.s .z) g_scan_at_once ?_
  refine wFn (by kernel_rfl) ?_
  refine aCons ?_
  refine vCallN ?_
  refine Ev_gr ok hg (.s (.s .z)) g_scan_word ?_
  refine wFn (by kernel_rfl) ?_
  refine aCons ?_
  refine Ev_l1 ok hn ?_
  refine aNil ?_
  refine calFn ok (ok_word w) ?_
  refine S_word.mk (get_set' ‹_›) (by first | exact ‹_› | exact le2 ‹_› | omega) (by first | exact ‹_› | exact le2 ‹_› | omega) ?_
  refine aCons ?_
  refine Ev_l2 ok hn ?_
  refine aNil ?_
  refine calFn ok (ok_atOnce w) ?_
  refine S_atOnce.mk ?_ ?_
  rotate_left
  rotate_left
  refine xNil ?_
  refine xCons ?_
  refine sIf ?_
  refine tCmp ?_
  refine Ev_l3 ok hn ?_
  refine Ev_none ?_
  refine Cmp_isnt_none ?_
  refine isB ?_
  refine brT rfl ?_
  refine xCons ?_
  refine sExpr ok ?_
  refine vMeth ?_
  refine Ev_l1 ok hn ?_
  refine Meth_o co_393 (get_set' ‹_›) (by decide +kernel) m_393_back ?_
  refine Cw_fn0 (by kernel_rfl) ?_
  refine calFn ok (ok_back w) ?_
  refine S_back.mk (get_set' ‹_›) ?_
  refine nONE ?_
  refine xNil ?_
  refine xCons ?_
  refine sRet ?_
  refine vCallN ?_
  refine Ev_gr ok hg (.s (.s (.s .z))) g_scan_name ?_
  refine wFn (by kernel_rfl) ?_
  refine aCons ?_
  refine vCallN ?_
  refine Ev_gr ok hg (.s (.s .z)) g_scan_word ?_
  refine wFn (by kernel_rfl) ?_
  refine aCons ?_
  refine Ev_l1 ok hn ?_
  refine aNil ?_
  refine calFn ok (ok_word w) ?_
  refine S_word.mk (get_set' (get_set' ‹_›)) (by first | exact ‹_› | exact le2 ‹_› | omega) (by first | exact ‹_› | exact le2 ‹_› | omega) ?_
  refine aCons ?_
  refine Ev_bool ?_
  refine aNil ?_
  refine calFn ok (ok_scanName w) ?_
  refine S_scanName.mk (by first | exact ‹_› | exact le2 ‹_› | omega) ?_
  rotate_left
  ·intro e
   rw [hx, if_pos (by rw [show x = 47 from u8i (y := 47) (by simpa using c1)]), if_pos e] at q
   show Fin H Q _ (List.set (List.set H k _) k _)
   rw [List.set_set]
   exact fs intT_lt q
  ·intro e
   rw [hx, if_pos (by rw [show x = 47 from u8i (y := 47) (by simpa using c1)]), if_neg (by rw [e]; decide)] at q
   show FinE H R _ (List.set (List.set H k _) k _)
   rw [List.set_set]
   exact FinE.set (o := src b _) ⟨trivial, trivial, trivial⟩ (q _)
  ·rw [hx, if_neg (fun e => by cases e; cases c1)] at q
   show Fin H Q _ (List.set (List.set (List.set H k _) k _) k _)
   rw [List.set_set, List.set_set]
   exact fs nameT_lt q
noncomputable def oneO (b : List UInt8) (n : Nat) : One := match b[n]? with
 | none => .bad []
 | some x => if x = 47 then slashO b (n + 1) else if x = 60 then .tok (.name [60, 60] true) (n + 2) else if x = 62 then (if b[n + 1]? = some 62 then .tok (.name [62, 62] true) (n + 2) else .bad sErr)
  else if x = 91 ∨ x = 93 then .tok (.name [x] true) (n + 1) else if x = 41 then .bad sErr else regO (seg b n (run b n)) (bh b (run b n))
theorem kOne_fin {o : One} {k : Nat} {b : List UInt8} {vs : List AV} {Q : QT} {R : RT} {H : List AO} {Q' : PV} (h : kOne o k b Q R H) (hQ : ∀ l m, Fin H Q (lfT l) (H.set k (src b m)) → Q' (lfT l) ⟨vs, H.set k (src b m)⟩) : kOne o k b (kV vs Q') (kV vs (kFinE H R)) H := by
 cases o with
 | tok l m => exact hQ _ _ (Fin.set lfT_lt ⟨trivial, trivial, trivial⟩ h)
 | bad e => exact fun m => FinE.set (o := src b m) ⟨trivial, trivial, trivial⟩ (h m)
inductive S_plain (bud : Nat) (args : List AV) (H : List AO) (Q : QT) (R : RT) : Prop
 | c (b0 : Nat) (s k mi : Nat) (b : List UInt8) (n : Nat) (x : UInt8) (h0 : bud = b0 + 6) (h1 : args = [.obj s, .obj k, .int x.toNat, .val (.ref 987)]) (h2 : H[s]? = some (.inst 585 ["memory"] [.obj mi])) (h3 : H[k]? = some (src b (n + 1))) (h4 : s ≠ k) (h5 : b.length ≤ 100) (h6 : b[n]? = some x) (h7 : x ≠ 40) (h8 : x = 60 → b[n + 1]? = some 60) (h9 : kOne (oneO b n) k b Q R H) : S_plain bud args H Q R
theorem S_plain.mk {b0 : Nat} {s k mi : Nat} {b : List UInt8} {n : Nat} {x : UInt8} {H : List AO} {Q : QT} {R : RT} (hs : H[s]? = some (.inst 585 ["memory"] [.obj mi])) (hk : H[k]? = some (src b (n + 1))) (hsk : s ≠ k) (hb : b.length ≤ 100) (hx : b[n]? = some x) (h40 : x ≠ 40) (h60 : x = 60 → b[n + 1]? = some 60) (q : kOne (oneO b n) k b Q R H) : S_plain (b0 + 6) [.obj s, .obj k, .int x.toNat, .val (.ref 987)] H Q R := ⟨_, _, _, _, _, _, _, rfl, rfl, hs, hk, hsk, hb, hx, h40, h60, q⟩
theorem ok_plain (w : World) : OK (GG w) 558 S_plain := by
 refine mkOK ["SCAN_SLASH", "SCAN_OPEN", "SCAN_LESS", "SCAN_MORE", "SCAN_ROW_OPEN", "SCAN_ROW_CLOSE", "name", "bytes", "SCAN_CLOSE", "PsError", "scan_regular", "scan_word"] ["self", "source", "octet", "lookup"] 4 ⟨_, _, _, rfl⟩ rfl (by kernel_rfl) rfl (fun vs hv => by obtain ⟨a, b, d, e, rfl⟩ := len4 hv; rfl) ?_
 rintro c ok hn hg _ _ H Q R ⟨b0, s, k, mi, b, n, x, rfl, rfl, hs, hk, hsk, hb, hx, h40, h60, q⟩ hlt
 refine ⟨[_, _, _, _], ⟨rfl, rfl⟩, ?_⟩
 have hl : n + 1 ≤ b.length := (List.getElem?_eq_some_iff.mp hx).1
 have hn' : n ≤ b.length := Nat.le_of_succ_le hl
 have hb' : b.length ≤ 1000 := Nat.le_trans hb (by decide)
 unfold oneO at q
 rw [hx] at q
 dsimp only at q
 have hs1 : (seg b n (run b n)).length ≤ 100 := Nat.le_trans (seg_len (run_le hn').2) hb
 have hse := set_self hk
 refine xCons ?_
 refine sIf ?_
 refine tCmp ?_
 refine Ev_l2 ok hn ?_
 refine Ev_gi ok hg .z g_SCAN_SLASH ?_
 refine Cmp_eq_int ?_
 refine isB ?_
 refine br (fun c1 => ?_) (fun c1 => ?_)
 refine xCons ?_
 refine sRet ?_
 refine vMeth ?_
 refine Ev_l0 ok hn ?_
 refine Meth_o co_585 ‹_› (by decide +kernel) m_585_slashed ?_
 refine wFn (by kernel_rfl) ?_
 refine aCons ?_
 refine Ev_l1 ok hn ?_
 refine aCons ?_
 refine Ev_l3 ok hn ?_
 refine aNil ?_
 refine calFn ok (ok_slashed w) ?_
 refine S_slashed.mk ‹_› (by first | exact ‹_› | exact le2 ‹_› | omega) (by first | exact ‹_› | exact le2 ‹_› | omega) ?_
 rotate_left
 refine xNil ?_
 refine xCons ?_
 refine sIf ?_
 refine tCmp ?_
 refine Ev_l2 ok hn ?_
 refine Ev_gi ok hg (.s .z) g_SCAN_OPEN ?_
 refine Cmp_eq_int ?_
 refine isB ?_
 refine br (fun c2 => ?_) (fun c2 => ?_)
 refine xCons ?_
 refine sRet ?_
 refine vMeth ?_
 refine Ev_l0 ok hn ?_
 rotate_left
 refine xNil ?_
 refine xCons ?_
 refine sIf ?_
 refine tCmp ?_
 refine Ev_l2 ok hn ?_
 refine Ev_gi ok hg (.s (.s .z)) g_SCAN_LESS ?_
 refine Cmp_eq_int ?_
 refine isB ?_
 refine br (fun c3 => ?_) (fun c3 => ?_)
 refine xCons ?_
 refine sRet ?_
 refine vMeth ?_
 refine Ev_l0 ok hn ?_
 refine Meth_o co_585 ‹_› (by decide +kernel) m_585_pointed ?_
 refine wFn (by kernel_rfl) ?_
 refine aCons ?_
 refine Ev_l1 ok hn ?_
 refine aNil ?_
 refine calFn ok (ok_pointed w) ?_
 rotate_left
 refine xNil ?_
 refine xCons ?_
 refine sIf ?_
 refine tCmp ?_
 refine Ev_l2 ok hn ?_
 refine Ev_gi ok hg (.s (.s (.s .z))) g_SCAN_MORE ?_
 refine Cmp_eq_int ?_
 refine isB ?_
 refine br (fun c4 => ?_) (fun c4 => ?_)
 refine xCons ?_
 refine sRet ?_
 refine vMeth ?_
 refine Ev_l0 ok hn ?_
 refine Meth_o co_585 ‹_› (by decide +kernel) m_585_closed ?_
 refine wFn (by kernel_rfl) ?_
 refine aCons ?_
 refine Ev_l1 ok hn ?_
 refine aNil ?_
 refine calFn ok (ok_closed w) ?_
 refine S_closed.mk ‹_› (by first | exact ‹_› | exact le2 ‹_› | omega) ?_
 rotate_left
 refine xNil ?_
 refine xCons ?_
 refine sIf ?_
 refine tBool ?_
 refine lOr ?_
 refine tCmp ?_
 refine Ev_l2 ok hn ?_
 refine Ev_gi ok hg (.s (.s (.s (.s .z)))) g_SCAN_ROW_OPEN ?_
 refine Cmp_eq_int ?_
 refine isB ?_
 refine br (fun c5 => ?_) (fun c5 => ?_)
 refine brT rfl ?_
 refine xCons ?_
 refine sRet ?_
 refine vCallN ?_
 refine Ev_gr ok hg (.s (.s (.s (.s (.s (.s .z)))))) g_name ?_
 refine wFn (by kernel_rfl) ?_
 refine aCons ?_
 refine vCallN ?_
 refine Ev_gu ok hg (.s (.s (.s (.s (.s (.s (.s .z))))))) b_bytes ?_
 refine wTy ?_
 refine aCons ?_
 refine vLst ?_
 refine aCons ?_
 refine Ev_l2 ok hn ?_
 refine aNil ?_
 refine ⟨Nat.le_of_ble_eq_true rfl, ?_⟩
 refine aNil ?_
 refine Cal_bytes1 ?_
 refine aCons ?_
 refine Ev_bool ?_
 refine aNil ?_
 refine calFn ok (ok_name w) ?_
 refine S_name.mk ?_
 rotate_left
 refine lOr ?_
 refine tCmp ?_
 refine Ev_l2 ok hn ?_
 refine Ev_gi ok hg (.s (.s (.s (.s (.s .z))))) g_SCAN_ROW_CLOSE ?_
 refine Cmp_eq_int ?_
 refine isB ?_
 refine br (fun c6 => ?_) (fun c6 => ?_)
 refine brT rfl ?_
 refine xCons ?_
 refine sRet ?_
 refine vCallN ?_
 refine Ev_gr ok hg (.s (.s (.s (.s (.s (.s .z)))))) g_name ?_
 refine wFn (by kernel_rfl) ?_
 refine aCons ?_
 refine vCallN ?_
 refine Ev_gu ok hg (.s (.s (.s (.s (.s (.s (.s .z))))))) b_bytes ?_
 refine wTy ?_
 refine aCons ?_
 refine vLst ?_
 refine aCons ?_
 refine Ev_l2 ok hn ?_
 refine aNil ?_
 refine ⟨Nat.le_of_ble_eq_true rfl, ?_⟩
 refine aNil ?_
 refine Cal_bytes1 ?_
 refine aCons ?_
 refine Ev_bool ?_
 refine aNil ?_
 refine calFn ok (ok_name w) ?_
 refine S_name.mk ?_
 rotate_left
 refine lOr0 ?_
 refine brF rfl ?_
 refine xNil ?_
 refine xCons ?_
 refine sIf ?_
 refine tCmp ?_
 refine Ev_l2 ok hn ?_
 refine Ev_gi ok hg (.s (.s (.s (.s (.s (.s (.s (.s .z)))))))) g_SCAN_CLOSE ?_
 refine Cmp_eq_int ?_
 refine isB ?_
 refine br (fun c7 => ?_) (fun c7 => ?_)
 refine xCons ?_
 refine sRaise ok hg (.s (.s (.s (.s (.s (.s (.s (.s (.s .z))))))))) ?_
 refine Ev_bytes ?_
 refine rsB ?_
 rotate_left
 refine xNil ?_
 refine xCons ?_
 refine sExpr ok ?_
 refine vMeth ?_
 refine Ev_l1 ok hn ?_
 refine Meth_o co_393 ‹_› (by decide +kernel) m_393_back ?_
 refine Cw_fn0 (by kernel_rfl) ?_
 refine calFn ok (ok_back w) ?_
 refine S_back.mk ‹_› ?_
 refine nONE ?_
 refine xCons ?_
 refine sRet ?_
 refine vCallN ?_
 refine Ev_gr ok hg (.s (.s (.s (.s (.s (.s (.s (.s (.s (.s .z)))))))))) g_scan_regular ?_
 refine wFn (by kernel_rfl) ?_
 refine aCons ?_
 refine vCallN ?_
 refine Ev_gr ok hg (.s (.s (.s (.s (.s (.s (.s (.s (.s (.s (.s .z))))))))))) g_scan_word ?_
 refine wFn (by kernel_rfl) ?_
 refine aCons ?_
 refine Ev_l1 ok hn ?_
 refine aNil ?_
 refine calFn ok (ok_word w) ?_
 refine S_word.mk (get_set' ‹_›) (by first | exact ‹_› | exact le2 ‹_› | omega) (by first | exact ‹_› | exact le2 ‹_› | omega) ?_
 refine aNil ?_
 refine calFn ok (ok_regular w) ?_
 refine S_regular.mk (by first | exact ‹_› | exact le2 ‹_› | omega) ?_
 rotate_left
 ·rw [if_pos (u8eq (y := 47) c1)] at q
  exact kOne_fin q fun l m f => f
 ·exact absurd (u8eq (y := 40) c2) h40
 ·rw [if_neg (u8ne (y := 47) c1), if_pos (u8eq (y := 60) c3)] at q
  refine S_pointed.mk ‹_› hb' (h60 (u8eq (y := 60) c3)) ?_
  exact Fin.set nameT_lt ⟨trivial, trivial, trivial⟩ q
 ·rw [if_neg (u8ne (y := 47) c1), if_neg (u8ne (y := 60) c3), if_pos (u8eq (y := 62) c4)] at q
  by_cases h : b[n + 1]? = some 62
  ·rw [if_pos h] at q ⊢
   exact Fin.set nameT_lt ⟨trivial, trivial, trivial⟩ q
  ·rw [if_neg h] at q ⊢
   exact fun m => FinE.set (o := src b m) ⟨trivial, trivial, trivial⟩ (q m)
 ·rw [if_neg (u8ne (y := 47) c1), if_neg (u8ne (y := 60) c3), if_neg (u8ne (y := 62) c4), if_pos (.inl (u8eq (y := 91) c5))] at q
  skip
  have q' : Q (nameT [x] true) (H.set k (src b (n + 1))) := q
  rw [hse] at q'
  exact Fin.id nameT_lt q'
 ·rw [if_neg (u8ne (y := 47) c1), if_neg (u8ne (y := 60) c3), if_neg (u8ne (y := 62) c4), if_pos (.inr (u8eq (y := 93) c6))] at q
  skip
  have q' : Q (nameT [x] true) (H.set k (src b (n + 1))) := q
  rw [hse] at q'
  exact Fin.id nameT_lt q'
 all_goals rw [if_neg (u8ne (y := 47) c1), if_neg (u8ne (y := 60) c3), if_neg (u8ne (y := 62) c4), if_neg (fun e => e.elim (u8ne (y := 91) c5) (u8ne (y := 93) c6))] at q
 ·rw [if_pos (u8eq (y := 41) c7)] at q
  have q' := q (n + 1)
  rw [hse] at q'
  exact FinE.id q'
 ·rw [if_neg (u8ne (y := 41) c7)] at q
  unfold regO at q
  cases h : rn (seg b n (run b n)) with
  | non =>
   rw [h] at q
   show Fin H Q _ (List.set (List.set H k _) k _)
   rw [List.set_set]
   exact Fin.set nameT_lt ⟨trivial, trivial, trivial⟩ q
  | int i =>
   rw [h] at q
   show Fin H Q _ (List.set (List.set H k _) k _)
   rw [List.set_set]
   exact Fin.set intT_lt ⟨trivial, trivial, trivial⟩ q
  | real i =>
   rw [h] at q
   show Fin H Q _ (List.set (List.set H k _) k _)
   rw [List.set_set]
   exact Fin.set realT_lt ⟨trivial, trivial, trivial⟩ q
  | bad =>
   rw [h] at q
   show FinE H R _ (List.set (List.set H k _) k _)
   rw [List.set_set]
   exact FinE.set (o := src b _) ⟨trivial, trivial, trivial⟩ (q _)
noncomputable def All2 {α β : Type} (R : α → β → Prop) : List α → List β → Prop
 | [], [] => True
 | a :: as, b :: bs => R a b ∧ All2 R as bs
 | _, _ => False
theorem All2.len {α β : Type} {R : α → β → Prop} : ∀ {as : List α} {bs : List β}, All2 R as bs → as.length = bs.length
 | [], [], _ => rfl
 | _ :: _, _ :: _, h => congrArg (· + 1) (All2.len h.2)
theorem All2.mono {α β : Type} {R R' : α → β → Prop} (k : ∀ a b, R a b → R' a b) : ∀ {as : List α} {bs : List β}, All2 R as bs → All2 R' as bs
 | [], [], _ => trivial
 | _ :: _, _ :: _, h => ⟨k _ _ h.1, All2.mono k h.2⟩
theorem All2.snoc {α β : Type} {R : α → β → Prop} {a : α} {b : β} (h1 : R a b) : ∀ {as : List α} {bs : List β}, All2 R as bs → All2 R (as ++ [a]) (bs ++ [b])
 | [], [], _ => ⟨h1, trivial⟩
 | _ :: _, _ :: _, h => ⟨h.1, All2.snoc h1 h.2⟩
theorem All2.get {α β : Type} {R : α → β → Prop} : ∀ {as : List α} {bs : List β} {i : Nat} {a : α} {b : β}, All2 R as bs → as[i]? = some a → bs[i]? = some b → R a b
 | _ :: _, _ :: _, 0, _, _, h, e1, e2 => by cases e1; cases e2; exact h.1
 | _ :: _, _ :: _, i + 1, _, _, h, e1, e2 => All2.get (i := i) h.2 (by simpa using e1) (by simpa using e2)
noncomputable abbrev arrT (m : Int) (ts : List AV) : AV := thing (.str "array") (spanA m ts) (.bool true) (.int 3)
noncomputable abbrev arrP (ps : List AV) : AV := .tup [.str "array", .lst ps, .bool true]
noncomputable def Pl : Nat → AV → AV → Prop
 | 0, t, p => ∃ l : Lf, t = lfT l ∧ p = lfP l
 | d + 1, t, p => Pl d t p ∨ ∃ m ts ps, t = arrT m ts ∧ p = arrP ps ∧ ts.length ≤ 1000 ∧ All2 (Pl d) ts ps
theorem Pl.leaf (l : Lf) : ∀ d, Pl d (lfT l) (lfP l)
 | 0 => ⟨l, rfl, rfl⟩
 | d + 1 => .inl (Pl.leaf l d)
theorem Pl.le {t p : AV} {d : Nat} (h : Pl d t p) : ∀ {e : Nat}, d ≤ e → Pl e t p := fun {e} k => by
 induction k with
 | refl => exact h
 | step _ ih => exact .inl ih
theorem ltL_all {n : Nat} : ∀ {ts : List AV}, (∀ t ∈ ts, t.lt n) → ltL n ts
 | [], _ => trivial
 | t :: ts, h => ⟨h t (by simp), ltL_all fun u hu => h u (by simp [hu])⟩
theorem All2.left {α β : Type} {R : α → β → Prop} {P : α → Prop} (k : ∀ a b, R a b → P a) : ∀ {as : List α} {bs : List β}, All2 R as bs → ∀ a ∈ as, P a
 | [], [], _, a, h => nomatch h
 | x :: _, _ :: _, h, a, ha => by
  rcases List.mem_cons.mp ha with rfl | ha
  ·exact k _ _ h.1
  ·exact All2.left k h.2 a ha
theorem Pl.lt {n : Nat} : ∀ {d : Nat} {t p : AV}, Pl d t p → t.lt n
 | 0, _, _, ⟨l, e, _⟩ => by subst e; exact lfT_lt
 | d + 1, _, _, .inl h => Pl.lt h
 | d + 1, _, _, .inr ⟨m, ts, ps, e, _, _, h⟩ => by
  subst e
  exact ⟨trivial, ⟨⟨trivial, ltL_all (All2.left (P := fun t => t.lt n) (fun _ _ => Pl.lt) h), trivial, trivial, trivial⟩, trivial, trivial, trivial⟩, trivial, trivial, trivial⟩
theorem Pl.ins : ∀ {d : Nat} {t p : AV}, Pl d t p → t.isNone = false ∧ t.isUn = false
 | 0, _, _, ⟨l, e, _⟩ => by subst e; cases l <;> exact ⟨rfl, rfl⟩
 | d + 1, _, _, .inl h => Pl.ins h
 | d + 1, _, _, .inr ⟨m, ts, ps, e, _, _, h⟩ => by subst e; exact ⟨rfl, rfl⟩
inductive Out | fin | tok (p : AV) (m : Nat) | bad (e : List UInt8)
noncomputable def put (v : AV) (m : Nat) : List (List AV) → Out ⊕ (Nat × List (List AV))
 | [] => .inl (.tok v m)
 | qs :: op => .inr (m, (qs ++ [v]) :: op)
noncomputable def stp (b : List UInt8) (n : Nat) (op : List (List AV)) : Out ⊕ (Nat × List (List AV)) := match b[bg false b n]? with
 | none => .inl (match op with | [] => .fin | _ :: _ => .bad sErr)
 | some x => if x = 123 then .inr (bg false b n + 1, [] :: op)
  else if x = 125 then (match op with
   | [] => .inl (.bad sErr)
   | ps :: op' => put (arrP ps) (bg false b n + 1) op')
  else match oneO b (bg false b n) with
   | .bad e => .inl (.bad e)
   | .tok l m => put (lfP l) m op
inductive Tk (b : List UInt8) : Nat → List (List AV) → Out → Prop
 | stop {n : Nat} {op : List (List AV)} {o : Out} : stp b n op = .inl o → Tk b n op o
 | go {n n' : Nat} {op op' : List (List AV)} {o : Out} : stp b n op = .inr (n', op') → Tk b n' op' o → Tk b n op o
noncomputable def aut : Nat → List UInt8 → Bool
 | 0, [] => true
 | 1, [] => true
 | _, [] => false
 | 0, x :: l => if x = 40 then false else if x = 37 then aut 1 l else if x = 60 then aut 2 l else aut 0 l
 | 1, x :: l => if [10, 12, 13].contains x then aut 0 l else aut 1 l
 | _, x :: l => if x = 60 then aut 0 l else false
theorem aut0 {x : UInt8} {l : List UInt8} : aut 0 (x :: l) = if x = 40 then false else if x = 37 then aut 1 l else if x = 60 then aut 2 l else aut 0 l := rfl
theorem aut1 {x : UInt8} {l : List UInt8} : aut 1 (x :: l) = if [10, 12, 13].contains x then aut 0 l else aut 1 l := rfl
theorem aut2 {x : UInt8} {l : List UInt8} : aut 2 (x :: l) = if x = 60 then aut 0 l else false := rfl
noncomputable def Gd (b : List UInt8) (n : Nat) : Prop := aut 0 (b.drop n) = true
theorem wh_ne {x y : UInt8} (h : wh x = true) (e : wh y = false) : x ≠ y := fun q => by rw [q, e] at h; cases h
theorem aut_skip : ∀ (l : List UInt8), (aut 0 l = true → aut 0 (l.drop (skip false l)) = true) ∧ (aut 1 l = true → aut 0 (l.drop (skip true l)) = true)
 | [] => ⟨fun h => h, fun h => rfl⟩
 | x :: l => by
  obtain ⟨h0, h1⟩ := aut_skip l
  constructor
  ·intro h
   unfold skip
   by_cases e : x = 37
   ·subst e
    rw [if_pos (by decide), List.drop_succ_cons]
    exact h1 h
   ·rw [if_neg (by simpa using e)]
    by_cases hw : wh x = true
    ·rw [if_pos hw, List.drop_succ_cons]
     rw [aut0, if_neg (wh_ne hw (y := 40) (by decide)), if_neg e, if_neg (wh_ne hw (y := 60) (by decide))] at h
     exact h0 h
    ·rw [if_neg hw]; exact h
  ·intro h
   unfold skip
   rw [aut1] at h
   by_cases e : [10, 12, 13].contains x = true
   ·rw [if_pos e] at h ⊢
    rw [List.drop_succ_cons]; exact h0 h
   ·rw [if_neg e] at h ⊢
    rw [List.drop_succ_cons]; exact h1 h
theorem gd_bg {b : List UInt8} {n : Nat} (h : Gd b n) : Gd b (bg false b n) := by
 unfold Gd bg
 rw [← List.drop_drop]
 exact (aut_skip _).1 h
theorem gd_x {b : List UInt8} {n : Nat} {x : UInt8} (h : Gd b n) (hx : b[n]? = some x) : x ≠ 40 ∧ (x = 60 → b[n + 1]? = some 60 ∧ Gd b (n + 2)) ∧ (x ≠ 37 → x ≠ 60 → Gd b (n + 1)) := by
 unfold Gd at h
 rw [drop_some hx, aut0] at h
 refine ⟨fun e => (by rw [if_pos e] at h; cases h), fun e => ?_, fun e1 e2 => ?_⟩
 ·subst e
  rw [if_neg (by decide), if_neg (by decide), if_pos rfl] at h
  cases hy : b[n + 1]? with
  | none => rw [List.drop_eq_nil_of_le (List.getElem?_eq_none_iff.mp hy)] at h; cases h
  | some y =>
   rw [drop_some hy, aut2] at h
   split at h
   ·rename_i e; exact ⟨by rw [e], h⟩
   ·cases h
 ·by_cases e0 : x = 40
  ·rw [if_pos e0] at h; cases h
  ·rw [if_neg e0, if_neg e1, if_neg e2] at h; exact h
theorem gd_run {b : List UInt8} : ∀ {n : Nat}, Gd b n → Gd b (run b n) := fun {n} h => by
 have : ∀ (f n : Nat), b.length - n ≤ f → Gd b n → Gd b (run b n) := by
  intro f
  induction f with
  | zero =>
   intro n hf h
   rw [run_none (List.getElem?_eq_none_iff.mpr (by omega))]; exact h
  | succ f ih =>
   intro n hf h
   cases hx : b[n]? with
   | none => rw [run_none hx]; exact h
   | some x =>
    cases hr : rg x with
    | false => rw [run_off hx hr]; exact h
    | true =>
     rw [run_on hx hr]
     have hd : dl x = false := by
      have : (!wh x && !dl x) = true := hr
      rw [Bool.and_eq_true] at this
      exact nB this.2
     exact ih _ (by omega) ((gd_x h hx).2.2 (fun e => by subst e; cases hd) (fun e => by subst e; cases hd))
 exact this _ n (Nat.le_refl _) h
theorem gd_wh {b : List UInt8} {n : Nat} {x : UInt8} (h : Gd b n) (hx : b[n]? = some x) (hw : wh x = true) : Gd b (n + 1) :=
 (gd_x h hx).2.2 (wh_ne hw (by decide)) (wh_ne hw (by decide))
theorem gd_feed {b : List UInt8} {n : Nat} (h : Gd b n) : Gd b (feed b n) := by
 unfold feed
 split
 ·rename_i e; exact gd_wh h e (by decide)
 ·exact h
theorem gd_bh {b : List UInt8} {n : Nat} (h : Gd b n) : Gd b (bh b n) := by
 unfold bh
 split
 ·exact h
 ·rename_i x hx
  split
  ·rename_i hw
   split
   ·exact gd_feed (gd_wh h hx hw)
   ·exact gd_wh h hx hw
  ·exact h
theorem bh_le {b : List UInt8} {n : Nat} (h : n ≤ b.length) : n ≤ bh b n ∧ bh b n ≤ b.length := by
 unfold bh
 split
 ·exact ⟨Nat.le_refl _, h⟩
 ·rename_i x hx
  have := (List.getElem?_eq_some_iff.mp hx).1
  have := feed_le (b := b) (n := n + 1) this
  repeat' split
  all_goals omega
theorem bg_at {b : List UInt8} {n : Nat} {x : UInt8} (h : b[bg false b n]? = some x) : wh x = false ∧ x ≠ 37 := by
 have key : ∀ (l : List UInt8) (c : Bool), l[skip c l]? = some x → wh x = false ∧ x ≠ 37 := by
  intro l
  induction l with
  | nil => intro c e; cases c <;> cases e
  | cons y l ih =>
   intro c e
   cases c with
   | true =>
    unfold skip at e
    split at e
    ·exact ih false (by simpa using e)
    ·exact ih true (by simpa using e)
   | false =>
    unfold skip at e
    split at e
    ·exact ih true (by simpa using e)
    ·rename_i h37
     split at e
     ·exact ih false (by simpa using e)
     ·rename_i hw
      simp only [List.getElem?_cons_zero, Option.some.injEq] at e
      subst e
      exact ⟨by simpa using hw, by simpa using h37⟩
 unfold bg at h
 rw [← List.getElem?_drop] at h
 exact key _ _ h
theorem one_ok {b : List UInt8} {n m : Nat} {x : UInt8} {l : Lf} (h : Gd b n) (hx : b[n]? = some x) (hw : wh x = false) (h37 : x ≠ 37) (h123 : x ≠ 123) (h125 : x ≠ 125) (e : oneO b n = .tok l m) : n < m ∧ m ≤ b.length ∧ Gd b m := by
 have hl : n + 1 ≤ b.length := (List.getElem?_eq_some_iff.mp hx).1
 obtain ⟨g1, g2, g3⟩ := gd_x h hx
 have word : ∀ {n1 : Nat}, n1 ≤ b.length → Gd b n1 → n1 ≤ bh b (run b n1) ∧ bh b (run b n1) ≤ b.length ∧ Gd b (bh b (run b n1)) := fun h1 h2 => by
  have r := run_le (b := b) h1
  have s := bh_le (b := b) r.2
  exact ⟨Nat.le_trans r.1 s.1, s.2, gd_bh (gd_run h2)⟩
 unfold oneO at e
 rw [hx] at e
 dsimp only at e
 by_cases e47 : x = 47
 ·rw [if_pos e47] at e
  subst e47
  have G := g3 (by decide) (by decide)
  unfold slashO at e
  split at e
  ·rename_i h47
   have hl2 : n + 2 ≤ b.length := (List.getElem?_eq_some_iff.mp h47).1
   split at e
   ·cases e
    have := word (n1 := n + 1 + 1) hl2 ((gd_x G h47).2.2 (by decide) (by decide))
    exact ⟨by first | exact this.1 | exact Nat.le_of_succ_le this.1 | omega, this.2⟩
   ·cases e
  ·cases e
   have := word hl G
   exact ⟨by first | exact this.1 | exact Nat.le_of_succ_le this.1 | omega, this.2⟩
 rw [if_neg e47] at e
 by_cases e60 : x = 60
 ·rw [if_pos e60] at e
  cases e
  obtain ⟨q1, q2⟩ := g2 e60
  have : n + 2 ≤ b.length := (List.getElem?_eq_some_iff.mp q1).1
  exact ⟨Nat.le_succ (n + 1), this, q2⟩
 rw [if_neg e60] at e
 have G := g3 h37 e60
 by_cases e62 : x = 62
 ·rw [if_pos e62] at e
  split at e
  ·rename_i h62
   cases e
   have : n + 2 ≤ b.length := (List.getElem?_eq_some_iff.mp h62).1
   exact ⟨Nat.le_succ (n + 1), this, (gd_x G h62).2.2 (by decide) (by decide)⟩
  ·cases e
 rw [if_neg e62] at e
 by_cases e91 : x = 91 ∨ x = 93
 ·rw [if_pos e91] at e
  cases e
  exact ⟨Nat.lt_succ_self n, hl, G⟩
 rw [if_neg e91] at e
 by_cases e41 : x = 41
 ·rw [if_pos e41] at e; cases e
 rw [if_neg e41] at e
 have hd : dl x = false := by
  simp only [dl, List.contains_cons, List.contains_nil, Bool.or_false, Bool.or_eq_false_iff, beq_eq_false_iff_ne]
  exact ⟨g1, e41, e60, e62, fun z => e91 (.inl z), fun z => e91 (.inr z), h123, h125, e47, h37⟩
 have hr : rg x = true := by show (!wh x && !dl x) = true; rw [hw, hd]; rfl
 have r1 := run_on hx hr
 have w1 := word hl G
 rw [← r1] at w1
 have : m = bh b (run b n) := by
  unfold regO at e
  split at e <;> cases e <;> rfl
 subst this
 exact ⟨by first | exact w1.1 | omega, w1.2⟩
section
noncomputable def upd (H : List AO) (k i j : Nat) (b : List UInt8) (p : Nat) (u l : Int) (c : Nat) : List AO := ((H.set k (src b p)).set i (mem j u l)).set j (.idict c)
structure Dis (H : List AO) (s k i j : Nat) : Prop where
 sk : s ≠ k
 si : s ≠ i
 sj : s ≠ j
 ki : k ≠ i
 kj : k ≠ j
 ij : i ≠ j
 k : k < H.length
 i : i < H.length
 j : j < H.length
noncomputable def hpz (H : List AO) (k i j : Nat) (b : List UInt8) (p : Nat) (u l : Int) (c : Nat) (Y : List AO) : List AO := upd H k i j b p u l c ++ Y
section
variable {H Y : List AO} {s k i j p p' c c' n : Nat} {b : List UInt8} {u u' l l' : Int} {o : AO}
theorem upd_len : (upd H k i j b p u l c).length = H.length := by unfold upd; rw [List.length_set, List.length_set, List.length_set]
theorem hp_lt (h : n < H.length) : (hpz H k i j b p u l c Y)[n]? = (upd H k i j b p u l c)[n]? := by
 unfold hpz
 rw [List.getElem?_append_left (by rw [upd_len]; exact h)]
theorem hp_s (d : Dis H s k i j) (h : H[s]? = some o) : (hpz H k i j b p u l c Y)[s]? = some o := by
 rw [hp_lt (lt_of_get h)]
 exact get_ne d.sj.symm (get_ne d.si.symm (get_ne d.sk.symm h))
theorem hp_k (d : Dis H s k i j) : (hpz H k i j b p u l c Y)[k]? = some (src b p) := by
 rw [hp_lt d.k]
 exact get_ne d.kj.symm (get_ne d.ki.symm (get_set d.k))
theorem hp_i (d : Dis H s k i j) : (hpz H k i j b p u l c Y)[i]? = some (mem j u l) := by
 rw [hp_lt d.i]
 exact get_ne d.ij.symm (get_set (by rw [List.length_set]; exact d.i))
theorem hp_j (d : Dis H s k i j) : (hpz H k i j b p u l c Y)[j]? = some (.idict c) := by
 rw [hp_lt d.j]
 exact get_set (by rw [List.length_set, List.length_set]; exact d.j)
theorem hp_y : (hpz H k i j b p u l c Y)[H.length + n]? = Y[n]? := by
 unfold hpz
 rw [List.getElem?_append_right (by rw [upd_len]; exact Nat.le_add_right _ _), upd_len, Nat.add_sub_cancel_left]
theorem hp_sk (d : Dis H s k i j) : (hpz H k i j b p u l c Y).set k (src b p') = hpz H k i j b p' u l c Y := by
 unfold hpz
 rw [List.set_append_left _ _ (by rw [upd_len]; exact d.k)]
 unfold upd
 rw [List.set_comm _ _ d.kj.symm, List.set_comm _ _ d.ki.symm, List.set_set]
theorem hp_sm (d : Dis H s k i j) : ((hpz H k i j b p u l c Y).set i (mem j u' l')).set j (.idict c') = hpz H k i j b p u' l' c' Y := by
 unfold hpz
 rw [List.set_append_left _ _ (by rw [upd_len]; exact d.i), List.set_append_left _ _ (by rw [List.length_set, upd_len]; exact d.j)]
 unfold upd
 rw [List.set_comm _ _ d.ij.symm, List.set_set, List.set_set]
theorem hp_sy : (hpz H k i j b p u l c Y).set (H.length + n) o = hpz H k i j b p u l c (Y.set n o) := by
 unfold hpz
 rw [List.set_append_right _ _ (by rw [upd_len]; exact Nat.le_add_right _ _), upd_len, Nat.add_sub_cancel_left]
theorem hp_app : hpz H k i j b p u l c Y ++ [o] = hpz H k i j b p u l c (Y ++ [o]) := by unfold hpz; rw [List.append_assoc]
theorem hp_len : (hpz H k i j b p u l c Y).length = H.length + Y.length := by unfold hpz; rw [List.length_append, upd_len]
theorem upd_ent (d : Dis H s k i j) {q : Nat} (e : (upd H k i j b p u l c)[q]? = some o) : H[q]? = some o ∨ o.lt H.length := by
 unfold upd at e
 rw [List.getElem?_set] at e
 split at e
 ·split at e
  ·cases e; exact .inr trivial
  ·cases e
 rw [List.getElem?_set] at e
 split at e
 ·split at e
  ·cases e; exact .inr (mem_lt d.j)
  ·cases e
 rw [List.getElem?_set] at e
 split at e
 ·split at e
  ·cases e; exact .inr ⟨trivial, trivial, trivial⟩
  ·cases e
 exact .inl e
theorem hp_fin {Q : QT} {v : AV} (d : Dis H s k i j) (hv : v.lt H.length) (q : Q v (upd H k i j b p u l c)) : Fin H Q v (hpz H k i j b p u l c Y) :=
 ⟨_, Y, rfl, by rw [upd_len]; exact Nat.le_refl _, by rw [upd_len]; exact hv, fun q o e => by rw [upd_len]; exact upd_ent d e, q⟩
theorem hp_finE {R : RT} {e : List UInt8} (d : Dis H s k i j) (q : R e (upd H k i j b p u l c)) : FinE H R e (hpz H k i j b p u l c Y) :=
 ⟨_, Y, rfl, by rw [upd_len]; exact Nat.le_refl _, fun q o e => by rw [upd_len]; exact upd_ent d e, q⟩
theorem upd_hp (d : Dis H s k i j) : upd (hpz H k i j b p u l c Y) k i j b p' u' l' c' = hpz H k i j b p' u' l' c' Y := by
 show (((hpz H k i j b p u l c Y).set k _).set i _).set j _ = _
 rw [hp_sk d, hp_sm d]
theorem hp_1 (hk : H[k]? = some (src b p)) (hi : H[i]? = some (mem j u l)) (hj : H[j]? = some (.idict c)) : H ++ Y = hpz H k i j b p u l c Y := by
 unfold hpz upd
 rw [set_self hk, set_self hi, set_self hj]
noncomputable def kOut (o : Out) (n k i j : Nat) (b : List UInt8) (Q : QT) (R : RT) (H : List AO) : Prop := match o with
 | .fin => ∀ u l c, u ≤ 1000 * (b.length : Int) → c ≤ b.length → Q .none (upd H k i j b b.length u l c)
 | .tok p m => ∀ t u l c, Pl m t p → u ≤ 1000 * (m : Int) → c ≤ m → n < m → m ≤ b.length → Gd b m → Q t (upd H k i j b m u l c)
 | .bad e => ∀ m u l c, R e (upd H k i j b m u l c)
end
noncomputable def Put (b : List UInt8) (v : AV) (m : Nat) (op : List (List AV)) (o : Out) : Prop := match op with
 | [] => o = .tok v m
 | qs :: op' => Tk b m ((qs ++ [v]) :: op') o
section
variable {b : List UInt8} {n : Nat} {op : List (List AV)} {o : Out} {x : UInt8}
theorem tk_inl {o' : Out} (T : Tk b n op o) (h : stp b n op = .inl o') : o = o' := by
 cases T with
 | stop e => rw [h] at e; cases e; rfl
 | go e _ => rw [h] at e; cases e
theorem tk_inr {n' : Nat} {op' : List (List AV)} (T : Tk b n op o) (h : stp b n op = .inr (n', op')) : Tk b n' op' o := by
 cases T with
 | stop e => rw [h] at e; cases e
 | go e t => rw [h] at e; cases e; exact t
theorem tk_put {v : AV} {m : Nat} {op' : List (List AV)} (T : Tk b n op o) (h : stp b n op = put v m op') : Put b v m op' o := by
 cases op' with
 | nil => exact tk_inl T h
 | cons qs op' => exact tk_inr T h
theorem stp_some (hx : b[bg false b n]? = some x) : stp b n op = if x = 123 then .inr (bg false b n + 1, [] :: op)
  else if x = 125 then (match op with
   | [] => .inl (.bad sErr)
   | ps :: op' => put (arrP ps) (bg false b n + 1) op')
  else match oneO b (bg false b n) with
   | .bad e => .inl (.bad e)
   | .tok l m => put (lfP l) m op := by unfold stp; rw [hx] <;> rfl
theorem tk_none0 (hx : b[bg false b n]? = none) (T : Tk b n [] o) : o = .fin := tk_inl T (by unfold stp; rw [hx])
theorem tk_none1 {ps : List AV} (hx : b[bg false b n]? = none) (T : Tk b n (ps :: op) o) : o = .bad sErr := tk_inl T (by unfold stp; rw [hx])
theorem tk_lb (hx : b[bg false b n]? = some 123) (T : Tk b n op o) : Tk b (bg false b n + 1) ([] :: op) o := tk_inr T (by rw [stp_some hx, if_pos rfl])
theorem tk_rb0 (hx : b[bg false b n]? = some 125) (T : Tk b n [] o) : o = .bad sErr := tk_inl T (by rw [stp_some hx, if_neg (by decide), if_pos rfl])
theorem tk_rb {ps : List AV} (hx : b[bg false b n]? = some 125) (T : Tk b n (ps :: op) o) : Put b (arrP ps) (bg false b n + 1) op o := tk_put T (by rw [stp_some hx, if_neg (by decide), if_pos rfl])
theorem tk_bad {e : List UInt8} (hx : b[bg false b n]? = some x) (h1 : x ≠ 123) (h2 : x ≠ 125) (h : oneO b (bg false b n) = .bad e) (T : Tk b n op o) : o = .bad e := tk_inl T (by rw [stp_some hx, if_neg h1, if_neg h2, h])
theorem tk_tok {l : Lf} {m : Nat} (hx : b[bg false b n]? = some x) (h1 : x ≠ 123) (h2 : x ≠ 125) (h : oneO b (bg false b n) = .tok l m) (T : Tk b n op o) : Put b (lfP l) m op o := tk_put T (by rw [stp_some hx, if_neg h1, if_neg h2, h])
end
noncomputable def Stk (Z : List AO) (d : Nat) : List Nat → List (List AV) → Prop
 | [], [] => True
 | r :: rs, ps :: op => (∃ ts, Z[r]? = some (.list ts) ∧ ts.length ≤ d ∧ All2 (Pl d) ts ps) ∧ r ∉ rs ∧ Stk Z d rs op
 | _, _ => False
theorem Stk.le {Z : List AO} {d e : Nat} (k : d ≤ e) : ∀ {rs : List Nat} {op : List (List AV)}, Stk Z d rs op → Stk Z e rs op
 | [], [], _ => trivial
 | _ :: _, _ :: _, ⟨⟨ts, h1, h2, h3⟩, h4, h5⟩ => ⟨⟨ts, h1, Nat.le_trans h2 k, h3.mono fun _ _ z => z.le k⟩, h4, Stk.le k h5⟩
theorem Stk.set {Z : List AO} {d r : Nat} {o : AO} : ∀ {rs : List Nat} {op : List (List AV)}, Stk Z d rs op → r ∉ rs → Stk (Z.set r o) d rs op
 | [], [], _, _ => trivial
 | q :: rs, _ :: _, ⟨⟨ts, h1, h2, h3⟩, h4, h5⟩, n => ⟨⟨ts, get_ne (fun e => n (by simp [e])) h1, h2, h3⟩, h4, Stk.set h5 fun h => n (by simp [h])⟩
theorem Stk.app {Z : List AO} {d : Nat} {o : AO} : ∀ {rs : List Nat} {op : List (List AV)}, Stk Z d rs op → Stk (Z ++ [o]) d rs op
 | [], [], _ => trivial
 | q :: rs, _ :: _, ⟨⟨ts, h1, h2, h3⟩, h4, h5⟩ => ⟨⟨ts, get_app h1, h2, h3⟩, h4, Stk.app h5⟩
theorem Stk.lt {Z : List AO} {d : Nat} : ∀ {rs : List Nat} {op : List (List AV)}, Stk Z d rs op → ∀ r ∈ rs, r < Z.length
 | [], [], _, r, h => nomatch h
 | q :: rs, _ :: _, ⟨⟨ts, h1, h2, h3⟩, h4, h5⟩, r, h => by
  rcases List.mem_cons.mp h with rfl | h
  ·exact lt_of_get h1
  ·exact Stk.lt h5 r h
theorem Stk.len {Z : List AO} {d : Nat} : ∀ {rs : List Nat} {op : List (List AV)}, Stk Z d rs op → rs.length = op.length
 | [], [], _ => rfl
 | _ :: _, _ :: _, ⟨_, _, h⟩ => congrArg (· + 1) h.len
noncomputable def opn (N : Nat) (rs : List Nat) : AO := .list (rs.reverse.map fun r => .obj (N + (r + 1)))
theorem opn_ne {N r : Nat} {rs : List Nat} : (((r :: rs).reverse.map fun r => AV.obj (N + (r + 1))).isEmpty) = false := by
 rw [List.reverse_cons, List.map_append]
 cases rs.reverse <;> rfl
theorem opn_cons {N r : Nat} {rs : List Nat} : opn N (r :: rs) = .list ((rs.reverse.map fun r => .obj (N + (r + 1))) ++ [.obj (N + (r + 1))]) := by
 unfold opn
 rw [List.reverse_cons, List.map_append]; rfl
end
theorem le1000 {u : Int} {n m : Nat} (h : u ≤ 1000 * (n : Int)) (k : n ≤ m) : u ≤ 1000 * (m : Int) := Int.le_trans h (Int.mul_le_mul_of_nonneg_left (Int.ofNat_le.mpr k) (by decide))
theorem up1 {u : Int} {n m t : Nat} (h : u ≤ 1000 * (n : Int)) (k : n ≤ m) (e : t ≤ n) (hm : m ≤ 100) : u + 8 * (t : Int) ≤ 1000 * ((m + 1 : Nat) : Int) ∧ u + 8 * (t : Int) ≤ 16777216 := by omega
theorem big3 {n m : Nat} (h : n ≤ m) (k : m ≤ 100) : n + 1 ≤ 100000 := Nat.le_trans (Nat.succ_le_succ (Nat.le_trans h k)) (Nat.le_of_ble_eq_true rfl)
theorem add_ne {a r k : Nat} (h : k < a) : a + r ≠ k := fun e => absurd h (Nat.not_lt.mpr (e ▸ Nat.le_add_right _ _))
theorem big {n m : Nat} (h : n ≤ m) (k : m ≤ 100) : n ≤ 1000 ∧ n ≤ 100000 := ⟨Nat.le_trans h (Nat.le_trans k (Nat.le_of_ble_eq_true rfl)), Nat.le_trans h (Nat.le_trans k (Nat.le_of_ble_eq_true rfl))⟩
inductive TInv (s k i j : Nat) (b : List UInt8) (n : Nat) (o : Out) (H : List AO) (f : Nat) (st1 : St) : Prop
 | c (n' : Nat) (op : List (List AV)) (rs : List Nat) (Z : List AO) (u l : Int) (z : Nat) (dn : AV) (h0 : f = b.length - bg false b n') (h1 : Tk b n' op o) (h2 : n ≤ n') (h3 : n' ≤ b.length) (h4 : Gd b n') (h5 : u ≤ 1000 * (n' : Int)) (h6 : z ≤ n') (h7 : op.length ≤ n') (h8 : Stk Z n' rs op) (h9 : st1 = ⟨[.obj s, .obj k, .bool false, .val (.ref 987), .obj H.length, oct b (bg false b n'), dn], hpz H k i j b (nx b (bg false b n')) u l z (opn H.length rs :: Z)⟩) : TInv s k i j b n o H f st1
inductive S_token (bud : Nat) (args : List AV) (H : List AO) (Q : QT) (R : RT) : Prop
 | c (b0 : Nat) (s k i j : Nat) (b : List UInt8) (n : Nat) (u l : Int) (z : Nat) (o : Out) (h0 : bud = b0 + 7) (h1 : args = [.obj s, .obj k, .bool false, .val (.ref 987)]) (h2 : H[s]? = some (.inst 585 ["memory"] [.obj i])) (h3 : H[k]? = some (src b n)) (h4 : H[i]? = some (mem j u l)) (h5 : H[j]? = some (.idict z)) (h6 : Dis H s k i j) (h7 : b.length ≤ 100) (h8 : n ≤ b.length) (h9 : Gd b n) (h10 : u ≤ 1000 * (n : Int)) (h11 : z ≤ n) (h12 : Tk b n [] o) (h13 : kOut o n k i j b Q R H) : S_token bud args H Q R
theorem S_token.mk {b0 : Nat} {s k i j : Nat} {b : List UInt8} {n : Nat} {u l : Int} {z : Nat} {o : Out} {H : List AO} {Q : QT} {R : RT} (hs : H[s]? = some (.inst 585 ["memory"] [.obj i])) (hk : H[k]? = some (src b n)) (hi : H[i]? = some (mem j u l)) (hj : H[j]? = some (.idict z)) (hd : Dis H s k i j) (hb : b.length ≤ 100) (hn : n ≤ b.length) (hg : Gd b n) (hu : u ≤ 1000 * (n : Int)) (hz : z ≤ n) (ht : Tk b n [] o) (q : kOut o n k i j b Q R H) : S_token (b0 + 7) [.obj s, .obj k, .bool false, .val (.ref 987)] H Q R := ⟨_, _, _, _, _, _, _, _, _, _, _, rfl, rfl, hs, hk, hi, hj, hd, hb, hn, hg, hu, hz, ht, q⟩
theorem ok_token (w : World) : OK (GG w) 566 S_token := by
 refine mkOKd ["scan_first", "SCAN_PROC_OPEN", "SCAN_PROC_CLOSE", "PsError"] ["self", "source", "is_packing", "lookup", "opened", "octet", "done"] 4 4 [] [] ⟨_, _, _, rfl⟩ rfl (by kernel_rfl) (fun _ _ => CVs.nil) rfl (T := 559) (its := [.bool false, .none]) (m := 0) (by kernel_rfl) rfl (fun vs hv => by obtain ⟨a, b, d, e, rfl⟩ := len4 hv; exact ⟨_, rfl, rfl⟩) ?_
 rintro c ok hn hg _ _ H Q R ⟨b0, s, k, i, j, b, n, u, l, z, o, rfl, rfl, hs, hk, hi, hj, d, hb, hnb, G, hu, hz, ht, q⟩ hlt
 refine ⟨[_, _, _, _, _, _, _], ⟨rfl, rfl⟩, ?_⟩
 have hb' : b.length ≤ 1000 := Nat.le_trans hb (by decide)
 refine xCons ?_
 refine sSet ok hn (.s (.s (.s (.s .z)))) ?_
 refine vLsoE ?_
 refine sT4 ?_
 refine xCons ?_
 refine sSet ok hn (.s (.s (.s (.s (.s .z))))) ?_
 refine vCallN ?_
 refine Ev_gr ok hg .z g_scan_first ?_
 refine wFn (by kernel_rfl) ?_
 refine aCons ?_
 refine Ev_l1 ok hn ?_
 refine aNil ?_
 refine calFn ok (ok_first w) ?_
 refine S_first.mk (get_app ‹_›) (by first | exact ‹_› | exact le2 ‹_› | omega) (by first | exact ‹_› | exact le2 ‹_› | omega) ?_
 refine sT5 ?_
 refine xCons ?_
 rw [hp_1 hk hi hj, hp_sk d]
 refine sWhile (TInv s k i j b n o H) (b.length - bg false b n) ok
  ⟨n, [], [], [], u, l, z, _, rfl, ht, Nat.le_refl _, hnb, G, hu, hz, Nat.zero_le _, trivial, rfl⟩ ?_
 rintro _ _ ⟨n', op, rs, Z, u, l, z, dn, rfl, T, hn1, hn2, G', hu', hz', hop, S, rfl⟩
 have hle := bg_le (c := false) (b := b) hn2
 have Gm := gd_bg G'
 cases hx : b[bg false b n']? with
 | none =>
  rw [oct_none hx, nx_none hx]
  have hm : bg false b n' = b.length := Nat.le_antisymm hle.2 (List.getElem?_eq_none_iff.mp hx)
  have hq : (hpz H k i j b (bg false b n') u l z (opn H.length rs :: Z))[H.length]? = some (.list (rs.reverse.map fun r => .obj (H.length + (r + 1)))) := hp_y (n := 0)
  cases op with
  | nil =>
   cases rs with
   | nil =>
    refine tCmp ?_
    refine Ev_l5 ok hn ?_
    refine Ev_none ?_
    refine Cmp_isnt_none ?_
    refine isB ?_
    refine brF rfl ?_
    refine xCons ?_
    refine sIf ?_
    refine tCmp ?_
    refine Ev_l4 ok hn ?_
    refine vLstE ?_
    refine Cmp_ne_nil ‹_› ?_
    refine isB ?_
    refine brF rfl ?_
    refine xNil ?_
    refine xCons ?_
    refine sRet ?_
    refine Ev_none ?_
    rw [tk_none0 hx T] at q
    exact hp_fin d trivial (by rw [hm]; exact q u l z (le1000 hu' hn2) (Nat.le_trans hz' hn2))
   | cons r rs => exact S.elim
  | cons ps op =>
   cases rs with
   | nil => exact S.elim
   | cons r rs =>
    have hne : (!((r :: rs).reverse.map fun r => AV.obj (H.length + (r + 1))).isEmpty) = true := by rw [opn_ne]; rfl
    refine tCmp ?_
    refine Ev_l5 ok hn ?_
    refine Ev_none ?_
    refine Cmp_isnt_none ?_
    refine isB ?_
    refine brF rfl ?_
    refine xCons ?_
    refine sIf ?_
    refine tCmp ?_
    refine Ev_l4 ok hn ?_
    refine vLstE ?_
    refine Cmp_ne_nil ‹_› ?_
    refine isB ?_
    refine brT ‹_› ?_
    refine xCons ?_
    refine sRaise ok hg (.s (.s (.s .z))) ?_
    refine Ev_bytes ?_
    refine rsB ?_
    rw [tk_none1 hx T] at q
    exact hp_finE d (q _ u l z)
 | some x =>
  have hlx : bg false b n' + 1 ≤ b.length := (List.getElem?_eq_some_iff.mp hx).1
  obtain ⟨hw, h37⟩ := bg_at hx
  rw [oct_some hx, nx_some hx]
  refine tCmp ?_
  refine Ev_l5 ok hn ?_
  refine Ev_none ?_
  refine Cmp_isnt_none ?_
  refine isB ?_
  refine brT rfl ?_
  refine xCons ?_
  refine sSet ok hn (.s (.s (.s (.s (.s (.s .z)))))) ?_
  refine Ev_none ?_
  refine sT6 ?_
  refine xCons ?_
  generalize hK : kX _ _ _ _ _ _ = K
  have tailN : ∀ n1 op1 rs1 Z1 u1 l1 z1, bg false b n' < n1 → n1 ≤ b.length → Tk b n1 op1 o → Gd b n1 → u1 ≤ 1000 * (n1 : Int) → z1 ≤ n1 → op1.length ≤ n1 → Stk Z1 n1 rs1 op1 →
    K .next ⟨[.obj s, .obj k, .bool false, .val (.ref 987), .obj H.length, .int x.toNat, .none], hpz H k i j b n1 u1 l1 z1 (opn H.length rs1 :: Z1)⟩ := by
   intro n1 op1 rs1 Z1 u1 l1 z1 a1 a2 a3 a4 a5 a6 a7 a8
   rw [← hK]
   have hk1 : (hpz H k i j b n1 u1 l1 z1 (opn H.length rs1 :: Z1))[k]? = some (src b n1) := hp_k d
   refine xCons ?_
   refine sIf ?_
   refine tBool ?_
   refine lAnd ?_
   refine tCmp ?_
   refine Ev_l6 ok hn ?_
   refine Ev_none ?_
   refine Cmp_isnt_none ?_
   refine isB ?_
   refine brF rfl ?_
   refine brF rfl ?_
   refine xNil ?_
   refine xCons ?_
   refine sIf ?_
   refine tCmp ?_
   refine Ev_l6 ok hn ?_
   refine Ev_none ?_
   refine Cmp_isnt_none ?_
   refine isB ?_
   refine brF rfl ?_
   refine xNil ?_
   refine xCons ?_
   refine sSet ok hn (.s (.s (.s (.s (.s .z))))) ?_
   refine vCallN ?_
   refine Ev_gr ok hg .z g_scan_first ?_
   refine wFn (by kernel_rfl) ?_
   refine aCons ?_
   refine Ev_l1 ok hn ?_
   refine aNil ?_
   refine calFn ok (ok_first w) ?_
   refine S_first.mk ‹_› (by first | exact ‹_› | exact le2 ‹_› | omega) (by first | exact ‹_› | exact le2 ‹_› | omega) ?_
   refine sT5 ?_
   refine xNil ?_
   refine ⟨b.length - bg false b n1, ?_, n1, op1, rs1, Z1, u1, l1, z1, _, rfl, a3, Nat.le_trans hn1 (Nat.le_trans hle.1 (Nat.le_of_lt a1)), a2, a4, a5, a6, a7, a8, by rw [hp_sk d]⟩
   exact Nat.sub_lt_sub_left (Nat.lt_of_lt_of_le a1 a2) (Nat.lt_of_lt_of_le a1 (bg_le (c := false) (b := b) a2).1)
  have tailT : ∀ n1 op1 rs1 Z1 u1 l1 z1 t p, bg false b n' < n1 → n1 ≤ b.length → Gd b n1 → u1 ≤ 1000 * (n1 : Int) → z1 ≤ n1 → op1.length ≤ n1 → Stk Z1 n' rs1 op1 → Pl n1 t p → Put b p n1 op1 o →
    K .next ⟨[.obj s, .obj k, .bool false, .val (.ref 987), .obj H.length, .int x.toNat, t], hpz H k i j b n1 u1 l1 z1 (opn H.length rs1 :: Z1)⟩ := by
   intro n1 op1 rs1 Z1 u1 l1 z1 t p a1 a2 a4 a5 a6 a7 a8 hp T1
   rw [← hK]
   obtain ⟨hN, hU⟩ := hp.ins
   have hN' : (!t.isNone) = true := by rw [hN]; rfl
   have hq : (hpz H k i j b n1 u1 l1 z1 (opn H.length rs1 :: Z1))[H.length]? = some (.list (rs1.reverse.map fun r => .obj (H.length + (r + 1)))) := hp_y (n := 0)
   cases op1 with
   | nil =>
    cases rs1 with
    | nil =>
     rw [show o = .tok p n1 from T1] at q
     refine xCons ?_
     refine sIf ?_
     refine tBool ?_
     refine lAnd ?_
     refine tCmp ?_
     refine Ev_l6 ok hn ?_ ‹_›
     refine Ev_none ?_
     refine Cmp_isnt_none ?_
     refine isB ?_
     refine brT ‹_› ?_
     refine lAnd ?_
     refine tCmp ?_
     refine Ev_l4 ok hn ?_
     refine vLstE ?_
     refine Cmp_eq_nil ‹_› ?_
     refine isB ?_
     refine brT rfl ?_
     refine lAnd0 ?_
     refine brT rfl ?_
     refine xCons ?_
     refine sRet ?_
     refine Ev_l6 ok hn ?_ ‹_›
     exact hp_fin d hp.lt (q t u1 l1 z1 hp a5 a6 (Nat.lt_of_le_of_lt (Nat.le_trans hn1 hle.1) a1) a2 a4)
    | cons r rs1 => exact a8.elim
   | cons qs op1 =>
    cases rs1 with
    | nil => exact a8.elim
    | cons r rs1 =>
     obtain ⟨⟨ts, s1, s2, s3⟩, s4, s5⟩ := a8
     have hne := opn_ne (N := H.length) (r := r) (rs := rs1)
     have hk1 : (hpz H k i j b n1 u1 l1 z1 (opn H.length (r :: rs1) :: Z1))[k]? = some (src b n1) := hp_k d
     have hr : (hpz H k i j b n1 u1 l1 z1 (opn H.length (r :: rs1) :: Z1))[H.length + (r + 1)]? = some (.list ts) := by rw [hp_y]; exact s1
     have hrk : H.length + (r + 1) ≠ k := add_ne d.k
     have hz : ts.length ≤ 100000 := (big (Nat.le_trans s2 hn2) hb).2
     refine xCons ?_
     refine sIf ?_
     refine tBool ?_
     refine lAnd ?_
     refine tCmp ?_
     refine Ev_l6 ok hn ?_ ‹_›
     refine Ev_none ?_
     refine Cmp_isnt_none ?_
     refine isB ?_
     refine brT ‹_› ?_
     refine lAnd ?_
     refine tCmp ?_
     refine Ev_l4 ok hn ?_
     refine vLstE ?_
     refine Cmp_eq_nil ‹_› ?_
     refine isB ?_
     refine brF ‹_› ?_
     refine brF rfl ?_
     refine xNil ?_
     refine xCons ?_
     refine sIf ?_
     refine tCmp ?_
     refine Ev_l6 ok hn ?_ ‹_›
     refine Ev_none ?_
     refine Cmp_isnt_none ?_
     refine isB ?_
     refine brT ‹_› ?_
     refine xCons ?_
     refine sExpr ok ?_
     refine vMeth ?_
     refine vSub ?_
     refine Ev_l4 ok hn ?_
     refine vUna ?_
     refine Ev_int ?_
     refine Una_neg ?_
     refine Item_last hq (by rw [List.reverse_cons, List.map_append]; exact List.getLast?_concat) ?_
     refine Meth_append ‹_› ?_
     refine wBi ?_
     refine aCons ?_
     refine Ev_l6 ok hn ?_ ‹_›
     refine aNil ?_
     refine cAppend ‹_› (by first | exact ‹_› | exact le2 ‹_› | omega) ?_
     refine nONE ?_
     refine xNil ?_
     refine xCons ?_
     refine sSet ok hn (.s (.s (.s (.s (.s .z))))) ?_
     refine vCallN ?_
     refine Ev_gr ok hg .z g_scan_first ?_
     refine wFn (by kernel_rfl) ?_
     refine aCons ?_
     refine Ev_l1 ok hn ?_
     refine aNil ?_
     refine calFn ok (ok_first w) ?_
     refine S_first.mk (get_ne ‹_› ‹_›) (by first | exact ‹_› | exact le2 ‹_› | omega) (by first | exact ‹_› | exact le2 ‹_› | omega) ?_
     refine sT5 ?_
     refine xNil ?_
     refine ⟨b.length - bg false b n1, ?_, n1, (qs ++ [p]) :: op1, r :: rs1, Z1.set r (.list (ts ++ [t])), u1, l1, z1, t, rfl, T1, Nat.le_trans hn1 (Nat.le_trans hle.1 (Nat.le_of_lt a1)), a2, a4, a5, a6, a7,
      ⟨⟨ts ++ [t], get_set' s1, by rw [List.length_append]; exact Nat.le_trans (Nat.succ_le_succ s2) (Nat.lt_of_le_of_lt hle.1 a1), (s3.mono fun _ _ z => z.le (Nat.le_trans hle.1 (Nat.le_of_lt a1))).snoc hp⟩, s4, (s5.le (Nat.le_trans hle.1 (Nat.le_of_lt a1))).set s4⟩, ?_⟩
     ·exact Nat.sub_lt_sub_left (Nat.lt_of_lt_of_le a1 a2) (Nat.lt_of_lt_of_le a1 (bg_le (c := false) (b := b) a2).1)
     ·show St.mk _ _ = _
      rw [hp_sy, hp_sk d]; rfl
  clear hK
  have hq : (hpz H k i j b (bg false b n' + 1) u l z (opn H.length rs :: Z))[H.length]? = some (.list (rs.reverse.map fun r => .obj (H.length + (r + 1)))) := hp_y (n := 0)
  have hs2 : (hpz H k i j b (bg false b n' + 1) u l z (opn H.length rs :: Z))[s]? = some (.inst 585 ["memory"] [.obj i]) := hp_s d hs
  have hk2 : (hpz H k i j b (bg false b n' + 1) u l z (opn H.length rs :: Z))[k]? = some (src b (bg false b n' + 1)) := hp_k d
  have hsk := d.sk
  obtain ⟨h40, h60', hg1⟩ := gd_x Gm hx
  have h60 : x = 60 → b[bg false b n' + 1]? = some 60 := fun e => (h60' e).1
  have hzl : (rs.reverse.map fun r => AV.obj (H.length + (r + 1))).length ≤ 100000 := by rw [List.length_map, List.length_reverse, S.len]; exact (big (Nat.le_trans hop hn2) hb).2
  refine sIf ?_
  refine tCmp ?_
  refine Ev_l5 ok hn ?_
  refine Ev_gi ok hg (.s .z) g_SCAN_PROC_OPEN ?_
  refine Cmp_eq_int ?_
  refine isB ?_
  refine br (fun c1 => ?_) (fun c1 => ?_)
  refine xCons ?_
  refine sExpr ok ?_
  refine vMeth ?_
  refine Ev_l4 ok hn ?_
  refine Meth_append ‹_› ?_
  refine wBi ?_
  refine aCons ?_
  rotate_left
  refine xCons ?_
  refine sIf ?_
  refine tCmp ?_
  refine Ev_l5 ok hn ?_
  refine Ev_gi ok hg (.s (.s .z)) g_SCAN_PROC_CLOSE ?_
  refine Cmp_eq_int ?_
  refine isB ?_
  refine br (fun c2 => ?_) (fun c2 => ?_)
  refine xCons ?_
  refine sIf ?_
  refine tCmp ?_
  refine Ev_l4 ok hn ?_
  refine vLstE ?_
  refine Cmp_eq_nil ‹_› ?_
  refine isB ?_
  refine br (fun c3 => ?_) (fun c3 => ?_)
  refine xCons ?_
  refine sRaise ok hg (.s (.s (.s .z))) ?_
  refine Ev_bytes ?_
  refine rsB ?_
  rotate_left
  refine xNil ?_
  refine xCons ?_
  refine sSet ok hn (.s (.s (.s (.s (.s (.s .z)))))) ?_
  refine vMeth ?_
  refine Ev_l0 ok hn ?_
  refine Meth_o co_585 ‹_› (by decide +kernel) m_585_procedure ?_
  refine wFn (by kernel_rfl) ?_
  refine aCons ?_
  refine vMeth ?_
  refine Ev_l4 ok hn ?_
  refine Meth_pop ‹_› ?_
  refine Cw_bi0 ?_
  rotate_left
  refine xCons ?_
  refine sSet ok hn (.s (.s (.s (.s (.s (.s .z)))))) ?_
  refine vMeth ?_
  refine Ev_l0 ok hn ?_
  refine Meth_o co_585 ‹_› (by decide +kernel) m_585_plain ?_
  refine wFn (by kernel_rfl) ?_
  refine aCons ?_
  refine Ev_l1 ok hn ?_
  refine aCons ?_
  refine Ev_l5 ok hn ?_
  refine aCons ?_
  refine Ev_l3 ok hn ?_
  refine aNil ?_
  refine calFn ok (ok_plain w) ?_
  refine S_plain.mk ‹_› ‹_› (by first | exact ‹_› | exact le2 ‹_› | omega) (by first | exact ‹_› | exact le2 ‹_› | omega) ‹_› (by first | exact ‹_› | exact le2 ‹_› | omega) (by first | exact ‹_› | exact le2 ‹_› | omega) ?_
  rotate_left
  ·obtain rfl : x = 123 := u8eq (y := 123) c1
   refine vLsoE ?_
   refine aNil ?_
   refine cAppend (get_app ‹_›) (by first | exact ‹_› | exact le2 ‹_› | omega) ?_
   refine nONE ?_
   refine xNil ?_
   show K .next ⟨_, List.set (_ ++ [_]) (H.length + 0) _⟩
   rw [hp_app, hp_sy, hp_len]
   have tn := tailN (bg false b n' + 1) ([] :: op) (Z.length :: rs) (Z ++ [.list []]) u l z (Nat.lt_succ_self _) hlx (tk_lb hx T) (hg1 (by decide) (by decide)) (le1000 hu' (Nat.le_succ_of_le hle.1)) (Nat.le_trans hz' (Nat.le_succ_of_le hle.1)) (Nat.succ_le_succ (Nat.le_trans hop hle.1))
    ⟨⟨[], get_end, Nat.zero_le _, trivial⟩, fun h => Nat.lt_irrefl _ (S.lt _ h), (S.le (Nat.le_succ_of_le hle.1)).app⟩
   rw [opn_cons] at tn
   exact tn
  ·obtain rfl : x = 125 := u8eq (y := 125) c2
   cases rs with
   | nil =>
    cases op with
    | nil =>
     rw [tk_rb0 hx T] at q
     exact hp_finE d (q _ u l z)
    | cons ps op => exact S.elim
   | cons r rs => rw [opn_ne] at c3; cases c3
  ·obtain rfl : x = 125 := u8eq (y := 125) c2
   cases rs with
   | nil => cases c3
   | cons r rs =>
    cases op with
    | nil => exact S.elim
    | cons ps op =>
     obtain ⟨⟨ts, s1, s2, s3⟩, s4, s5⟩ := S
     have hq' := hq.trans (show some (AO.list ((r :: rs).reverse.map fun r => .obj (H.length + (r + 1)))) = some (.list ((rs.reverse.map fun r => .obj (H.length + (r + 1))) ++ [.obj (H.length + (r + 1))])) from by rw [List.reverse_cons, List.map_append]; rfl)
     refine cPop hq' (by rw [List.length_map, List.length_reverse]; simp only [List.length_map, List.length_reverse, List.length_cons] at hzl; omega) ?_
     rw [show (hpz H k i j b (bg false b n' + 1) u l z (opn H.length (r :: rs) :: Z)).set H.length (.list (rs.reverse.map fun r => .obj (H.length + (r + 1)))) = hpz H k i j b (bg false b n' + 1) u l z (opn H.length rs :: Z) from hp_sy (n := 0)]
     have hs3 : (hpz H k i j b (bg false b n' + 1) u l z (opn H.length rs :: Z))[s]? = some (.inst 585 ["memory"] [.obj i]) := hp_s d hs
     have hi3 : (hpz H k i j b (bg false b n' + 1) u l z (opn H.length rs :: Z))[i]? = some (mem j u l) := hp_i d
     have hj3 : (hpz H k i j b (bg false b n' + 1) u l z (opn H.length rs :: Z))[j]? = some (.idict z) := hp_j d
     have hr3 : (hpz H k i j b (bg false b n' + 1) u l z (opn H.length rs :: Z))[H.length + (r + 1)]? = some (.list ts) := by rw [hp_y]; exact s1
     have hij := d.ij
     have hir : i ≠ H.length + (r + 1) := (add_ne d.i).symm
     have hjr : j ≠ H.length + (r + 1) := (add_ne d.j).symm
     have hll : ltL (hpz H k i j b (bg false b n' + 1) u l z (opn H.length rs :: Z)).length ts := ltL_all (All2.left (P := fun t => t.lt (hpz H k i j b (bg false b n' + 1) u l z (opn H.length rs :: Z)).length) (fun _ _ => Pl.lt) s3)
     have hub : u + 8 * (ts.length : Int) ≤ 16777216 := (up1 hu' hn2 s2 hb).2
     have hzb : z ≤ 1000 := (big (Nat.le_trans hz' hn2) hb).1
     have htb : ts.length ≤ 1000 := (big (Nat.le_trans s2 hn2) hb).1
     refine aCons ?_
     refine Ev_l2 ok hn ?_
     refine aNil ?_
     refine calFn ok (ok_procedure w) ?_
     refine S_procedure.mk ‹_› ‹_› ‹_› ‹_› (by first | exact ‹_› | exact le2 ‹_› | omega) (by first | exact ‹_› | exact le2 ‹_› | omega) (by first | exact ‹_› | exact le2 ‹_› | omega) (by first | exact ‹_› | exact le2 ‹_› | omega) (by first | exact ‹_› | exact le2 ‹_› | omega) (by first | exact ‹_› | exact le2 ‹_› | omega) (by first | exact ‹_› | exact le2 ‹_› | omega) ?_
     refine sT6 ?_
     refine xNil ?_
     refine xNil ?_
     rw [hp_sm d]
     rw [List.length_cons] at hop
     exact tailT (bg false b n' + 1) op rs Z (u + 8 * ts.length) (l + 1) (z + 1) _ (arrP ps) (Nat.lt_succ_self _) hlx (hg1 (by decide) (by decide)) (up1 hu' hle.1 s2 (Nat.le_trans hle.2 hb)).1 (Nat.succ_le_succ (Nat.le_trans hz' hle.1)) (Nat.le_trans (Nat.le_of_succ_le hop) (Nat.le_succ_of_le hle.1)) s5
      (.inr ⟨l + 1, ts, ps, rfl, rfl, htb, s3.mono fun _ _ z => z.le hle.1⟩) (tk_rb hx T)
  ·have h123 := u8ne (y := 123) c1
   have h125 := u8ne (y := 125) c2
   cases hone : oneO b (bg false b n') with
   | bad e =>
    rw [tk_bad hx h123 h125 hone T] at q
    intro m
    show FinE H R e (List.set (hpz H k i j b (bg false b n' + 1) u l z (opn H.length rs :: Z)) k (src b m))
    rw [hp_sk d]
    exact hp_finE d (q m u l z)
   | tok lf m =>
    obtain ⟨o1, o2, o3⟩ := one_ok Gm hx hw h37 h123 h125 hone
    refine sT6 ?_
    refine xNil ?_
    refine xNil ?_
    rw [hp_sk d]
    exact tailT m op rs Z u l z (lfT lf) (lfP lf) o1 o2 o3 (le1000 hu' (Nat.le_trans hle.1 (Nat.le_of_lt o1))) (Nat.le_trans hz' (Nat.le_trans hle.1 (Nat.le_of_lt o1))) (Nat.le_trans hop (Nat.le_trans hle.1 (Nat.le_of_lt o1))) S (Pl.leaf lf m) (tk_tok hx h123 h125 hone T)
theorem Dis.hp {H Y : List AO} {s k i j p z : Nat} {b : List UInt8} {u l : Int} (d : Dis H s k i j) : Dis (hpz H k i j b p u l z Y) s k i j :=
 ⟨d.sk, d.si, d.sj, d.ki, d.kj, d.ij, by rw [hp_len]; exact Nat.lt_add_right _ d.k, by rw [hp_len]; exact Nat.lt_add_right _ d.i, by rw [hp_len]; exact Nat.lt_add_right _ d.j⟩
inductive Res | ok (ps : List AV) | err (e : List UInt8)
inductive Ths (b : List UInt8) : Nat → List AV → Res → Prop
 | fin {n : Nat} {ps : List AV} : Tk b n [] .fin → Ths b n ps (.ok ps)
 | bad {n : Nat} {ps : List AV} {e : List UInt8} : Tk b n [] (.bad e) → Ths b n ps (.err e)
 | tok {n m : Nat} {ps : List AV} {p : AV} {r : Res} : Tk b n [] (.tok p m) → Ths b m (ps ++ [p]) r → Ths b n ps r
noncomputable def kRes (r : Res) (d : Nat) (G : List AO → Prop) (Q : QT) (R : RT) : Prop := match r with
 | .ok ps => ∀ ts H', G H' → All2 (Pl d) ts ps → ts.length ≤ 100 → Q (.lst ts) H'
 | .err e => ∀ H', G H' → R e H'
inductive HInv (s k i j : Nat) (b : List UInt8) (n : Nat) (r : Res) (H : List AO) (f : Nat) (st1 : St) : Prop
 | c (n' : Nat) (ps ts : List AV) (u l : Int) (z : Nat) (dn : AV) (h0 : f = (if dn.isNone then 0 else b.length - n' + 1)) (h1 : n ≤ n') (h2 : n' ≤ b.length) (h3 : Gd b n') (h4 : u ≤ 1000 * (n' : Int)) (h5 : z ≤ n') (h6 : ts.length ≤ n') (h7 : All2 (Pl n') ts ps) (h8 : dn.isUn = false) (h9 : (dn = .none ∧ r = .ok ps ∧ n' = b.length) ∨ (dn.isNone = false ∧ ∃ p, Pl n' dn p ∧ Ths b n' (ps ++ [p]) r ∧ ts.length + 1 ≤ n')) (h10 : st1 = ⟨[.obj s, .obj k, .bool false, .val (.ref 987), .obj H.length, dn], hpz H k i j b n' u l z [.list ts]⟩) : HInv s k i j b n r H f st1
inductive S_things (bud : Nat) (args : List AV) (H : List AO) (Q : QT) (R : RT) : Prop
 | c (b0 : Nat) (s k i j : Nat) (b : List UInt8) (n : Nat) (u l : Int) (z : Nat) (r : Res) (h0 : bud = b0 + 8) (h1 : args = [.obj s, .obj k, .bool false, .val (.ref 987)]) (h2 : H[s]? = some (.inst 585 ["memory"] [.obj i])) (h3 : H[k]? = some (src b n)) (h4 : H[i]? = some (mem j u l)) (h5 : H[j]? = some (.idict z)) (h6 : Dis H s k i j) (h7 : b.length ≤ 100) (h8 : n ≤ b.length) (h9 : Gd b n) (h10 : u ≤ 1000 * (n : Int)) (h11 : z ≤ n) (h12 : Ths b n [] r) (h13 : kRes r b.length (fun H' => ∃ m u l z, H' = upd H k i j b m u l z) Q R) : S_things bud args H Q R
theorem S_things.mk {b0 : Nat} {s k i j : Nat} {b : List UInt8} {n : Nat} {u l : Int} {z : Nat} {r : Res} {H : List AO} {Q : QT} {R : RT} (hs : H[s]? = some (.inst 585 ["memory"] [.obj i])) (hk : H[k]? = some (src b n)) (hi : H[i]? = some (mem j u l)) (hj : H[j]? = some (.idict z)) (hd : Dis H s k i j) (hb : b.length ≤ 100) (hn : n ≤ b.length) (hg : Gd b n) (hu : u ≤ 1000 * (n : Int)) (hz : z ≤ n) (ht : Ths b n [] r) (q : kRes r b.length (fun H' => ∃ m u l z, H' = upd H k i j b m u l z) Q R) : S_things (b0 + 8) [.obj s, .obj k, .bool false, .val (.ref 987)] H Q R := ⟨_, _, _, _, _, _, _, _, _, _, _, rfl, rfl, hs, hk, hi, hj, hd, hb, hn, hg, hu, hz, ht, q⟩
theorem ok_things (w : World) : OK (GG w) 574 S_things := by
 refine mkOKd [] ["self", "source", "is_packing", "lookup", "found", "done"] 4 4 [] [] ⟨_, _, _, rfl⟩ rfl (by kernel_rfl) (fun _ _ => CVs.nil) rfl (T := 567) (its := [.bool false, .none]) (m := 0) (by kernel_rfl) rfl (fun vs hv => by obtain ⟨a, b, d, e, rfl⟩ := len4 hv; exact ⟨_, rfl, rfl⟩) ?_
 rintro c ok hn hg _ _ H Q R ⟨b0, s, k, i, j, b, n, u, l, z, r, rfl, rfl, hs, hk, hi, hj, d, hb, hnb, G, hu, hz, ht, q⟩ hlt
 refine ⟨[_, _, _, _, _, _], ⟨rfl, rfl⟩, ?_⟩
 refine xCons ?_
 refine sSet ok hn (.s (.s (.s (.s .z)))) ?_
 refine vLsoE ?_
 rw [hp_1 hk hi hj]
 have tokC : ∀ (K : PV) (vs : List AV) n' ps ts u l z, Ths b n' ps r → n ≤ n' → n' ≤ b.length → Gd b n' → u ≤ 1000 * (n' : Int) → z ≤ n' → ts.length ≤ n' → All2 (Pl n') ts ps →
   (∀ u l z, r = .ok ps → u ≤ 1000 * (b.length : Int) → z ≤ b.length → K .none ⟨vs, hpz H k i j b b.length u l z [.list ts]⟩) →
   (∀ t p m u l z, n' < m → m ≤ b.length → Gd b m → Pl m t p → Ths b m (ps ++ [p]) r → u ≤ 1000 * (m : Int) → z ≤ m → K t ⟨vs, hpz H k i j b m u l z [.list ts]⟩) →
   S_token (b0 + 7) [.obj s, .obj k, .bool false, .val (.ref 987)] (hpz H k i j b n' u l z [.list ts]) (kV vs K) (kV vs (kFinE H R)) := by
  intro K vs n' ps ts u l z T a1 a2 a3 a4 a5 a6 a7 k1 k2
  have tk : ∀ o, Tk b n' [] o → kOut o n' k i j b (kV vs K) (kV vs (kFinE H R)) (hpz H k i j b n' u l z [.list ts]) → S_token (b0 + 7) [.obj s, .obj k, .bool false, .val (.ref 987)] (hpz H k i j b n' u l z [.list ts]) (kV vs K) (kV vs (kFinE H R)) := fun o T' q' =>
   S_token.mk (hp_s d hs) (hp_k d) (hp_i d) (hp_j d) d.hp hb a2 a3 a4 a5 T' q'
  cases T with
  | fin T => exact tk _ T fun u l z b1 b2 => by rw [upd_hp d]; exact k1 u l z rfl b1 b2
  | bad T => exact tk _ T fun m u l z => by rw [upd_hp d]; exact hp_finE d (q _ ⟨m, u, l, z, rfl⟩)
  | tok T T1 => exact tk _ T fun t u l z b1 b2 b3 b4 b5 b6 => by rw [upd_hp d]; exact k2 t _ _ u l z b4 b5 b6 b1 T1 b2 b3
 have hs1 : (hpz H k i j b n u l z [.list []])[s]? = some (.inst 585 ["memory"] [.obj i]) := hp_s d hs
 refine sT4 ?_
 refine xCons ?_
 refine sSet ok hn (.s (.s (.s (.s (.s .z))))) ?_
 refine vMeth ?_
 refine Ev_l0 ok hn ?_
 refine Meth_o co_585 ‹_› (by decide +kernel) m_585_token ?_
 refine wFn (by kernel_rfl) ?_
 refine aCons ?_
 refine Ev_l1 ok hn ?_
 refine aCons ?_
 refine Ev_l2 ok hn ?_
 refine aCons ?_
 refine Ev_l3 ok hn ?_
 refine aNil ?_
 refine calFn ok (ok_token w) ?_
 generalize hK : kSt _ _ = K
 have hob : ∀ n' u l z ts, (hpz H k i j b n' u l z [.list ts])[H.length]? = some (.list ts) := fun n' u l z ts => hp_y (n := 0)
 have hos : ∀ n' u l z ts y, (hpz H k i j b n' u l z [.list ts]).set H.length y = hpz H k i j b n' u l z [y] := fun n' u l z ts y => hp_sy (n := 0)
 have hHs : H.length ≠ s := fun e => Nat.lt_irrefl _ (e ▸ lt_of_get hs)
 have lp : ∀ n' ps ts u l z dn, n ≤ n' → n' ≤ b.length → Gd b n' → u ≤ 1000 * (n' : Int) → z ≤ n' → ts.length ≤ n' → All2 (Pl n') ts ps → dn.isUn = false →
   ((dn = .none ∧ r = .ok ps ∧ n' = b.length) ∨ (dn.isNone = false ∧ ∃ p, Pl n' dn p ∧ Ths b n' (ps ++ [p]) r ∧ ts.length + 1 ≤ n')) →
   K dn ⟨[.obj s, .obj k, .bool false, .val (.ref 987), .obj H.length, .un], hpz H k i j b n' u l z [.list ts]⟩ := by
  intro n' ps ts u l z dn a1 a2 a3 a4 a5 a6 a7 a8 a9
  rw [← hK]
  refine sT5 ?_
  refine xCons ?_
  refine sWhile (HInv s k i j b n r H) _ ok ⟨n', ps, ts, u, l, z, dn, rfl, a1, a2, a3, a4, a5, a6, a7, a8, a9, rfl⟩ ?_
  clear a1 a2 a3 a4 a5 a6 a7 a8 a9
  rintro _ _ ⟨n', ps, ts, u, l, z, dn, rfl, a1, a2, a3, a4, a5, a6, a7, a8, a9, rfl⟩
  have hq := hob n' u l z ts
  have htl : ts.length ≤ 100000 := (big (Nat.le_trans a6 a2) hb).2
  rcases a9 with ⟨rfl, rfl, rfl⟩ | ⟨hN, p, hp, T, a9⟩
  ·refine tCmp ?_
   refine Ev_l5 ok hn ?_
   refine Ev_none ?_
   refine Cmp_isnt_none ?_
   refine isB ?_
   refine brF rfl ?_
   refine xCons ?_
   refine sRet ?_
   refine Ev_ice ?_
   refine Ev_l4 ok hn ?_
   refine iceOf hq ?_
   rw [hos]
   exact hp_fin d (ltL_all (All2.left (P := fun t => t.lt H.length) (fun _ _ => Pl.lt) a7)) (q ts _ ⟨_, u, l, z, rfl⟩ a7 (Nat.le_trans a6 hb))
  ·have hN' : (!dn.isNone) = true := by rw [hN]; rfl
   have hs2 : (hpz H k i j b n' u l z [.list ts])[s]? = some (.inst 585 ["memory"] [.obj i]) := hp_s d hs
   rw [if_neg (by rw [hN]; decide)]
   refine tCmp ?_
   refine Ev_l5 ok hn ?_ ‹_›
   refine Ev_none ?_
   refine Cmp_isnt_none ?_
   refine isB ?_
   refine brT ‹_› ?_
   refine xCons ?_
   refine sExpr ok ?_
   refine vMeth ?_
   refine Ev_l4 ok hn ?_
   refine Meth_append ‹_› ?_
   refine wBi ?_
   refine aCons ?_
   refine Ev_l5 ok hn ?_ ‹_›
   refine aNil ?_
   refine cAppend ‹_› (by first | exact ‹_› | exact le2 ‹_› | omega) ?_
   refine nONE ?_
   refine xCons ?_
   refine sSet ok hn (.s (.s (.s (.s (.s .z))))) ?_
   refine vMeth ?_
   refine Ev_l0 ok hn ?_
   refine Meth_o co_585 (get_ne ‹_› ‹_›) (by decide +kernel) m_585_token ?_
   refine wFn (by kernel_rfl) ?_
   refine aCons ?_
   refine Ev_l1 ok hn ?_
   refine aCons ?_
   refine Ev_l2 ok hn ?_
   refine aCons ?_
   refine Ev_l3 ok hn ?_
   refine aNil ?_
   refine calFn ok (ok_token w) ?_
   rw [hos]
   refine tokC _ _ n' (ps ++ [p]) (ts ++ [dn]) u l z T a1 a2 a3 a4 a5 (by rw [List.length_append]; exact a9) (a7.snoc hp) ?_ ?_
   ·intro u l z e b1 b2
    refine sT5 ?_
    refine xNil ?_
    refine ⟨0, Nat.succ_pos _, b.length, ps ++ [p], ts ++ [dn], u, l, z, .none, rfl, Nat.le_trans a1 a2, Nat.le_refl _, ?_, b1, b2, by rw [List.length_append]; exact Nat.le_trans a9 a2, (a7.snoc hp).mono fun _ _ z => z.le a2, rfl, .inl ⟨rfl, e, rfl⟩, rfl⟩
    unfold Gd
    rw [List.drop_length]; rfl
   ·intro t p' m u l z b1 b2 b3 b4 T' b5 b6
    refine sT5 ?_
    refine xNil ?_
    refine ⟨b.length - m + 1, Nat.succ_lt_succ (Nat.sub_lt_sub_left (Nat.lt_of_lt_of_le b1 b2) b1), m, ps ++ [p], ts ++ [dn], u, l, z, t, ?_, Nat.le_trans a1 (Nat.le_of_lt b1), b2, b3, b5, b6, by rw [List.length_append]; exact Nat.le_trans a9 (Nat.le_of_lt b1), (a7.snoc hp).mono fun _ _ z => z.le (Nat.le_of_lt b1), b4.ins.2, .inr ⟨b4.ins.1, p', b4, T', by rw [List.length_append]; exact Nat.lt_of_le_of_lt a9 b1⟩, rfl⟩
    rw [if_neg (by rw [b4.ins.1]; decide)]
 clear hK
 refine tokC _ _ n [] [] u l z ht (Nat.le_refl _) hnb G hu hz (Nat.zero_le _) trivial ?_ ?_
 ·intro u l z e b1 b2
  refine lp _ [] [] u l z _ hnb (Nat.le_refl _) ?_ b1 b2 (Nat.zero_le _) trivial rfl (.inl ⟨rfl, e, rfl⟩)
  unfold Gd
  rw [List.drop_length]; rfl
 ·intro t p' m u l z b1 b2 b3 b4 T' b5 b6
  exact lp m [] [] u l z t (Nat.le_of_lt b1) b2 b3 b5 b6 (Nat.zero_le _) trivial b4.ins.2 (.inr ⟨b4.ins.1, p', b4, T', Nat.lt_of_le_of_lt (Nat.zero_le _) b1⟩)
noncomputable def kMk (n : Nat) (ls : List AV) (Q : PV) : QT := fun v H' => v = .none ∧ Q (.obj n) ⟨ls, H'⟩
theorem cNew {G : Gl} {c : FnC} {C f : Addr} {sem : Sem'} {b : Nat} {as ls : List AV} {H : List AO} {Q : PV} {R : PR} (ok : c.Ok) (mk : MakesOK G.K C f) (h : OK G.any f sem) (hs : sem b (.obj H.length :: as) (H ++ [.inst C [] []]) (kMk H.length ls Q) (kV ls R)) : Cal G c (b + 2) (.val (.ref C)) as Q R ⟨ls, H⟩ := Cal_new ok mk h hs
inductive S_place (bud : Nat) (args : List AV) (H : List AO) (Q : QT) (R : RT) : Prop
 | c (k : Nat) (b : List UInt8) (n : Nat) (h0 : args = [.obj k]) (h1 : H[k]? = some (src b n)) (h2 : Q (.int n) H) : S_place bud args H Q R
theorem S_place.mk {bud : Nat} {k : Nat} {b : List UInt8} {n : Nat} {H : List AO} {Q : QT} {R : RT} (hk : H[k]? = some (src b n)) (q : Q (.int n) H) : S_place bud [.obj k] H Q R := ⟨_, _, _, rfl, hk, q⟩
theorem ok_place (w : World) : OK (GP anyP w) 375 S_place := by
 refine mkOK [] ["self"] 1 ⟨_, _, _, rfl⟩ rfl (by kernel_rfl) rfl (fun vs hv => by obtain ⟨a, rfl⟩ := len1 hv; rfl) ?_
 rintro c ok hn hg bud _ H Q R ⟨k, b, n, rfl, hk, q⟩ hlt
 refine ⟨[_], ⟨rfl, rfl⟩, ?_⟩
 refine xCons ?_
 refine sRet ?_
 refine vAttrN ?_
 refine Ev_l0 ok hn ?_
 refine Get_o co_393 ‹_› (.s .z) (.s .z) (by kernel_rfl) rfl ?_
 refine Fin.id trivial ?_
 exact q
theorem dis_new {H : List AO} {s i j : Nat} {o : AO} (hs : s < H.length) (hi : i < H.length) (hj : j < H.length) (si : s ≠ i) (sj : s ≠ j) (ij : i ≠ j) : Dis (H ++ [o]) s H.length i j := by
 have e : (H ++ [o]).length = H.length + 1 := by simp
 exact ⟨Nat.ne_of_lt hs, si, sj, (Nat.ne_of_lt hi).symm, (Nat.ne_of_lt hj).symm, ij, by rw [e]; exact Nat.lt_succ_self _, by rw [e]; exact Nat.lt_succ_of_lt hi, by rw [e]; exact Nat.lt_succ_of_lt hj⟩
theorem upd_new {H : List AO} {i j p z : Nat} {b : List UInt8} {u l : Int} {o : AO} (hi : i < H.length) (hj : j < H.length) : upd (H ++ [o]) H.length i j b p u l z = (H.set i (mem j u l)).set j (.idict z) ++ [src b p] := by
 unfold upd
 rw [set_end, List.set_append_left _ _ hi, List.set_append_left _ _ (by rw [List.length_set]; exact hj)]
theorem set2_ent {H : List AO} {i j q : Nat} {x y o : AO} (hx : x.lt H.length) (hy : y.lt H.length) (e : ((H.set i x).set j y)[q]? = some o) : H[q]? = some o ∨ o.lt H.length := by
 rw [List.getElem?_set] at e
 split at e
 ·split at e
  ·cases e; exact .inr hy
  ·cases e
 rw [List.getElem?_set] at e
 split at e
 ·split at e
  ·cases e; exact .inr hx
  ·cases e
 exact .inl e
theorem fin_mem {H X : List AO} {i j z : Nat} {u l : Int} {Q : QT} {v : AV} (hj : j < H.length) (hv : v.lt H.length) (q : Q v ((H.set i (mem j u l)).set j (.idict z))) : Fin H Q v ((H.set i (mem j u l)).set j (.idict z) ++ X) :=
 ⟨_, X, rfl, by rw [len2s]; exact Nat.le_refl _, by rw [len2s]; exact hv, fun q o e => by rw [len2s]; exact set2_ent (mem_lt hj) (y := .idict z) trivial e, q⟩
theorem finE_mem {H X : List AO} {i j z : Nat} {u l : Int} {R : RT} {e : List UInt8} (hj : j < H.length) (q : R e ((H.set i (mem j u l)).set j (.idict z))) : FinE H R e ((H.set i (mem j u l)).set j (.idict z) ++ X) :=
 ⟨_, X, rfl, by rw [len2s]; exact Nat.le_refl _, fun q o e => by rw [len2s]; exact set2_ent (mem_lt hj) (y := .idict z) trivial e, q⟩
inductive S_scanThings (bud : Nat) (args : List AV) (H : List AO) (Q : QT) (R : RT) : Prop
 | c (b0 : Nat) (i j : Nat) (b : List UInt8) (u l : Int) (z : Nat) (r : Res) (h0 : bud = b0 + 9) (h1 : args = [.bytes b, .obj i, .bool false, .val (.ref 987)]) (h2 : H[i]? = some (mem j u l)) (h3 : H[j]? = some (.idict z)) (h4 : i ≠ j) (h5 : b.length ≤ 100) (h6 : Gd b 0) (h7 : u ≤ 0) (h8 : z = 0) (h9 : Ths b 0 [] r) (h10 : kRes r b.length (fun H' => ∃ u l z, H' = (H.set i (mem j u l)).set j (.idict z)) Q R) : S_scanThings bud args H Q R
theorem S_scanThings.mk {b0 : Nat} {i j : Nat} {b : List UInt8} {u l : Int} {z : Nat} {r : Res} {H : List AO} {Q : QT} {R : RT} (hi : H[i]? = some (mem j u l)) (hj : H[j]? = some (.idict z)) (hij : i ≠ j) (hb : b.length ≤ 100) (hg : Gd b 0) (hu : u ≤ 0) (hz : z = 0) (ht : Ths b 0 [] r) (q : kRes r b.length (fun H' => ∃ u l z, H' = (H.set i (mem j u l)).set j (.idict z)) Q R) : S_scanThings (b0 + 9) [.bytes b, .obj i, .bool false, .val (.ref 987)] H Q R := ⟨_, _, _, _, _, _, _, _, rfl, rfl, hi, hj, hij, hb, hg, hu, hz, ht, q⟩
theorem ok_scanThings (w : World) : OK (GG w) 597 S_scanThings := by
 refine mkOKd ["Scanner", "OctetSource"] ["octets", "memory", "is_packing", "lookup"] 4 4 [] [] ⟨_, _, _, rfl⟩ rfl (by kernel_rfl) (fun _ _ => CVs.nil) rfl (T := 590) (its := [.bool false, .none]) (m := 0) (by kernel_rfl) rfl (fun vs hv => by obtain ⟨a, b, d, e, rfl⟩ := len4 hv; exact ⟨_, rfl, rfl⟩) ?_
 rintro c ok hn hg _ _ H Q R ⟨b0, i, j, b, u, l, z, r, rfl, rfl, hi, hj, hij, hb, G, hu, rfl, ht, q⟩ hlt
 refine ⟨[_, _, _, _], ⟨rfl, rfl⟩, ?_⟩
 refine xCons ?_
 refine sRet ?_
 refine vMeth ?_
 refine vCallN ?_
 refine Ev_gr ok hg .z g_Scanner ?_
 refine wFn (by kernel_rfl) ?_
 refine aCons ?_
 refine Ev_l1 ok hn ?_
 refine aNil ?_
 refine cNew ok mk_585 (ok_scanner0 w) (S_scanner0.mk (j := i) get_end ⟨rfl, ?_⟩)
 rw [set_end]
 have hs1 : (H ++ [AO.inst 585 ["memory"] [.obj i]])[H.length]? = some (.inst 585 ["memory"] [.obj i]) := get_end
 refine Meth_o co_585 ‹_› (by decide +kernel) m_585_things ?_
 refine wFn (by kernel_rfl) ?_
 refine aCons ?_
 refine vCallN ?_
 refine Ev_gr ok hg (.s .z) g_OctetSource ?_
 refine wFn (by kernel_rfl) ?_
 refine aCons ?_
 refine Ev_l0 ok hn ?_
 refine aNil ?_
 refine cNew ok mk_393 (ok_src0 w) (S_src0.mk get_end ⟨rfl, ?_⟩)
 rw [set_end]
 refine aCons ?_
 refine Ev_l2 ok hn ?_
 refine aCons ?_
 refine Ev_l3 ok hn ?_
 refine aNil ?_
 refine calFn ok (ok_things w) ?_
 have li := lt_of_get hi
 have lj := lt_of_get hj
 have lH : (H ++ [AO.inst 585 ["memory"] [.obj i]]).length = H.length + 1 := by simp
 refine S_things.mk (get_app hs1) get_end (get_app (get_app hi)) (get_app (get_app hj)) (dis_new (lH ▸ Nat.lt_succ_self _) (lH ▸ Nat.lt_succ_of_lt li) (lH ▸ Nat.lt_succ_of_lt lj) (Nat.ne_of_lt li).symm (Nat.ne_of_lt lj).symm hij) hb (Nat.zero_le _) G (by omega) (Nat.le_refl _) ht ?_
 have eU : ∀ m u l z, upd ((H ++ [AO.inst 585 ["memory"] [.obj i]]) ++ [src b 0]) (H ++ [AO.inst 585 ["memory"] [.obj i]]).length i j b m u l z = (H.set i (mem j u l)).set j (.idict z) ++ [AO.inst 585 ["memory"] [.obj i], src b m] := fun m u l z => by
  rw [upd_new (lH ▸ Nat.lt_succ_of_lt li) (lH ▸ Nat.lt_succ_of_lt lj), List.set_append_left _ _ li, List.set_append_left _ _ (by rw [List.length_set]; exact lj), List.append_assoc]; rfl
 cases r with
 | ok ps =>
  rintro ts _ ⟨m, u, l, z, rfl⟩ a2 a3
  rw [eU]
  exact fin_mem lj (ltL_all (All2.left (P := fun t => t.lt H.length) (fun _ _ => Pl.lt) a2)) (q ts _ ⟨_, _, _, rfl⟩ a2 a3)
 | err e =>
  rintro _ ⟨m, u, l, z, rfl⟩
  rw [eU]
  exact finE_mem lj (q _ ⟨_, _, _, rfl⟩)
noncomputable def kOne1 (o : Out) (n : Nat) (G : List AO → Prop) (Q : QT) (R : RT) : Prop := match o with
 | .fin => ∀ H', G H' → Q (.tup [.none, .int n]) H'
 | .tok p m => ∀ t H', G H' → Pl n t p → Q (.tup [t, .int m]) H'
 | .bad e => ∀ H', G H' → R e H'
inductive S_tokenIn (bud : Nat) (args : List AV) (H : List AO) (Q : QT) (R : RT) : Prop
 | c (b0 : Nat) (s i j : Nat) (b : List UInt8) (u l : Int) (z : Nat) (o : Out) (h0 : bud = b0 + 8) (h1 : args = [.obj s, .bytes b, .bool false, .val (.ref 987)]) (h2 : H[s]? = some (.inst 585 ["memory"] [.obj i])) (h3 : H[i]? = some (mem j u l)) (h4 : H[j]? = some (.idict z)) (h5 : i ≠ j) (h6 : s ≠ i) (h7 : s ≠ j) (h8 : b.length ≤ 100) (h9 : Gd b 0) (h10 : u ≤ 0) (h11 : z = 0) (h12 : Tk b 0 [] o) (h13 : kOne1 o b.length (fun H' => ∃ u l z, H' = (H.set i (mem j u l)).set j (.idict z)) Q R) : S_tokenIn bud args H Q R
theorem S_tokenIn.mk {b0 : Nat} {s i j : Nat} {b : List UInt8} {u l : Int} {z : Nat} {o : Out} {H : List AO} {Q : QT} {R : RT} (hs : H[s]? = some (.inst 585 ["memory"] [.obj i])) (hi : H[i]? = some (mem j u l)) (hj : H[j]? = some (.idict z)) (hij : i ≠ j) (hsi : s ≠ i) (hsj : s ≠ j) (hb : b.length ≤ 100) (hg : Gd b 0) (hu : u ≤ 0) (hz : z = 0) (ht : Tk b 0 [] o) (q : kOne1 o b.length (fun H' => ∃ u l z, H' = (H.set i (mem j u l)).set j (.idict z)) Q R) : S_tokenIn (b0 + 8) [.obj s, .bytes b, .bool false, .val (.ref 987)] H Q R := ⟨_, _, _, _, _, _, _, _, _, rfl, rfl, hs, hi, hj, hij, hsi, hsj, hb, hg, hu, hz, ht, q⟩
theorem ok_tokenIn (w : World) : OK (GG w) 582 S_tokenIn := by
 refine mkOKd ["OctetSource"] ["self", "octets", "is_packing", "lookup", "source", "done"] 4 4 [] [] ⟨_, _, _, rfl⟩ rfl (by kernel_rfl) (fun _ _ => CVs.nil) rfl (T := 575) (its := [.bool false, .none]) (m := 0) (by kernel_rfl) rfl (fun vs hv => by obtain ⟨a, b, d, e, rfl⟩ := len4 hv; exact ⟨_, rfl, rfl⟩) ?_
 rintro c ok hn hg _ _ H Q R ⟨b0, s, i, j, b, u, l, z, o, rfl, rfl, hs, hi, hj, hij, hsi, hsj, hb, G, hu, rfl, ht, q⟩ hlt
 refine ⟨[_, _, _, _, _, _], ⟨rfl, rfl⟩, ?_⟩
 refine xCons ?_
 refine sSet ok hn (.s (.s (.s (.s .z)))) ?_
 refine vCallN ?_
 refine Ev_gr ok hg .z g_OctetSource ?_
 refine wFn (by kernel_rfl) ?_
 refine aCons ?_
 refine Ev_l1 ok hn ?_
 refine aNil ?_
 refine cNew ok mk_393 (ok_src0 w) (S_src0.mk get_end ⟨rfl, ?_⟩)
 rw [set_end]
 refine sT4 ?_
 refine xCons ?_
 refine sSet ok hn (.s (.s (.s (.s (.s .z))))) ?_
 refine vMeth ?_
 refine Ev_l0 ok hn ?_
 refine Meth_o co_585 (get_app ‹_›) (by decide +kernel) m_585_token ?_
 refine wFn (by kernel_rfl) ?_
 refine aCons ?_
 refine Ev_l4 ok hn ?_
 refine aCons ?_
 refine Ev_l2 ok hn ?_
 refine aCons ?_
 refine Ev_l3 ok hn ?_
 refine aNil ?_
 refine calFn ok (ok_token w) ?_
 have ls := lt_of_get hs
 have li := lt_of_get hi
 have lj := lt_of_get hj
 refine S_token.mk (get_app hs) get_end (get_app hi) (get_app hj) (dis_new ls li lj hsi hsj hij) hb (Nat.zero_le _) G (by omega) (Nat.le_refl _) ht ?_
 have eU : ∀ m u l z, upd (H ++ [src b 0]) H.length i j b m u l z = (H.set i (mem j u l)).set j (.idict z) ++ [src b m] := fun m u l z => upd_new li lj
 have hk : ∀ m u l z, ((H.set i (mem j u l)).set j (.idict z) ++ [src b m])[H.length]? = some (src b m) := fun m u l z => by
  rw [← eU]; exact get_ne (Nat.ne_of_lt lj) (get_ne (Nat.ne_of_lt li) (get_set (by simp)))
 cases o with
 | fin =>
  intro u l z _ _
  rw [eU]
  refine sT5 ?_
  refine xCons ?_
  refine sRet ?_
  refine vTup ?_
  refine aCons ?_
  refine Ev_l5 ok hn ?_
  refine aCons ?_
  refine vAttrN ?_
  refine Ev_l4 ok hn ?_
  refine Get_prop ok co_393 (hk _ _ _ _) pr_place (ok_place w) (S_place.mk (hk _ _ _ _) (prOf rfl ?_))
  refine aNil ?_
  refine ⟨Nat.le_of_ble_eq_true rfl, ?_⟩
  exact fin_mem lj ⟨trivial, trivial, trivial⟩ (q _ ⟨_, _, _, rfl⟩)
 | tok p m =>
  intro t u l z hp _ _ _ hm _
  rw [eU]
  have hU := hp.ins.2
  refine sT5 ?_
  refine xCons ?_
  refine sRet ?_
  refine vTup ?_
  refine aCons ?_
  refine Ev_l5 ok hn ?_ ‹_›
  refine aCons ?_
  refine vAttrN ?_
  refine Ev_l4 ok hn ?_
  refine Get_prop ok co_393 (hk _ _ _ _) pr_place (ok_place w) (S_place.mk (hk _ _ _ _) (prOf rfl ?_))
  refine aNil ?_
  refine ⟨Nat.le_of_ble_eq_true rfl, ?_⟩
  exact fin_mem lj ⟨hp.lt, trivial, trivial⟩ (q t _ ⟨_, _, _, rfl⟩ (hp.le hm))
 | bad e =>
  intro m u l z
  rw [eU]
  exact finE_mem lj (q _ ⟨_, _, _, rfl⟩)
theorem whT_eq (x : UInt8) : (0 == (x.toNat : Int) || (4 == (x.toNat : Int) || (9 == (x.toNat : Int) || (10 == (x.toNat : Int) || (12 == (x.toNat : Int) || (13 == (x.toNat : Int) || (32 == (x.toNat : Int) || false))))))) = wh x := by
 have := u8all (p := fun x => (0 == (x.toNat : Int) || (4 == (x.toNat : Int) || (9 == (x.toNat : Int) || (10 == (x.toNat : Int) || (12 == (x.toNat : Int) || (13 == (x.toNat : Int) || (32 == (x.toNat : Int) || false))))))) == [0, 4, 9, 10, 12, 13, 32].contains x) (by decide +kernel) x
 exact eq_of_beq this
inductive S_lwhite (bud : Nat) (args : List AV) (H : List AO) (Q : QT) (R : RT) : Prop
 | c (x : UInt8) (h0 : args = [.int x.toNat]) (h1 : Q (.bool (wh x)) H) : S_lwhite bud args H Q R
theorem S_lwhite.mk {bud : Nat} {x : UInt8} {H : List AO} {Q : QT} {R : RT}  (q : Q (.bool (wh x)) H) : S_lwhite bud [.int x.toNat] H Q R := ⟨_, rfl, q⟩
theorem ok_lwhite (w : World) : OK (GG w) 940 S_lwhite := by
 refine mkOK [] ["octet"] 1 ⟨_, _, _, rfl⟩ rfl (by kernel_rfl) rfl (fun vs hv => by obtain ⟨a, rfl⟩ := len1 hv; rfl) ?_
 rintro c ok hn hg _ _ H Q R ⟨x, rfl, q⟩ hlt
 refine ⟨[_], ⟨rfl, rfl⟩, ?_⟩
 rw [← whT_eq] at q
 refine xCons ?_
 refine sRet ?_
 refine vCmp ?_
 refine Ev_l0 ok hn ?_
 refine vTup ?_
 refine aCons ?_
 refine Ev_int ?_
 refine aCons ?_
 refine Ev_int ?_
 refine aCons ?_
 refine Ev_int ?_
 refine aCons ?_
 refine Ev_int ?_
 refine aCons ?_
 refine Ev_int ?_
 refine aCons ?_
 refine Ev_int ?_
 refine aCons ?_
 refine Ev_int ?_
 refine aNil ?_
 refine ⟨Nat.le_of_ble_eq_true rfl, ?_⟩
 refine Cmp_in_tup rfl ?_
 refine Fin.id trivial ?_
 exact q
inductive S_lrun (bud : Nat) (args : List AV) (H : List AO) (Q : QT) (R : RT) : Prop
 | c (b0 : Nat) (b : List UInt8) (n : Nat) (h0 : bud = b0 + 1) (h1 : args = [.bytes b, .int n]) (h2 : b.length ≤ 1000) (h3 : n ≤ b.length) (h4 : Q (.int (run b n)) H) : S_lrun bud args H Q R
theorem S_lrun.mk {b0 : Nat} {b : List UInt8} {n : Nat} {H : List AO} {Q : QT} {R : RT} (hb : b.length ≤ 1000) (hn : n ≤ b.length) (q : Q (.int (run b n)) H) : S_lrun (b0 + 1) [.bytes b, .int n] H Q R := ⟨_, _, _, rfl, rfl, hb, hn, q⟩
theorem ok_lrun (w : World) : OK (GG w) 947 S_lrun := by
 refine mkOK ["len", "_law_is_white"] ["octets", "at"] 2 ⟨_, _, _, rfl⟩ rfl (by kernel_rfl) rfl (fun vs hv => by obtain ⟨a, b, rfl⟩ := len2 hv; rfl) ?_
 rintro c ok hn hg _ _ H Q R ⟨b0, b, n, rfl, rfl, hb, hnb, q⟩ hlt
 refine ⟨[_, _], ⟨rfl, rfl⟩, ?_⟩
 refine xCons ?_
 refine sWhile (fun f st1 => ∃ m, f = b.length - m ∧ m ≤ b.length ∧ run b n = run b m ∧ st1 = ⟨[.bytes b, .int m], H⟩) _ ok ⟨n, rfl, hnb, rfl, rfl⟩ ?_
 rintro _ _ ⟨m, rfl, h2, h3, rfl⟩
 rw [h3] at q
 cases hx : b[m]? with
 | none =>
  have ht : decide ((m : Int) < (b.length : Int)) = false := ltF (List.getElem?_eq_none_iff.mp hx)
  refine tBool ?_
  refine lAnd ?_
  refine tCmp ?_
  refine Ev_l1 ok hn ?_
  refine vCallN ?_
  refine Ev_gu ok hg .z b_len ?_
  refine wBi ?_
  refine aCons ?_
  refine Ev_l0 ok hn ?_
  refine aNil ?_
  refine Cal_len_bytes (by first | exact le2 ‹_› | omega) ?_
  refine Cmp_lt_int ?_
  refine isB ?_
  refine brF ‹_› ?_
  refine brF rfl ?_
  refine xCons ?_
  refine sRet ?_
  refine Ev_l1 ok hn ?_
  refine Fin.id trivial ?_
  rw [run_none hx] at q
  exact q
 | some x =>
  have hl := (List.getElem?_eq_some_iff.mp hx).1
  have ht : decide ((m : Int) < (b.length : Int)) = true := ltT hl
  refine tBool ?_
  refine lAnd ?_
  refine tCmp ?_
  refine Ev_l1 ok hn ?_
  refine vCallN ?_
  refine Ev_gu ok hg .z b_len ?_
  refine wBi ?_
  refine aCons ?_
  refine Ev_l0 ok hn ?_
  refine aNil ?_
  refine Cal_len_bytes (by first | exact le2 ‹_› | omega) ?_
  refine Cmp_lt_int ?_
  refine isB ?_
  refine brT ‹_› ?_
  refine lAnd ?_
  refine tNot ?_
  refine tVal ?_
  refine vCallN ?_
  refine Ev_gr ok hg (.s .z) g__law_is_white ?_
  refine wFn (by kernel_rfl) ?_
  refine aCons ?_
  refine vSub ?_
  refine Ev_l0 ok hn ?_
  refine Ev_l1 ok hn ?_
  refine Item_bytes _ rfl (by first | exact le2 ‹_› | omega) ‹_› ?_
  refine aNil ?_
  refine calFn ok (ok_lwhite w) ?_
  refine S_lwhite.mk ?_
  refine Tru_bool ?_
  refine br (fun c1 => ?_) (fun c1 => ?_)
  refine lAnd ?_
  refine tCmp ?_
  refine vSub ?_
  refine Ev_l0 ok hn ?_
  refine Ev_l1 ok hn ?_
  refine Item_bytes _ rfl (by first | exact le2 ‹_› | omega) ‹_› ?_
  refine Ev_bytes ?_
  refine Cmp_notin_bytes ?_
  refine isB ?_
  refine br (fun c2 => ?_) (fun c2 => ?_)
  refine lAnd0 ?_
  refine brT rfl ?_
  refine xCons ?_
  refine sSet ok hn (.s .z) ?_
  refine vBin ?_
  refine Ev_l1 ok hn ?_
  refine Ev_int ?_
  refine Bin_add ?_
  refine sT1 ?_
  refine xNil ?_
  rotate_left
  refine brF rfl ?_
  refine xCons ?_
  refine sRet ?_
  refine Ev_l1 ok hn ?_
  refine Fin.id trivial ?_
  rotate_left
  refine brF rfl ?_
  refine xCons ?_
  refine sRet ?_
  refine Ev_l1 ok hn ?_
  refine Fin.id trivial ?_
  rotate_left
  ·have e : rg x = true := by show (!wh x && !dl x) = true; rw [c1, c2]; rfl
   exact ⟨b.length - (m + 1), dec_lt hl, m + 1, rfl, hl, by rw [h3, run_on hx e], rfl⟩
  ·have e : rg x = false := by show (!wh x && !dl x) = false; rw [c2, Bool.and_false]
   rw [run_off hx e] at q
   exact q
  ·have e : rg x = false := by show (!wh x && !dl x) = false; rw [c1, Bool.false_and]
   rw [run_off hx e] at q
   exact q
theorem le_eq {y : UInt8} : (10 == (y.toNat : Int) || (12 == (y.toNat : Int) || (13 == (y.toNat : Int) || false))) = [10, 12, 13].contains y := by
 have := u8all (p := fun y => (10 == (y.toNat : Int) || (12 == (y.toNat : Int) || (13 == (y.toNat : Int) || false))) == [10, 12, 13].contains y) (by decide +kernel) y
 exact eq_of_beq this
theorem le_wh {y : UInt8} (h : [10, 12, 13].contains y = true) : wh y = true := by
 have := u8all (p := fun y => !([10, 12, 13].contains y) || [0, 4, 9, 10, 12, 13, 32].contains y) (by decide +kernel) y
 rw [h] at this; simpa using this
noncomputable def two (b : List UInt8) (n : Nat) : List UInt8 := (b.drop n).take 2
theorem cut2 {b : List UInt8} {n : Nat} : cutL (some n) (some (n + 2)) b = two b n := by unfold cutL two; simp
theorem two_none {b : List UInt8} {n : Nat} (h : b[n]? = none) : two b n = [] := by
 unfold two
 rw [List.drop_eq_nil_of_le (List.getElem?_eq_none_iff.mp h)]; rfl
theorem two_some {b : List UInt8} {n : Nat} {x : UInt8} (h : b[n]? = some x) : two b n = x :: (match b[n + 1]? with | some y => [y] | none => []) := by
 unfold two
 rw [drop_some h, List.take_succ_cons]
 cases hy : b[n + 1]? with
 | none => rw [List.drop_eq_nil_of_le (List.getElem?_eq_none_iff.mp hy)]; rfl
 | some y => rw [drop_some hy]; rfl
theorem two_eq {b : List UInt8} {n : Nat} {x u v : UInt8} (h : ((x :: (match b[n + 1]? with | some y => [y] | none => [])) == [u, v]) = true) : x = u ∧ b[n + 1]? = some v := by
 have e := eq_of_beq h
 cases hy : b[n + 1]? with
 | none => rw [hy] at e; cases e
 | some y => rw [hy] at e; cases e; exact ⟨rfl, rfl⟩
theorem two_ne {b : List UInt8} {n : Nat} {x v : UInt8} (h : ((x :: (match b[n + 1]? with | some y => [y] | none => [])) == [x, v]) = false) : ¬ b[n + 1]? = some v := fun e => by
 rw [e] at h
 exact absurd h (by simp)
inductive S_lbegun (bud : Nat) (args : List AV) (H : List AO) (Q : QT) (R : RT) : Prop
 | c (b0 : Nat) (b : List UInt8) (n : Nat) (h0 : bud = b0 + 1) (h1 : args = [.bytes b, .int n]) (h2 : b.length ≤ 1000) (h3 : n ≤ b.length) (h4 : Q (.int (bg false b n)) H) : S_lbegun bud args H Q R
theorem S_lbegun.mk {b0 : Nat} {b : List UInt8} {n : Nat} {H : List AO} {Q : QT} {R : RT} (hb : b.length ≤ 1000) (hn : n ≤ b.length) (q : Q (.int (bg false b n)) H) : S_lbegun (b0 + 1) [.bytes b, .int n] H Q R := ⟨_, _, _, rfl, rfl, hb, hn, q⟩
theorem ok_lbegun (w : World) : OK (GG w) 961 S_lbegun := by
 refine mkOK ["len", "_law_is_white"] ["octets", "at"] 2 ⟨_, _, _, rfl⟩ rfl (by kernel_rfl) rfl (fun vs hv => by obtain ⟨a, b, rfl⟩ := len2 hv; rfl) ?_
 rintro c ok hn hg _ _ H Q R ⟨b0, b, n, rfl, rfl, hb, hnb, q⟩ hlt
 refine ⟨[_, _], ⟨rfl, rfl⟩, ?_⟩
 refine xCons ?_
 refine sWhile (fun f st1 => ∃ m, f = b.length - m ∧ m ≤ b.length ∧ bg false b n = bg false b m ∧ st1 = ⟨[.bytes b, .int m], H⟩) _ ok ⟨n, rfl, hnb, rfl, rfl⟩ ?_
 rintro _ _ ⟨m, rfl, h2, h3, rfl⟩
 rw [h3] at q
 cases hx : b[m]? with
 | none =>
  have ht : decide ((m : Int) < (b.length : Int)) = false := ltF (List.getElem?_eq_none_iff.mp hx)
  refine tBool ?_
  refine lAnd ?_
  refine tCmp ?_
  refine Ev_l1 ok hn ?_
  refine vCallN ?_
  refine Ev_gu ok hg .z b_len ?_
  refine wBi ?_
  refine aCons ?_
  refine Ev_l0 ok hn ?_
  refine aNil ?_
  refine Cal_len_bytes (by first | exact le2 ‹_› | omega) ?_
  refine Cmp_lt_int ?_
  refine isB ?_
  refine brF ‹_› ?_
  refine brF rfl ?_
  refine xCons ?_
  refine sRet ?_
  refine Ev_l1 ok hn ?_
  refine Fin.id trivial ?_
  rw [bg_none hx] at q
  exact q
 | some x =>
  have hl := (List.getElem?_eq_some_iff.mp hx).1
  have ht : decide ((m : Int) < (b.length : Int)) = true := ltT hl
  refine tBool ?_
  refine lAnd ?_
  refine tCmp ?_
  refine Ev_l1 ok hn ?_
  refine vCallN ?_
  refine Ev_gu ok hg .z b_len ?_
  refine wBi ?_
  refine aCons ?_
  refine Ev_l0 ok hn ?_
  refine aNil ?_
  refine Cal_len_bytes (by first | exact le2 ‹_› | omega) ?_
  refine Cmp_lt_int ?_
  refine isB ?_
  refine brT ‹_› ?_
  refine lAnd ?_
  refine tBool ?_
  refine lOr ?_
  refine tVal ?_
  refine vCallN ?_
  refine Ev_gr ok hg (.s .z) g__law_is_white ?_
  refine wFn (by kernel_rfl) ?_
  refine aCons ?_
  refine vSub ?_
  refine Ev_l0 ok hn ?_
  refine Ev_l1 ok hn ?_
  refine Item_bytes _ rfl (by first | exact le2 ‹_› | omega) ‹_› ?_
  refine aNil ?_
  refine calFn ok (ok_lwhite w) ?_
  refine S_lwhite.mk ?_
  refine Tru_bool ?_
  refine br (fun c1 => ?_) (fun c1 => ?_)
  refine brT rfl ?_
  refine lAnd0 ?_
  refine brT rfl ?_
  refine xCons ?_
  refine sIf ?_
  refine tCmp ?_
  refine vSub ?_
  refine Ev_l0 ok hn ?_
  refine Ev_l1 ok hn ?_
  refine Item_bytes _ rfl (by first | exact le2 ‹_› | omega) ‹_› ?_
  refine Ev_int ?_
  refine Cmp_eq_int ?_
  refine isB ?_
  refine br (fun c2 => ?_) (fun c2 => ?_)
  refine xCons ?_
  rotate_left
  refine xCons ?_
  refine sSet ok hn (.s .z) ?_
  refine vBin ?_
  refine Ev_l1 ok hn ?_
  refine Ev_int ?_
  refine Bin_add ?_
  refine sT1 ?_
  refine xNil ?_
  refine xNil ?_
  rotate_left
  refine lOr ?_
  refine tCmp ?_
  refine vSub ?_
  refine Ev_l0 ok hn ?_
  refine Ev_l1 ok hn ?_
  refine Item_bytes _ rfl (by first | exact le2 ‹_› | omega) ‹_› ?_
  refine Ev_int ?_
  refine Cmp_eq_int ?_
  refine isB ?_
  refine br (fun c2 => ?_) (fun c2 => ?_)
  refine brT rfl ?_
  refine lAnd0 ?_
  refine brT rfl ?_
  refine xCons ?_
  refine sIf ?_
  refine tCmp ?_
  refine vSub ?_
  refine Ev_l0 ok hn ?_
  refine Ev_l1 ok hn ?_
  refine Item_bytes _ rfl (by first | exact le2 ‹_› | omega) ‹_› ?_
  refine Ev_int ?_
  refine Cmp_eq_int ?_
  refine isB ?_
  refine brT ‹_› ?_
  refine xCons ?_
  rotate_left
  refine lOr0 ?_
  refine brF rfl ?_
  refine brF rfl ?_
  refine xCons ?_
  refine sRet ?_
  refine Ev_l1 ok hn ?_
  refine Fin.id trivial ?_
  rotate_left
  ·exact absurd c1 (by rw [u8eq (y := 37) c2]; decide)
  ·exact ⟨b.length - (m + 1), dec_lt hl, m + 1, rfl, hl, by rw [h3, bg_wh hx c1], rfl⟩
  ·obtain rfl : x = 37 := u8eq (y := 37) c2
   have e0 : bg false b n = bg true b m := by rw [h3, bg_per hx, bg_com hx (by decide)]
   refine sWhile (fun f st1 => ∃ m2, f = b.length - m2 ∧ m ≤ m2 ∧ m2 ≤ b.length ∧ bg false b n = bg true b m2 ∧ st1 = ⟨[.bytes b, .int m2], H⟩) _ ok ⟨m, rfl, Nat.le_refl _, h2, e0, rfl⟩ ?_
   rintro _ _ ⟨m2, rfl, k1, k2, k3, rfl⟩
   cases hy : b[m2]? with
   | none =>
    have k4 := List.getElem?_eq_none_iff.mp hy
    have ht2 : decide ((m2 : Int) < (b.length : Int)) = false := ltF k4
    refine tBool ?_
    refine lAnd ?_
    refine tCmp ?_
    refine Ev_l1 ok hn ?_
    refine vCallN ?_
    refine Ev_gu ok hg .z b_len ?_
    refine wBi ?_
    refine aCons ?_
    refine Ev_l0 ok hn ?_
    refine aNil ?_
    refine Cal_len_bytes (by first | exact le2 ‹_› | omega) ?_
    refine Cmp_lt_int ?_
    refine isB ?_
    refine brF ‹_› ?_
    refine brF rfl ?_
    refine xNil ?_
    refine xNil ?_
    exact ⟨b.length - m2, Nat.sub_lt_sub_left hl (Nat.lt_of_lt_of_le hl k4), m2, rfl, k2, by rw [k3, bg_none hy, bg_none hy], rfl⟩
   | some y =>
    have hl2 := (List.getElem?_eq_some_iff.mp hy).1
    have ht2 : decide ((m2 : Int) < (b.length : Int)) = true := ltT hl2
    refine tBool ?_
    refine lAnd ?_
    refine tCmp ?_
    refine Ev_l1 ok hn ?_
    refine vCallN ?_
    refine Ev_gu ok hg .z b_len ?_
    refine wBi ?_
    refine aCons ?_
    refine Ev_l0 ok hn ?_
    refine aNil ?_
    refine Cal_len_bytes (by first | exact le2 ‹_› | omega) ?_
    refine Cmp_lt_int ?_
    refine isB ?_
    refine brT ‹_› ?_
    refine lAnd ?_
    refine tCmp ?_
    refine vSub ?_
    refine Ev_l0 ok hn ?_
    refine Ev_l1 ok hn ?_
    refine Item_bytes _ rfl (by first | exact le2 ‹_› | omega) ‹_› ?_
    refine vTup ?_
    refine aCons ?_
    refine Ev_int ?_
    refine aCons ?_
    refine Ev_int ?_
    refine aCons ?_
    refine Ev_int ?_
    refine aNil ?_
    refine ⟨Nat.le_of_ble_eq_true rfl, ?_⟩
    refine Cmp_notin_tup rfl ?_
    refine isB ?_
    refine br (fun c3 => ?_) (fun c3 => ?_)
    refine lAnd0 ?_
    refine brT rfl ?_
    refine xCons ?_
    refine sSet ok hn (.s .z) ?_
    refine vBin ?_
    refine Ev_l1 ok hn ?_
    refine Ev_int ?_
    refine Bin_add ?_
    refine sT1 ?_
    refine xNil ?_
    rotate_left
    refine brF rfl ?_
    refine xNil ?_
    refine xNil ?_
    rotate_left
    ·refine ⟨b.length - (m2 + 1), dec_lt hl2, m2 + 1, rfl, Nat.le_succ_of_le k1, hl2, ?_, rfl⟩
     rw [k3, bg_com hy (by rw [← le_eq]; exact nB c3)]
    ·have c4 : [10, 12, 13].contains y = true := by rw [← le_eq]; exact nF c3
     have hne : m2 ≠ m := fun e => by subst e; rw [hx] at hy; cases hy; cases c4
     refine ⟨b.length - m2, Nat.sub_lt_sub_left hl (Nat.lt_of_le_of_ne k1 hne.symm), m2, rfl, k2, ?_, rfl⟩
     rw [k3, bg_end hy c4, bg_wh hy (le_wh c4)]
  ·have h37 := u8ne (y := 37) c2
   rw [bg_stop hx c1 h37] at q
   exact q
inductive S_lbehind (bud : Nat) (args : List AV) (H : List AO) (Q : QT) (R : RT) : Prop
 | c (b0 : Nat) (b : List UInt8) (n : Nat) (h0 : bud = b0 + 1) (h1 : args = [.bytes b, .int n]) (h2 : b.length ≤ 1000) (h3 : n ≤ b.length) (h4 : Q (.int (bh b n)) H) : S_lbehind bud args H Q R
theorem S_lbehind.mk {b0 : Nat} {b : List UInt8} {n : Nat} {H : List AO} {Q : QT} {R : RT} (hb : b.length ≤ 1000) (hn : n ≤ b.length) (q : Q (.int (bh b n)) H) : S_lbehind (b0 + 1) [.bytes b, .int n] H Q R := ⟨_, _, _, rfl, rfl, hb, hn, q⟩
theorem ok_lbehind (w : World) : OK (GG w) 954 S_lbehind := by
 refine mkOK ["len", "_law_is_white"] ["octets", "at"] 2 ⟨_, _, _, rfl⟩ rfl (by kernel_rfl) rfl (fun vs hv => by obtain ⟨a, b, rfl⟩ := len2 hv; rfl) ?_
 rintro c ok hn hg _ _ H Q R ⟨b0, b, n, rfl, rfl, hb, hnb, q⟩ hlt
 refine ⟨[_, _], ⟨rfl, rfl⟩, ?_⟩
 refine xCons ?_
 refine sIf ?_
 refine tCmp ?_
 refine vCut ?_
 refine Ev_l0 ok hn ?_
 refine Eo_some ?_
 refine Ev_l1 ok hn ?_
 refine Eo_some ?_
 refine vBin ?_
 refine Ev_l1 ok hn ?_
 refine Ev_int ?_
 refine Bin_add ?_
 refine Cut_bytes (lo := some n) (hi := some (n + 2)) (.int rfl) (.int rfl) (by first | exact le2 ‹_› | omega) ?_
 rw [cut2]
 cases hx : b[n]? with
 | none =>
  have ht : decide ((n : Int) < (b.length : Int)) = false := ltF (List.getElem?_eq_none_iff.mp hx)
  rw [two_none hx]
  refine Ev_bytes ?_
  refine Cmp_eq_bytes ?_
  refine isB ?_
  refine brF rfl ?_
  refine xNil ?_
  refine xCons ?_
  refine sRet ?_
  refine vIf ?_
  refine tBool ?_
  refine lAnd ?_
  refine tCmp ?_
  refine Ev_l1 ok hn ?_
  refine vCallN ?_
  refine Ev_gu ok hg .z b_len ?_
  refine wBi ?_
  refine aCons ?_
  refine Ev_l0 ok hn ?_
  refine aNil ?_
  refine Cal_len_bytes (by first | exact le2 ‹_› | omega) ?_
  refine Cmp_lt_int ?_
  refine isB ?_
  refine brF ‹_› ?_
  refine brF rfl ?_
  refine Ev_l1 ok hn ?_
  refine Fin.id trivial ?_
  rw [bh_none hx] at q
  exact q
 | some x =>
  have hl := (List.getElem?_eq_some_iff.mp hx).1
  have ht : decide ((n : Int) < (b.length : Int)) = true := ltT hl
  rw [two_some hx]
  refine Ev_bytes ?_
  refine Cmp_eq_bytes ?_
  refine isB ?_
  refine br (fun c1 => ?_) (fun c1 => ?_)
  refine xCons ?_
  refine sRet ?_
  refine vBin ?_
  refine Ev_l1 ok hn ?_
  refine Ev_int ?_
  refine Bin_add ?_
  refine Fin.id trivial ?_
  rotate_left
  refine xNil ?_
  refine xCons ?_
  refine sRet ?_
  refine vIf ?_
  refine tBool ?_
  refine lAnd ?_
  refine tCmp ?_
  refine Ev_l1 ok hn ?_
  refine vCallN ?_
  refine Ev_gu ok hg .z b_len ?_
  refine wBi ?_
  refine aCons ?_
  refine Ev_l0 ok hn ?_
  refine aNil ?_
  refine Cal_len_bytes (by first | exact le2 ‹_› | omega) ?_
  refine Cmp_lt_int ?_
  refine isB ?_
  refine brT ‹_› ?_
  refine lAnd ?_
  refine tVal ?_
  refine vCallN ?_
  refine Ev_gr ok hg (.s .z) g__law_is_white ?_
  refine wFn (by kernel_rfl) ?_
  refine aCons ?_
  refine vSub ?_
  refine Ev_l0 ok hn ?_
  refine Ev_l1 ok hn ?_
  refine Item_bytes _ rfl (by first | exact le2 ‹_› | omega) ‹_› ?_
  refine aNil ?_
  refine calFn ok (ok_lwhite w) ?_
  refine S_lwhite.mk ?_
  refine Tru_bool ?_
  refine br (fun c2 => ?_) (fun c2 => ?_)
  refine lAnd0 ?_
  refine brT rfl ?_
  refine vBin ?_
  refine Ev_l1 ok hn ?_
  refine Ev_int ?_
  refine Bin_add ?_
  refine Fin.id trivial ?_
  rotate_left
  refine brF rfl ?_
  refine Ev_l1 ok hn ?_
  refine Fin.id trivial ?_
  rotate_left
  ·obtain ⟨rfl, h10⟩ := two_eq c1
   rw [bh_13 hx, feed, if_pos h10] at q
   exact q
  ·rw [bh, hx] at q
   dsimp only at q
   rw [if_pos c2] at q
   by_cases e : x = 13
   ·subst e
    rw [if_pos rfl, feed, if_neg (two_ne c1)] at q
    exact q
   ·rw [if_neg e] at q
    exact q
  ·rw [bh_dl hx c2] at q
   exact q
theorem str_s : strOf sErr = ("syntaxerror" : Str) := by decide +kernel
theorem str_u : strOf uErr = ("undefined" : Str) := by decide +kernel
theorem str_l : strOf lErr = ("limitcheck" : Str) := by decide +kernel
noncomputable def kLw (o : One) (Q : QT) (H : List AO) : Prop := match o with
 | .tok l m => Q (.tup [lfP l, .int m]) H
 | .bad e => ∀ m : Int, Q (.tup [.str (strOf e), .int m]) H
theorem two_ne1 {b : List UInt8} {n : Nat} {x u v : UInt8} (h : b[n]? = some x) (e : x ≠ u) : ([u, v] == two b n) = false := by
 rw [two_some h, beq_eq_false_iff_ne]
 intro q
 injection q with q1 q2
 exact e q1.symm
theorem cut_1 {b : List UInt8} {n : Nat} {x : UInt8} (h : b[n]? = some x) : cutL (some n) (some (n + 1)) b = [x] := by
 unfold cutL
 simp only [Option.getD_some]
 rw [drop_some h, Nat.add_sub_cancel_left]; rfl
theorem cut_seg {b : List UInt8} {n m : Nat} : cutL (some n) (some m) b = seg b n m := rfl
inductive S_lword (bud : Nat) (args : List AV) (H : List AO) (Q : QT) (R : RT) : Prop
 | c (b0 : Nat) (b : List UInt8) (n : Nat) (x : UInt8) (h0 : bud = b0 + 5) (h1 : args = [.bytes b, .int n]) (h2 : b.length ≤ 100) (h3 : b[n]? = some x) (h4 : x = 60 → b[n + 1]? = some 60) (h5 : kLw (oneO b n) Q H) : S_lword bud args H Q R
theorem S_lword.mk {b0 : Nat} {b : List UInt8} {n : Nat} {x : UInt8} {H : List AO} {Q : QT} {R : RT} (hb : b.length ≤ 100) (hx : b[n]? = some x) (h60 : x = 60 → b[n + 1]? = some 60) (q : kLw (oneO b n) Q H) : S_lword (b0 + 5) [.bytes b, .int n] H Q R := ⟨_, _, _, _, rfl, rfl, hb, hx, h60, q⟩
theorem ok_lword (w : World) : OK (GG w) 968 S_lword := by
 refine mkOK ["_law_run", "_law_behind", "read_number", "PsError"] ["octets", "at", "two", "begin", "end", "told"] 2 ⟨_, _, _, rfl⟩ rfl (by kernel_rfl) rfl (fun vs hv => by obtain ⟨a, b, rfl⟩ := len2 hv; rfl) ?_
 rintro c ok hn hg _ _ H Q R ⟨b0, b, n, x, rfl, rfl, hb, hx, h60, q⟩ hlt
 refine ⟨[_, _, _, _, _, _], ⟨rfl, rfl⟩, ?_⟩
 have hl : n + 1 ≤ b.length := (List.getElem?_eq_some_iff.mp hx).1
 have hn' : n ≤ b.length := Nat.le_of_succ_le hl
 have hb' : b.length ≤ 1000 := Nat.le_trans hb (by decide)
 unfold oneO at q
 rw [hx] at q
 dsimp only at q
 refine xCons ?_
 refine sSet ok hn (.s (.s .z)) ?_
 refine vCut ?_
 refine Ev_l0 ok hn ?_
 refine Eo_some ?_
 refine Ev_l1 ok hn ?_
 refine Eo_some ?_
 refine vBin ?_
 refine Ev_l1 ok hn ?_
 refine Ev_int ?_
 refine Bin_add ?_
 refine Cut_bytes (lo := some n) (hi := some (n + 2)) (.int rfl) (.int (by omega)) (by first | exact le2 ‹_› | omega) ?_
 rw [cut2]
 by_cases e47 : x = 47
 ·subst e47
  rw [if_pos rfl] at q
  have t1 : ([60, 60] == two b n || ([62, 62] == two b n || false)) = false := by rw [two_ne1 hx (by decide), two_ne1 hx (by decide)]; rfl
  unfold slashO at q
  by_cases h47 : b[n + 1]? = some 47
  ·rw [if_pos h47] at q
   have t5 : (two b n == [47, 47]) = true := by rw [two_some hx, h47]; rfl
   have hl2 : n + 2 ≤ b.length := (List.getElem?_eq_some_iff.mp h47).1
   have hr : run b (n + 1 + 1) ≤ b.length := (run_le hl2).2
   refine sT2 ?_
   refine xCons ?_
   refine sIf ?_
   refine tCmp ?_
   refine Ev_l2 ok hn ?_
   refine vTup ?_
   refine aCons ?_
   refine Ev_bytes ?_
   refine aCons ?_
   refine Ev_bytes ?_
   refine aNil ?_
   refine ⟨Nat.le_of_ble_eq_true rfl, ?_⟩
   refine Cmp_in_tup rfl ?_
   refine isB ?_
   refine brF ‹_› ?_
   refine xNil ?_
   refine xCons ?_
   refine sIf ?_
   refine tCmp ?_
   refine vSub ?_
   refine Ev_l0 ok hn ?_
   refine Ev_l1 ok hn ?_
   refine Item_bytes _ rfl (by first | exact le2 ‹_› | omega) ‹_› ?_
   refine Ev_bytes ?_
   refine Cmp_in_bytes ?_
   refine isB ?_
   refine brF rfl ?_
   refine xNil ?_
   refine xCons ?_
   refine sIf ?_
   refine tCmp ?_
   refine vSub ?_
   refine Ev_l0 ok hn ?_
   refine Ev_l1 ok hn ?_
   refine Item_bytes _ rfl (by first | exact le2 ‹_› | omega) ‹_› ?_
   refine Ev_bytes ?_
   refine Cmp_in_bytes ?_
   refine isB ?_
   refine brF rfl ?_
   refine xNil ?_
   refine xCons ?_
   refine sIf ?_
   refine tCmp ?_
   refine vSub ?_
   refine Ev_l0 ok hn ?_
   refine Ev_l1 ok hn ?_
   refine Item_bytes _ rfl (by first | exact le2 ‹_› | omega) ‹_› ?_
   refine Ev_int ?_
   refine Cmp_eq_int ?_
   refine isB ?_
   refine brT rfl ?_
   refine xCons ?_
   refine sSet ok hn (.s (.s (.s .z))) ?_
   refine vIf ?_
   refine tCmp ?_
   refine Ev_l2 ok hn ?_
   refine Ev_bytes ?_
   refine Cmp_eq_bytes ?_
   refine isB ?_
   refine brT ‹_› ?_
   refine vBin ?_
   refine Ev_l1 ok hn ?_
   refine Ev_int ?_
   refine Bin_add ?_
   refine sT3 ?_
   refine xCons ?_
   refine sSet ok hn (.s (.s (.s (.s .z)))) ?_
   refine vCallN ?_
   refine Ev_gr ok hg .z g__law_run ?_
   refine wFn (by kernel_rfl) ?_
   refine aCons ?_
   refine Ev_l0 ok hn ?_
   refine aCons ?_
   refine Ev_l3 ok hn ?_
   refine aNil ?_
   refine calFn ok (ok_lrun w) ?_
   refine S_lrun.mk (by first | exact ‹_› | exact le2 ‹_› | omega) (by first | exact ‹_› | exact le2 ‹_› | omega) ?_
   refine sT4 ?_
   refine xCons ?_
   refine sIf ?_
   refine tCmp ?_
   refine Ev_l2 ok hn ?_
   refine Ev_bytes ?_
   refine Cmp_eq_bytes ?_
   refine isB ?_
   refine brT ‹_› ?_
   refine xCons ?_
   refine sRet ?_
   refine vTup ?_
   refine aCons ?_
   refine vIf ?_
   refine tCmp ?_
   refine vCut ?_
   refine Ev_l0 ok hn ?_
   refine Eo_some ?_
   refine Ev_l3 ok hn ?_
   refine Eo_some ?_
   refine Ev_l4 ok hn ?_
   refine Cut_bytes (lo := some (n + 1 + 1)) (hi := some (run b (n + 1 + 1))) (.int (by omega)) (.int rfl) (by first | exact le2 ‹_› | omega) ?_
   rw [cut_seg]
   refine Ev_bytes ?_
   refine Cmp_eq_bytes ?_
   refine isB ?_
   refine br (fun c1 => ?_) (fun c1 => ?_)
   refine vTup ?_
   refine aCons ?_
   refine Ev_str ?_
   refine aCons ?_
   refine Ev_int ?_
   refine aCons ?_
   refine Ev_bool ?_
   refine aNil ?_
   refine ⟨Nat.le_of_ble_eq_true rfl, ?_⟩
   refine aCons ?_
   refine vCallN ?_
   refine Ev_gr ok hg (.s .z) g__law_behind ?_
   refine wFn (by kernel_rfl) ?_
   refine aCons ?_
   refine Ev_l0 ok hn ?_
   refine aCons ?_
   refine Ev_l4 ok hn ?_
   refine aNil ?_
   refine calFn ok (ok_lbehind w) ?_
   refine S_lbehind.mk (by first | exact ‹_› | exact le2 ‹_› | omega) (by first | exact ‹_› | exact le2 ‹_› | omega) ?_
   refine aNil ?_
   refine ⟨Nat.le_of_ble_eq_true rfl, ?_⟩
   rotate_left
   refine Ev_str ?_
   refine aCons ?_
   refine vCallN ?_
   refine Ev_gr ok hg (.s .z) g__law_behind ?_
   refine wFn (by kernel_rfl) ?_
   refine aCons ?_
   refine Ev_l0 ok hn ?_
   refine aCons ?_
   refine Ev_l4 ok hn ?_
   refine aNil ?_
   refine calFn ok (ok_lbehind w) ?_
   refine S_lbehind.mk (by first | exact ‹_› | exact le2 ‹_› | omega) (by first | exact ‹_› | exact le2 ‹_› | omega) ?_
   refine aNil ?_
   refine ⟨Nat.le_of_ble_eq_true rfl, ?_⟩
   rotate_left
   ·rw [if_pos c1] at q
    exact Fin.id (av := .tup [.tup [.str "integer", .int 7, .bool false], .int (bh b (run b (n + 1 + 1)))]) ⟨⟨trivial, trivial, trivial, trivial⟩, trivial, trivial⟩ q
   ·rw [if_neg (by rw [c1]; decide)] at q
    have q' := q (bh b (run b (n + 1 + 1)))
    rw [str_u] at q'
    exact Fin.id (av := .tup [.str "undefined", .int (bh b (run b (n + 1 + 1)))]) ⟨trivial, trivial, trivial⟩ q'
  ·rw [if_neg h47] at q
   have t5 : (two b n == [47, 47]) = false := by
    rw [two_some hx, beq_eq_false_iff_ne]
    intro e
    cases hy : b[n + 1]? with
    | none => rw [hy] at e; cases e
    | some y => rw [hy] at e; cases e; exact h47 hy
   have hr : run b (n + 1) ≤ b.length := (run_le hl).2
   refine sT2 ?_
   refine xCons ?_
   refine sIf ?_
   refine tCmp ?_
   refine Ev_l2 ok hn ?_
   refine vTup ?_
   refine aCons ?_
   refine Ev_bytes ?_
   refine aCons ?_
   refine Ev_bytes ?_
   refine aNil ?_
   refine ⟨Nat.le_of_ble_eq_true rfl, ?_⟩
   refine Cmp_in_tup rfl ?_
   refine isB ?_
   refine brF ‹_› ?_
   refine xNil ?_
   refine xCons ?_
   refine sIf ?_
   refine tCmp ?_
   refine vSub ?_
   refine Ev_l0 ok hn ?_
   refine Ev_l1 ok hn ?_
   refine Item_bytes _ rfl (by first | exact le2 ‹_› | omega) ‹_› ?_
   refine Ev_bytes ?_
   refine Cmp_in_bytes ?_
   refine isB ?_
   refine brF rfl ?_
   refine xNil ?_
   refine xCons ?_
   refine sIf ?_
   refine tCmp ?_
   refine vSub ?_
   refine Ev_l0 ok hn ?_
   refine Ev_l1 ok hn ?_
   refine Item_bytes _ rfl (by first | exact le2 ‹_› | omega) ‹_› ?_
   refine Ev_bytes ?_
   refine Cmp_in_bytes ?_
   refine isB ?_
   refine brF rfl ?_
   refine xNil ?_
   refine xCons ?_
   refine sIf ?_
   refine tCmp ?_
   refine vSub ?_
   refine Ev_l0 ok hn ?_
   refine Ev_l1 ok hn ?_
   refine Item_bytes _ rfl (by first | exact le2 ‹_› | omega) ‹_› ?_
   refine Ev_int ?_
   refine Cmp_eq_int ?_
   refine isB ?_
   refine brT rfl ?_
   refine xCons ?_
   refine sSet ok hn (.s (.s (.s .z))) ?_
   refine vIf ?_
   refine tCmp ?_
   refine Ev_l2 ok hn ?_
   refine Ev_bytes ?_
   refine Cmp_eq_bytes ?_
   refine isB ?_
   refine brF ‹_› ?_
   refine vBin ?_
   refine Ev_l1 ok hn ?_
   refine Ev_int ?_
   refine Bin_add ?_
   refine sT3 ?_
   refine xCons ?_
   refine sSet ok hn (.s (.s (.s (.s .z)))) ?_
   refine vCallN ?_
   refine Ev_gr ok hg .z g__law_run ?_
   refine wFn (by kernel_rfl) ?_
   refine aCons ?_
   refine Ev_l0 ok hn ?_
   refine aCons ?_
   refine Ev_l3 ok hn ?_
   refine aNil ?_
   refine calFn ok (ok_lrun w) ?_
   refine S_lrun.mk (by first | exact ‹_› | exact le2 ‹_› | omega) (by first | exact ‹_› | exact le2 ‹_› | omega) ?_
   refine sT4 ?_
   refine xCons ?_
   refine sIf ?_
   refine tCmp ?_
   refine Ev_l2 ok hn ?_
   refine Ev_bytes ?_
   refine Cmp_eq_bytes ?_
   refine isB ?_
   refine brF ‹_› ?_
   refine xNil ?_
   refine xCons ?_
   refine sRet ?_
   refine vTup ?_
   refine aCons ?_
   refine vTup ?_
   refine aCons ?_
   refine Ev_str ?_
   refine aCons ?_
   refine vCut ?_
   refine Ev_l0 ok hn ?_
   refine Eo_some ?_
   refine Ev_l3 ok hn ?_
   refine Eo_some ?_
   refine Ev_l4 ok hn ?_
   refine Cut_bytes (lo := some (n + 1)) (hi := some (run b (n + 1))) (.int (by omega)) (.int rfl) (by first | exact le2 ‹_› | omega) ?_
   rw [cut_seg]
   refine aCons ?_
   refine Ev_bool ?_
   refine aNil ?_
   refine ⟨Nat.le_of_ble_eq_true rfl, ?_⟩
   refine aCons ?_
   refine vCallN ?_
   refine Ev_gr ok hg (.s .z) g__law_behind ?_
   refine wFn (by kernel_rfl) ?_
   refine aCons ?_
   refine Ev_l0 ok hn ?_
   refine aCons ?_
   refine Ev_l4 ok hn ?_
   refine aNil ?_
   refine calFn ok (ok_lbehind w) ?_
   refine S_lbehind.mk (by first | exact ‹_› | exact le2 ‹_› | omega) (by first | exact ‹_› | exact le2 ‹_› | omega) ?_
   refine aNil ?_
   refine ⟨Nat.le_of_ble_eq_true rfl, ?_⟩
   exact Fin.id (av := .tup [.tup [.str "name", .bytes (seg b (n + 1) (run b (n + 1))), .bool false], .int (bh b (run b (n + 1)))]) ⟨⟨trivial, trivial, trivial, trivial⟩, trivial, trivial⟩ q
 rw [if_neg e47] at q
 have t4 : ((x.toNat : Int) == 47) = false := beq_eq_false_iff_ne.mpr fun e => e47 (u8i (y := 47) e)
 by_cases e60 : x = 60
 ·have t1 : ([60, 60] == two b n || ([62, 62] == two b n || false)) = true := by rw [two_some hx, h60 e60, e60]; rfl
  rw [if_pos e60] at q
  refine sT2 ?_
  refine xCons ?_
  refine sIf ?_
  refine tCmp ?_
  refine Ev_l2 ok hn ?_
  refine vTup ?_
  refine aCons ?_
  refine Ev_bytes ?_
  refine aCons ?_
  refine Ev_bytes ?_
  refine aNil ?_
  refine ⟨Nat.le_of_ble_eq_true rfl, ?_⟩
  refine Cmp_in_tup rfl ?_
  refine isB ?_
  refine brT ‹_› ?_
  refine xCons ?_
  refine sRet ?_
  refine vTup ?_
  refine aCons ?_
  refine vTup ?_
  refine aCons ?_
  refine Ev_str ?_
  refine aCons ?_
  refine Ev_l2 ok hn ?_
  refine aCons ?_
  refine Ev_bool ?_
  refine aNil ?_
  refine ⟨Nat.le_of_ble_eq_true rfl, ?_⟩
  refine aCons ?_
  refine vBin ?_
  refine Ev_l1 ok hn ?_
  refine Ev_int ?_
  refine Bin_add ?_
  refine aNil ?_
  refine ⟨Nat.le_of_ble_eq_true rfl, ?_⟩
  have e2 : two b n = [60, 60] := by rw [two_some hx, h60 e60, e60]
  rw [e2]
  exact Fin.id (av := .tup [.tup [.str "name", .bytes [60, 60], .bool true], .int ((n + 2 : Nat) : Int)]) ⟨⟨trivial, trivial, trivial, trivial⟩, trivial, trivial⟩ q
 rw [if_neg e60] at q
 by_cases e62 : x = 62
 ·subst e62
  rw [if_pos rfl] at q
  by_cases h62 : b[n + 1]? = some 62
  ·have e2 : two b n = [62, 62] := by rw [two_some hx, h62]
   have t1 : ([60, 60] == two b n || ([62, 62] == two b n || false)) = true := by rw [e2]; rfl
   rw [if_pos h62] at q
   refine sT2 ?_
   refine xCons ?_
   refine sIf ?_
   refine tCmp ?_
   refine Ev_l2 ok hn ?_
   refine vTup ?_
   refine aCons ?_
   refine Ev_bytes ?_
   refine aCons ?_
   refine Ev_bytes ?_
   refine aNil ?_
   refine ⟨Nat.le_of_ble_eq_true rfl, ?_⟩
   refine Cmp_in_tup rfl ?_
   refine isB ?_
   refine brT ‹_› ?_
   refine xCons ?_
   refine sRet ?_
   refine vTup ?_
   refine aCons ?_
   refine vTup ?_
   refine aCons ?_
   refine Ev_str ?_
   refine aCons ?_
   refine Ev_l2 ok hn ?_
   refine aCons ?_
   refine Ev_bool ?_
   refine aNil ?_
   refine ⟨Nat.le_of_ble_eq_true rfl, ?_⟩
   refine aCons ?_
   refine vBin ?_
   refine Ev_l1 ok hn ?_
   refine Ev_int ?_
   refine Bin_add ?_
   refine aNil ?_
   refine ⟨Nat.le_of_ble_eq_true rfl, ?_⟩
   rw [e2]
   exact Fin.id (av := .tup [.tup [.str "name", .bytes [62, 62], .bool true], .int ((n + 2 : Nat) : Int)]) ⟨⟨trivial, trivial, trivial, trivial⟩, trivial, trivial⟩ q
  ·have t1 : ([60, 60] == two b n || ([62, 62] == two b n || false)) = false := by
    rw [two_ne1 hx (by decide), Bool.false_or, Bool.or_false, two_some hx, beq_eq_false_iff_ne]
    intro e
    cases hy : b[n + 1]? with
    | none => rw [hy] at e; cases e
    | some y => rw [hy] at e; cases e; exact h62 hy
   have t2 : ([91, 93] : List UInt8).contains (62 : UInt8) = false := by decide
   have t3 : ([41, 62] : List UInt8).contains (62 : UInt8) = true := by decide
   rw [if_neg h62] at q
   refine sT2 ?_
   refine xCons ?_
   refine sIf ?_
   refine tCmp ?_
   refine Ev_l2 ok hn ?_
   refine vTup ?_
   refine aCons ?_
   refine Ev_bytes ?_
   refine aCons ?_
   refine Ev_bytes ?_
   refine aNil ?_
   refine ⟨Nat.le_of_ble_eq_true rfl, ?_⟩
   refine Cmp_in_tup rfl ?_
   refine isB ?_
   refine brF ‹_› ?_
   refine xNil ?_
   refine xCons ?_
   refine sIf ?_
   refine tCmp ?_
   refine vSub ?_
   refine Ev_l0 ok hn ?_
   refine Ev_l1 ok hn ?_
   refine Item_bytes _ rfl (by first | exact le2 ‹_› | omega) ‹_› ?_
   refine Ev_bytes ?_
   refine Cmp_in_bytes ?_
   refine isB ?_
   refine brF rfl ?_
   refine xNil ?_
   refine xCons ?_
   refine sIf ?_
   refine tCmp ?_
   refine vSub ?_
   refine Ev_l0 ok hn ?_
   refine Ev_l1 ok hn ?_
   refine Item_bytes _ rfl (by first | exact le2 ‹_› | omega) ‹_› ?_
   refine Ev_bytes ?_
   refine Cmp_in_bytes ?_
   refine isB ?_
   refine brT rfl ?_
   refine xCons ?_
   refine sRet ?_
   refine vTup ?_
   refine aCons ?_
   refine Ev_str ?_
   refine aCons ?_
   refine Ev_l1 ok hn ?_
   refine aNil ?_
   refine ⟨Nat.le_of_ble_eq_true rfl, ?_⟩
   have q' := q n
   rw [str_s] at q'
   exact Fin.id (av := .tup [.str "syntaxerror", .int n]) ⟨trivial, trivial, trivial⟩ q'
 rw [if_neg e62] at q
 have t1 : ([60, 60] == two b n || ([62, 62] == two b n || false)) = false := by rw [two_ne1 hx e60, two_ne1 hx e62]; rfl
 by_cases e91 : x = 91 ∨ x = 93
 ·have t2 : ([91, 93] : List UInt8).contains x = true := by rcases e91 with rfl | rfl <;> decide
  rw [if_pos e91] at q
  refine sT2 ?_
  refine xCons ?_
  refine sIf ?_
  refine tCmp ?_
  refine Ev_l2 ok hn ?_
  refine vTup ?_
  refine aCons ?_
  refine Ev_bytes ?_
  refine aCons ?_
  refine Ev_bytes ?_
  refine aNil ?_
  refine ⟨Nat.le_of_ble_eq_true rfl, ?_⟩
  refine Cmp_in_tup rfl ?_
  refine isB ?_
  refine brF ‹_› ?_
  refine xNil ?_
  refine xCons ?_
  refine sIf ?_
  refine tCmp ?_
  refine vSub ?_
  refine Ev_l0 ok hn ?_
  refine Ev_l1 ok hn ?_
  refine Item_bytes _ rfl (by first | exact le2 ‹_› | omega) ‹_› ?_
  refine Ev_bytes ?_
  refine Cmp_in_bytes ?_
  refine isB ?_
  refine brT ‹_› ?_
  refine xCons ?_
  refine sRet ?_
  refine vTup ?_
  refine aCons ?_
  refine vTup ?_
  refine aCons ?_
  refine Ev_str ?_
  refine aCons ?_
  refine vCut ?_
  refine Ev_l0 ok hn ?_
  refine Eo_some ?_
  refine Ev_l1 ok hn ?_
  refine Eo_some ?_
  refine vBin ?_
  refine Ev_l1 ok hn ?_
  refine Ev_int ?_
  refine Bin_add ?_
  refine Cut_bytes (lo := some n) (hi := some (n + 1)) (.int rfl) (.int (by omega)) (by first | exact le2 ‹_› | omega) ?_
  rw [cut_1 hx]
  refine aCons ?_
  refine Ev_bool ?_
  refine aNil ?_
  refine ⟨Nat.le_of_ble_eq_true rfl, ?_⟩
  refine aCons ?_
  refine vBin ?_
  refine Ev_l1 ok hn ?_
  refine Ev_int ?_
  refine Bin_add ?_
  refine aNil ?_
  refine ⟨Nat.le_of_ble_eq_true rfl, ?_⟩
  exact Fin.id (av := .tup [.tup [.str "name", .bytes [x], .bool true], .int ((n + 1 : Nat) : Int)]) ⟨⟨trivial, trivial, trivial, trivial⟩, trivial, trivial⟩ q
 rw [if_neg e91] at q
 have t2 : ([91, 93] : List UInt8).contains x = false := by
  simp only [List.contains_cons, List.contains_nil, Bool.or_false, Bool.or_eq_false_iff, beq_eq_false_iff_ne]
  exact ⟨fun e => e91 (.inl e), fun e => e91 (.inr e)⟩
 by_cases e41 : x = 41
 ·subst e41
  have t3 : ([41, 62] : List UInt8).contains (41 : UInt8) = true := by decide
  rw [if_pos rfl] at q
  refine sT2 ?_
  refine xCons ?_
  refine sIf ?_
  refine tCmp ?_
  refine Ev_l2 ok hn ?_
  refine vTup ?_
  refine aCons ?_
  refine Ev_bytes ?_
  refine aCons ?_
  refine Ev_bytes ?_
  refine aNil ?_
  refine ⟨Nat.le_of_ble_eq_true rfl, ?_⟩
  refine Cmp_in_tup rfl ?_
  refine isB ?_
  refine brF ‹_› ?_
  refine xNil ?_
  refine xCons ?_
  refine sIf ?_
  refine tCmp ?_
  refine vSub ?_
  refine Ev_l0 ok hn ?_
  refine Ev_l1 ok hn ?_
  refine Item_bytes _ rfl (by first | exact le2 ‹_› | omega) ‹_› ?_
  refine Ev_bytes ?_
  refine Cmp_in_bytes ?_
  refine isB ?_
  refine brF rfl ?_
  refine xNil ?_
  refine xCons ?_
  refine sIf ?_
  refine tCmp ?_
  refine vSub ?_
  refine Ev_l0 ok hn ?_
  refine Ev_l1 ok hn ?_
  refine Item_bytes _ rfl (by first | exact le2 ‹_› | omega) ‹_› ?_
  refine Ev_bytes ?_
  refine Cmp_in_bytes ?_
  refine isB ?_
  refine brT rfl ?_
  refine xCons ?_
  refine sRet ?_
  refine vTup ?_
  refine aCons ?_
  refine Ev_str ?_
  refine aCons ?_
  refine Ev_l1 ok hn ?_
  refine aNil ?_
  refine ⟨Nat.le_of_ble_eq_true rfl, ?_⟩
  have q' := q n
  rw [str_s] at q'
  exact Fin.id (av := .tup [.str "syntaxerror", .int n]) ⟨trivial, trivial, trivial⟩ q'
 rw [if_neg e41] at q
 have t3 : ([41, 62] : List UInt8).contains x = false := by
  simp only [List.contains_cons, List.contains_nil, Bool.or_false, Bool.or_eq_false_iff, beq_eq_false_iff_ne]
  exact ⟨e41, e62⟩
 have hr : run b n ≤ b.length := (run_le hn').2
 have hsl : (seg b n (run b n)).length ≤ 100 := Nat.le_trans (seg_len hr) hb
 unfold regO at q
 refine sT2 ?_
 refine xCons ?_
 refine sIf ?_
 refine tCmp ?_
 refine Ev_l2 ok hn ?_
 refine vTup ?_
 refine aCons ?_
 refine Ev_bytes ?_
 refine aCons ?_
 refine Ev_bytes ?_
 refine aNil ?_
 refine ⟨Nat.le_of_ble_eq_true rfl, ?_⟩
 refine Cmp_in_tup rfl ?_
 refine isB ?_
 refine brF ‹_› ?_
 refine xNil ?_
 refine xCons ?_
 refine sIf ?_
 refine tCmp ?_
 refine vSub ?_
 refine Ev_l0 ok hn ?_
 refine Ev_l1 ok hn ?_
 refine Item_bytes _ rfl (by first | exact le2 ‹_› | omega) ‹_› ?_
 refine Ev_bytes ?_
 refine Cmp_in_bytes ?_
 refine isB ?_
 refine brF ‹_› ?_
 refine xNil ?_
 refine xCons ?_
 refine sIf ?_
 refine tCmp ?_
 refine vSub ?_
 refine Ev_l0 ok hn ?_
 refine Ev_l1 ok hn ?_
 refine Item_bytes _ rfl (by first | exact le2 ‹_› | omega) ‹_› ?_
 refine Ev_bytes ?_
 refine Cmp_in_bytes ?_
 refine isB ?_
 refine brF ‹_› ?_
 refine xNil ?_
 refine xCons ?_
 refine sIf ?_
 refine tCmp ?_
 refine vSub ?_
 refine Ev_l0 ok hn ?_
 refine Ev_l1 ok hn ?_
 refine Item_bytes _ rfl (by first | exact le2 ‹_› | omega) ‹_› ?_
 refine Ev_int ?_
 refine Cmp_eq_int ?_
 refine isB ?_
 refine brF ‹_› ?_
 refine xNil ?_
 refine xCons ?_
 refine sTup2 ok hn (.s (.s (.s (.s .z)))) (.s (.s (.s (.s (.s .z))))) ?_
 refine vTup ?_
 refine aCons ?_
 refine vCallN ?_
 refine Ev_gr ok hg .z g__law_run ?_
 refine wFn (by kernel_rfl) ?_
 refine aCons ?_
 refine Ev_l0 ok hn ?_
 refine aCons ?_
 refine Ev_l1 ok hn ?_
 refine aNil ?_
 refine calFn ok (ok_lrun w) ?_
 refine S_lrun.mk (by first | exact ‹_› | exact le2 ‹_› | omega) (by first | exact ‹_› | exact le2 ‹_› | omega) ?_
 refine aCons ?_
 refine Ev_none ?_
 refine aNil ?_
 refine ⟨Nat.le_of_ble_eq_true rfl, ?_⟩
 refine tsN (.s (.s (.s (.s (.s .z))))) (.s (.s (.s (.s .z)))) ?_
 refine xCons ?_
 refine Es_try ok ?_
 refine xCons ?_
 refine sSet ok hn (.s (.s (.s (.s (.s .z))))) ?_
 refine vCallN ?_
 refine Ev_gr ok hg (.s (.s .z)) g_read_number ?_
 refine wFn (by kernel_rfl) ?_
 refine aCons ?_
 refine vCut ?_
 refine Ev_l0 ok hn ?_
 refine Eo_some ?_
 refine Ev_l1 ok hn ?_
 refine Eo_some ?_
 refine Ev_l4 ok hn ?_
 refine Cut_bytes (lo := some n) (hi := some (run b n)) (.int rfl) (.int rfl) (by first | exact le2 ‹_› | omega) ?_
 rw [cut_seg]
 refine aNil ?_
 refine calFn ok (ok_number w) ?_
 refine S_number.mk (by first | exact ‹_› | exact le2 ‹_› | omega) ?_
 cases h : rn (seg b n (run b n)) with
 | bad =>
  rw [h] at q
  have q' := q n
  rw [str_l] at q'
  refine HB_ret ok hn hg (.s (.s (.s .z))) (.s .z) (.s .z) rfl ?_
  exact Fin.id (av := .tup [.str "limitcheck", .int n]) ⟨trivial, trivial, trivial⟩ q'
 | non =>
  rw [h] at q
  refine sT5 ?_
  refine xNil ?_
  refine xCons ?_
  refine sSet ok hn (.s (.s (.s (.s (.s .z))))) ?_
  refine vIf ?_
  refine tCmp ?_
  refine Ev_l5 ok hn ?_
  refine Ev_none ?_
  refine Cmp_is_none ?_
  refine isB ?_
  refine brT rfl ?_
  refine vTup ?_
  refine aCons ?_
  refine Ev_str ?_
  refine aCons ?_
  refine vCut ?_
  refine Ev_l0 ok hn ?_
  refine Eo_some ?_
  refine Ev_l1 ok hn ?_
  refine Eo_some ?_
  refine Ev_l4 ok hn ?_
  refine Cut_bytes (lo := some n) (hi := some (run b n)) (.int rfl) (.int rfl) (by first | exact le2 ‹_› | omega) ?_
  rw [cut_seg]
  refine aCons ?_
  refine Ev_bool ?_
  refine aNil ?_
  refine ⟨Nat.le_of_ble_eq_true rfl, ?_⟩
  refine sT5 ?_
  refine xCons ?_
  refine sRet ?_
  refine vTup ?_
  refine aCons ?_
  refine Ev_l5 ok hn ?_
  refine aCons ?_
  refine vCallN ?_
  refine Ev_gr ok hg (.s .z) g__law_behind ?_
  refine wFn (by kernel_rfl) ?_
  refine aCons ?_
  refine Ev_l0 ok hn ?_
  refine aCons ?_
  refine Ev_l4 ok hn ?_
  refine aNil ?_
  refine calFn ok (ok_lbehind w) ?_
  refine S_lbehind.mk (by first | exact ‹_› | exact le2 ‹_› | omega) (by first | exact ‹_› | exact le2 ‹_› | omega) ?_
  refine aNil ?_
  refine ⟨Nat.le_of_ble_eq_true rfl, ?_⟩
  exact Fin.id (av := .tup [.tup [.str "name", .bytes (seg b n (run b n)), .bool true], .int (bh b (run b n))]) ⟨⟨trivial, trivial, trivial, trivial⟩, trivial, trivial⟩ q
 | int i =>
  rw [h] at q
  refine sT5 ?_
  refine xNil ?_
  refine xCons ?_
  refine sSet ok hn (.s (.s (.s (.s (.s .z))))) ?_
  refine vIf ?_
  refine tCmp ?_
  refine Ev_l5 ok hn ?_
  refine Ev_none ?_
  refine Cmp_is_none ?_
  refine isB ?_
  refine brF rfl ?_
  refine vTup ?_
  refine aCons ?_
  refine vSub ?_
  refine Ev_l5 ok hn ?_
  refine Ev_int ?_
  refine Item_tup 0 rfl (by decide) rfl ?_
  refine aCons ?_
  refine vSub ?_
  refine Ev_l5 ok hn ?_
  refine Ev_int ?_
  refine Item_tup 1 rfl (by decide) rfl ?_
  refine aCons ?_
  refine Ev_bool ?_
  refine aNil ?_
  refine ⟨Nat.le_of_ble_eq_true rfl, ?_⟩
  refine sT5 ?_
  refine xCons ?_
  refine sRet ?_
  refine vTup ?_
  refine aCons ?_
  refine Ev_l5 ok hn ?_
  refine aCons ?_
  refine vCallN ?_
  refine Ev_gr ok hg (.s .z) g__law_behind ?_
  refine wFn (by kernel_rfl) ?_
  refine aCons ?_
  refine Ev_l0 ok hn ?_
  refine aCons ?_
  refine Ev_l4 ok hn ?_
  refine aNil ?_
  refine calFn ok (ok_lbehind w) ?_
  refine S_lbehind.mk (by first | exact ‹_› | exact le2 ‹_› | omega) (by first | exact ‹_› | exact le2 ‹_› | omega) ?_
  refine aNil ?_
  refine ⟨Nat.le_of_ble_eq_true rfl, ?_⟩
  exact Fin.id (av := .tup [.tup [.str "integer", .int i, .bool false], .int (bh b (run b n))]) ⟨⟨trivial, trivial, trivial, trivial⟩, trivial, trivial⟩ q
 | real i =>
  rw [h] at q
  refine sT5 ?_
  refine xNil ?_
  refine xCons ?_
  refine sSet ok hn (.s (.s (.s (.s (.s .z))))) ?_
  refine vIf ?_
  refine tCmp ?_
  refine Ev_l5 ok hn ?_
  refine Ev_none ?_
  refine Cmp_is_none ?_
  refine isB ?_
  refine brF rfl ?_
  refine vTup ?_
  refine aCons ?_
  refine vSub ?_
  refine Ev_l5 ok hn ?_
  refine Ev_int ?_
  refine Item_tup 0 rfl (by decide) rfl ?_
  refine aCons ?_
  refine vSub ?_
  refine Ev_l5 ok hn ?_
  refine Ev_int ?_
  refine Item_tup 1 rfl (by decide) rfl ?_
  refine aCons ?_
  refine Ev_bool ?_
  refine aNil ?_
  refine ⟨Nat.le_of_ble_eq_true rfl, ?_⟩
  refine sT5 ?_
  refine xCons ?_
  refine sRet ?_
  refine vTup ?_
  refine aCons ?_
  refine Ev_l5 ok hn ?_
  refine aCons ?_
  refine vCallN ?_
  refine Ev_gr ok hg (.s .z) g__law_behind ?_
  refine wFn (by kernel_rfl) ?_
  refine aCons ?_
  refine Ev_l0 ok hn ?_
  refine aCons ?_
  refine Ev_l4 ok hn ?_
  refine aNil ?_
  refine calFn ok (ok_lbehind w) ?_
  refine S_lbehind.mk (by first | exact ‹_› | exact le2 ‹_› | omega) (by first | exact ‹_› | exact le2 ‹_› | omega) ?_
  refine aNil ?_
  refine ⟨Nat.le_of_ble_eq_true rfl, ?_⟩
  exact Fin.id (av := .tup [.tup [.str "real", .int i, .bool false], .int (bh b (run b n))]) ⟨⟨trivial, trivial, trivial, trivial⟩, trivial, trivial⟩ q
inductive Af (b : List UInt8) : Bool → Out → List AV → AV → Prop
 | fin0 {acc : List AV} : Af b false .fin acc (.lst acc)
 | fin1 {acc : List AV} : Af b true .fin acc (.tup [.none, .int b.length])
 | bad {f : Bool} {e : List UInt8} {acc : List AV} : Af b f (.bad e) acc (.str (strOf e))
 | tok1 {p : AV} {m : Nat} {acc : List AV} : Af b true (.tok p m) acc (.tup [p, .int m])
 | tok0 {p : AV} {m : Nat} {acc : List AV} {o : Out} {v : AV} : Tk b m [] o → Af b false o (acc ++ [p]) v → Af b false (.tok p m) acc v
theorem af_bad {b : List UInt8} {f : Bool} {o : Out} {acc : List AV} {v : AV} {e : List UInt8} (ha : Af b f o acc v) (h : o = .bad e) : v = .str (strOf e) := by subst h; cases ha; rfl
theorem af_fin1 {b : List UInt8} {o : Out} {acc : List AV} {v : AV} (ha : Af b true o acc v) (h : o = .fin) : v = .tup [.none, .int b.length] := by subst h; cases ha; rfl
theorem af_fin0 {b : List UInt8} {o : Out} {acc : List AV} {v : AV} (ha : Af b false o acc v) (h : o = .fin) : v = .lst acc := by subst h; cases ha; rfl
theorem af_tok1 {b : List UInt8} {o : Out} {acc : List AV} {v p : AV} {m : Nat} (ha : Af b true o acc v) (h : o = .tok p m) : v = .tup [p, .int m] := by subst h; cases ha; rfl
theorem af_tok0 {b : List UInt8} {o : Out} {acc : List AV} {v p : AV} {m : Nat} (ha : Af b false o acc v) (h : o = .tok p m) : ∃ o', Tk b m [] o' ∧ Af b false o' (acc ++ [p]) v := by
 subst h
 cases ha with
 | tok0 T A => exact ⟨_, T, A⟩
theorem hy_get {H Y : List AO} {n : Nat} : (H ++ Y)[H.length + n]? = Y[n]? := by
 rw [List.getElem?_append_right (Nat.le_add_right _ _), Nat.add_sub_cancel_left]
theorem hy_set {H Y : List AO} {n : Nat} {o : AO} : (H ++ Y).set (H.length + n) o = H ++ Y.set n o := by
 rw [List.set_append_right _ _ (Nat.le_add_right _ _), Nat.add_sub_cancel_left]
theorem hy_app {H Y X : List AO} : (H ++ Y) ++ X = H ++ (Y ++ X) := List.append_assoc _ _ _
theorem hy_len {H Y : List AO} : (H ++ Y).length = H.length + Y.length := List.length_append
noncomputable def Rw (Y : List AO) (d : Nat) : List Nat → List (List AV) → Prop
 | [], [] => True
 | r :: rs, ps :: op => (Y[r]? = some (.list ps) ∧ ps.length ≤ d ∧ ltL 0 ps ∧ r ≠ 1) ∧ r ∉ rs ∧ Rw Y d rs op
 | _, _ => False
noncomputable def rows (N : Nat) (rs : List Nat) : List AV := rs.reverse.map fun r => .obj (N + r)
theorem rows_cons {N r : Nat} {rs : List Nat} : rows N (r :: rs) = rows N rs ++ [.obj (N + r)] := by
 unfold rows; rw [List.reverse_cons, List.map_append]; rfl
theorem rows_len {N : Nat} {rs : List Nat} : (rows N rs).length = rs.length := by unfold rows; rw [List.length_map, List.length_reverse]
theorem Rw.cons {Y : List AO} {d r : Nat} {rs : List Nat} {ps : List AV} {op : List (List AV)} (h : (Y[r]? = some (.list ps) ∧ ps.length ≤ d ∧ ltL 0 ps ∧ r ≠ 1) ∧ r ∉ rs ∧ Rw Y d rs op) : Rw Y d (r :: rs) (ps :: op) := h
theorem Rw.base {o : AO} : Rw [.list [], o] 0 ([] ++ [0]) ([] ++ [[]]) := Rw.cons ⟨⟨rfl, Nat.zero_le _, trivial, by decide⟩, nofun, trivial⟩
theorem Rw.le {Y : List AO} {d e : Nat} (k : d ≤ e) : ∀ {rs : List Nat} {op : List (List AV)}, Rw Y d rs op → Rw Y e rs op
 | [], [], _ => trivial
 | _ :: _, _ :: _, ⟨⟨h1, h2, h3⟩, h4, h5⟩ => ⟨⟨h1, Nat.le_trans h2 k, h3⟩, h4, Rw.le k h5⟩
theorem Rw.set {Y : List AO} {d r : Nat} {o : AO} : ∀ {rs : List Nat} {op : List (List AV)}, Rw Y d rs op → r ∉ rs → Rw (Y.set r o) d rs op
 | [], [], _, _ => trivial
 | q :: rs, _ :: _, ⟨⟨h1, h2⟩, h4, h5⟩, n => ⟨⟨get_ne (fun e => n (by simp [e])) h1, h2⟩, h4, Rw.set h5 fun h => n (by simp [h])⟩
theorem Rw.one {Y : List AO} {d : Nat} : ∀ {rs : List Nat} {op : List (List AV)}, Rw Y d rs op → 1 ∉ rs
 | [], [], _ => nofun
 | q :: rs, _ :: _, ⟨⟨h1, h2, h3, h6⟩, h4, h5⟩ => fun h => by
  rcases List.mem_cons.mp h with e | h
  ·exact h6 e.symm
  ·exact Rw.one h5 h
theorem Rw.app {Y : List AO} {d : Nat} {o : AO} : ∀ {rs : List Nat} {op : List (List AV)}, Rw Y d rs op → Rw (Y ++ [o]) d rs op
 | [], [], _ => trivial
 | q :: rs, _ :: _, ⟨⟨h1, h2⟩, h4, h5⟩ => ⟨⟨get_app h1, h2⟩, h4, Rw.app h5⟩
theorem Rw.lt {Y : List AO} {d : Nat} : ∀ {rs : List Nat} {op : List (List AV)}, Rw Y d rs op → ∀ r ∈ rs, r < Y.length
 | [], [], _, r, h => nomatch h
 | q :: rs, _ :: _, ⟨⟨h1, h2⟩, h4, h5⟩, r, h => by
  rcases List.mem_cons.mp h with rfl | h
  ·exact lt_of_get h1
  ·exact Rw.lt h5 r h
theorem Rw.len {Y : List AO} {d : Nat} : ∀ {rs : List Nat} {op : List (List AV)}, Rw Y d rs op → rs.length = op.length
 | [], [], _ => rfl
 | _ :: _, _ :: _, ⟨_, _, h⟩ => congrArg (· + 1) h.len
theorem ltL_snoc {n : Nat} {p : AV} (hp : p.lt n) : ∀ {ps : List AV}, ltL n ps → ltL n (ps ++ [p])
 | [], _ => ⟨hp, trivial⟩
 | _ :: _, h => ⟨h.1, ltL_snoc hp h.2⟩
theorem Rw.snoc {Y : List AO} {d e r : Nat} {rs : List Nat} {ps : List AV} {p : AV} {op : List (List AV)} (h : Rw Y d (r :: rs) (ps :: op)) (k : d < e) (hp : p.lt 0) : Rw (Y.set r (.list (ps ++ [p]))) e (r :: rs) ((ps ++ [p]) :: op) :=
 ⟨⟨get_set' h.1.1, by rw [List.length_append]; exact Nat.lt_of_le_of_lt h.1.2.1 k, ltL_snoc hp h.1.2.2.1, h.1.2.2.2⟩, h.2.1, (h.2.2.le (Nat.le_of_lt k)).set h.2.1⟩
theorem Rw.push {N e m : Nat} {b : List UInt8} {Y : List AO} {d : Nat} {rs : List Nat} {op : List (List AV)} {acc : List AV} {p : AV} {o : Out} (S : Rw Y d (rs ++ [0]) (op ++ [acc])) (k : d < e) (hp : p.lt 0) (T : Put b p m op o) : ∃ r0 ts, (rows N (rs ++ [0])).getLast? = some (.obj (N + r0)) ∧ Y[r0]? = some (.list ts) ∧ ts.length ≤ d ∧ r0 ≠ 1 ∧
  ∃ op1 acc1, op1.length = op.length ∧ Rw (Y.set r0 (.list (ts ++ [p]))) e (rs ++ [0]) (op1 ++ [acc1]) ∧ (op1 ≠ [] ∧ acc1 = acc ∧ Tk b m op1 o ∨ op1 = [] ∧ ∃ p, acc1 = acc ++ [p] ∧ o = .tok p m) := by
 cases rs with
 | nil =>
  cases op with
  | nil => exact ⟨0, acc, rfl, S.1.1, S.1.2.1, S.1.2.2.2, [], acc ++ [p], rfl, S.snoc k hp, .inr ⟨rfl, p, rfl, T⟩⟩
  | cons ps op => exact absurd S.len (by simp)
 | cons r rs =>
  cases op with
  | nil => exact absurd S.len (by simp)
  | cons ps op => exact ⟨r, ps, by rw [List.cons_append, rows_cons]; exact List.getLast?_concat, S.1.1, S.1.2.1, S.1.2.2.2, (ps ++ [p]) :: op, acc, rfl, S.snoc k hp, .inl ⟨nofun, rfl, T⟩⟩
theorem lfP_tup (l : Lf) : ∃ xs, lfP l = .tup xs ∧ ltL 0 xs := by
 cases l <;> exact ⟨_, rfl, trivial, trivial, trivial, trivial⟩
inductive LInv (b : List UInt8) (first : Bool) (v : AV) (H : List AO) (f : Nat) (st1 : St) : Prop
 | c (n' : Nat) (op : List (List AV)) (acc : List AV) (o : Out) (rs : List Nat) (Y : List AO) (told : AV) (h0 : f = b.length - bg false b n') (h1 : Tk b n' op o) (h2 : Af b first o acc v) (h3 : n' ≤ b.length) (h4 : Gd b n') (h5 : op.length ≤ n') (h6 : Rw Y n' (rs ++ [0]) (op ++ [acc])) (h7 : Y[1]? = some (.list (rows H.length (rs ++ [0])))) (h8 : first = true → acc = []) (h9 : st1 = ⟨[.bytes b, .bool first, .obj (H.length + 1), .int (bg false b n'), told], H ++ Y⟩) : LInv b first v H f st1
inductive S_lthings (bud : Nat) (args : List AV) (H : List AO) (Q : QT) (R : RT) : Prop
 | c (b0 : Nat) (b : List UInt8) (first : Bool) (o : Out) (v : AV) (h0 : bud = b0 + 8) (h1 : args = [.bytes b, .bool first]) (h2 : b.length ≤ 100) (h3 : Gd b 0) (h4 : Tk b 0 [] o) (h5 : Af b first o [] v) (h6 : Q v H) : S_lthings bud args H Q R
theorem S_lthings.mk {b0 : Nat} {b : List UInt8} {first : Bool} {o : Out} {v : AV} {H : List AO} {Q : QT} {R : RT} (hb : b.length ≤ 100) (hg : Gd b 0) (ht : Tk b 0 [] o) (ha : Af b first o [] v) (q : Q v H) : S_lthings (b0 + 8) [.bytes b, .bool first] H Q R := ⟨_, _, _, _, _, rfl, rfl, hb, hg, ht, ha, q⟩
theorem ok_lthings (w : World) : OK (GG w) 975 S_lthings := by
 refine mkOK ["len", "_law_begun", "_law_word", "isinstance", "str"] ["octets", "is_first", "rows", "at", "told"] 2 ⟨_, _, _, rfl⟩ rfl (by kernel_rfl) rfl (fun vs hv => by obtain ⟨a, b, rfl⟩ := len2 hv; rfl) ?_
 rintro c ok hn hg _ _ H Q R ⟨b0, b, first, o, v, rfl, rfl, hb, G, ht, ha, q⟩ hlt
 refine ⟨[_, _, _, _, _], ⟨rfl, rfl⟩, ?_⟩
 have hb' : b.length ≤ 1000 := Nat.le_trans hb (by decide)
 refine xCons ?_
 refine sTup2 ok hn (.s (.s .z)) (.s (.s (.s .z))) ?_
 refine vTup ?_
 refine aCons ?_
 refine vLso ?_
 refine aCons ?_
 refine vLsoE ?_
 refine aNil ?_
 refine ⟨Nat.le_of_ble_eq_true rfl, ?_⟩
 refine aCons ?_
 refine vCallN ?_
 refine Ev_gr ok hg (.s .z) g__law_begun ?_
 refine wFn (by kernel_rfl) ?_
 refine aCons ?_
 refine Ev_l0 ok hn ?_
 refine aCons ?_
 refine Ev_int ?_
 refine aNil ?_
 refine calFn ok (ok_lbegun w) ?_
 refine S_lbegun.mk (n := 0) hb' (Nat.zero_le _) ?_
 refine aNil ?_
 refine ⟨Nat.le_of_ble_eq_true rfl, ?_⟩
 refine tsN (.s (.s (.s .z))) (.s (.s .z)) ?_
 refine xCons ?_
 refine sWhile (LInv b first v H) (b.length - bg false b 0) ok
  ⟨0, [], [], o, [], [.list [], .list [.obj H.length]], _, rfl, ht, ha, Nat.zero_le _, G, Nat.le_refl _, Rw.base, rfl, fun _ => rfl, by show St.mk [_, _, .obj (H ++ [AO.list []]).length, _, _] _ = _; rw [List.length_append]; exact congrArg (St.mk _) (List.append_assoc ..)⟩ ?_
 clear ht ha G
 rintro _ _ ⟨n', op, acc, o, rs, Y, told, rfl, T, ha, hn2, G', hop, S, hY, hf, rfl⟩
 have hle := bg_le (c := false) (b := b) hn2
 have Gm := gd_bg G'
 have hq : (H ++ Y)[H.length + 1]? = some (.list (rows H.length (rs ++ [0]))) := by rw [hy_get]; exact hY
 have hrl : (rows H.length (rs ++ [0])).length ≤ 100000 := by rw [rows_len, S.len, List.length_append]; exact big3 (Nat.le_trans hop hn2) hb
 cases hx : b[bg false b n']? with
 | none =>
  have hm : bg false b n' = b.length := Nat.le_antisymm hle.2 (List.getElem?_eq_none_iff.mp hx)
  have ht : decide ((bg false b n' : Int) < (b.length : Int)) = false := ltF (Nat.le_of_eq hm.symm)
  have hr1 : (rows H.length (rs ++ [0])).length = op.length + 1 := by rw [rows_len, S.len, List.length_append]; rfl
  cases op with
  | cons ps op =>
   have hlen : decide ((1 : Int) < ((rows H.length (rs ++ [0])).length : Int)) = true := ltT (m := 1) (by rw [hr1, List.length_cons]; exact Nat.succ_le_succ (Nat.succ_le_succ (Nat.zero_le _)))
   refine tCmp ?_
   refine Ev_l3 ok hn ?_
   refine vCallN ?_
   refine Ev_gu ok hg .z b_len ?_
   refine wBi ?_
   refine aCons ?_
   refine Ev_l0 ok hn ?_
   refine aNil ?_
   refine Cal_len_bytes (by first | exact le2 ‹_› | omega) ?_
   refine Cmp_lt_int ?_
   refine isB ?_
   refine brF ‹_› ?_
   refine xCons ?_
   refine sIf ?_
   refine tCmp ?_
   refine vCallN ?_
   refine Ev_gu ok hg .z b_len ?_
   refine wBi ?_
   refine aCons ?_
   refine Ev_l2 ok hn ?_
   refine aNil ?_
   refine Cal_len_list ‹_› (by first | exact ‹_› | exact le2 ‹_› | omega) ?_
   refine Ev_int ?_
   refine Cmp_gt_int ?_
   refine isB ?_
   refine brT ‹_› ?_
   refine xCons ?_
   refine sRet ?_
   refine Ev_str ?_
   rw [af_bad ha (tk_none1 hx T), str_s] at q
   exact Fin.same (av := .str _) trivial q
  | nil =>
   have hlen : decide ((1 : Int) < ((rows H.length (rs ++ [0])).length : Int)) = false := ltF (m := 1) (by rw [hr1]; exact Nat.le_refl _)
   have ho := tk_none0 hx T
   cases rs with
   | cons r rs => exact absurd S.len (by simp)
   | nil =>
    have hq2 : (H ++ Y)[H.length + 1]? = some (.list [.obj (H.length + 0)]) := hq
    have hb1 : (H ++ Y)[H.length + 0]? = some (.list acc) := by rw [hy_get]; exact S.1.1
    have hr3 : [AV.obj (H.length + 0)].length ≤ 100000 := Nat.le_of_ble_eq_true rfl
    clear hq
    cases first with
    | true =>
     rw [af_fin1 ha ho] at q
     refine tCmp ?_
     refine Ev_l3 ok hn ?_
     refine vCallN ?_
     refine Ev_gu ok hg .z b_len ?_
     refine wBi ?_
     refine aCons ?_
     refine Ev_l0 ok hn ?_
     refine aNil ?_
     refine Cal_len_bytes (by first | exact le2 ‹_› | omega) ?_
     refine Cmp_lt_int ?_
     refine isB ?_
     refine brF ‹_› ?_
     refine xCons ?_
     refine sIf ?_
     refine tCmp ?_
     refine vCallN ?_
     refine Ev_gu ok hg .z b_len ?_
     refine wBi ?_
     refine aCons ?_
     refine Ev_l2 ok hn ?_
     refine aNil ?_
     refine Cal_len_list ‹_› (by first | exact ‹_› | exact le2 ‹_› | omega) ?_
     refine Ev_int ?_
     refine Cmp_gt_int ?_
     refine isB ?_
     refine brF rfl ?_
     refine xNil ?_
     refine xCons ?_
     refine sRet ?_
     refine vIf ?_
     refine tVal ?_
     refine Ev_l1 ok hn ?_
     refine Tru_bool ?_
     refine brT rfl ?_
     refine vTup ?_
     refine aCons ?_
     refine Ev_none ?_
     refine aCons ?_
     refine vCallN ?_
     refine Ev_gu ok hg .z b_len ?_
     refine wBi ?_
     refine aCons ?_
     refine Ev_l0 ok hn ?_
     refine aNil ?_
     refine Cal_len_bytes (by first | exact le2 ‹_› | omega) ?_
     refine aNil ?_
     refine ⟨Nat.le_of_ble_eq_true rfl, ?_⟩
     exact Fin.same (av := .tup [.none, .int b.length]) ⟨trivial, trivial, trivial⟩ q
    | false =>
     rw [af_fin0 ha ho] at q
     refine tCmp ?_
     refine Ev_l3 ok hn ?_
     refine vCallN ?_
     refine Ev_gu ok hg .z b_len ?_
     refine wBi ?_
     refine aCons ?_
     refine Ev_l0 ok hn ?_
     refine aNil ?_
     refine Cal_len_bytes (by first | exact le2 ‹_› | omega) ?_
     refine Cmp_lt_int ?_
     refine isB ?_
     refine brF ‹_› ?_
     refine xCons ?_
     refine sIf ?_
     refine tCmp ?_
     refine vCallN ?_
     refine Ev_gu ok hg .z b_len ?_
     refine wBi ?_
     refine aCons ?_
     refine Ev_l2 ok hn ?_
     refine aNil ?_
     refine Cal_len_list ‹_› (by first | exact ‹_› | exact le2 ‹_› | omega) ?_
     refine Ev_int ?_
     refine Cmp_gt_int ?_
     refine isB ?_
     refine brF rfl ?_
     refine xNil ?_
     refine xCons ?_
     refine sRet ?_
     refine vIf ?_
     refine tVal ?_
     refine Ev_l1 ok hn ?_
     refine Tru_bool ?_
     refine brF rfl ?_
     refine Ev_ice ?_
     refine vSub ?_
     refine Ev_l2 ok hn ?_
     refine Ev_int ?_
     refine Item_list 0 ‹_› rfl (by decide) (by first | assumption | rfl) ?_
     refine iceOf ‹_› ?_
     rw [hy_set]
     exact Fin.same (av := .lst acc) (ltL_mono (Nat.zero_le _) _ S.1.2.2.1) q
 | some x =>
  have hl := (List.getElem?_eq_some_iff.mp hx).1
  have ht : decide ((bg false b n' : Int) < (b.length : Int)) = true := ltT hl
  obtain ⟨hw, h37⟩ := bg_at hx
  refine tCmp ?_
  refine Ev_l3 ok hn ?_
  refine vCallN ?_
  refine Ev_gu ok hg .z b_len ?_
  refine wBi ?_
  refine aCons ?_
  refine Ev_l0 ok hn ?_
  refine aNil ?_
  refine Cal_len_bytes (by first | exact le2 ‹_› | omega) ?_
  refine Cmp_lt_int ?_
  refine isB ?_
  refine brT ‹_› ?_
  refine xCons ?_
  generalize hK : kX _ _ _ _ _ _ = K
  have tail : ∀ n1 op1 acc1 rs1 Y1 told, bg false b n' < n1 → n1 ≤ b.length → Gd b n1 → op1.length ≤ n1 → Rw Y1 n1 (rs1 ++ [0]) (op1 ++ [acc1]) → Y1[1]? = some (.list (rows H.length (rs1 ++ [0]))) →
    (op1 ≠ [] ∧ acc1 = acc ∧ Tk b n1 op1 o ∨ op1 = [] ∧ ∃ p, acc1 = acc ++ [p] ∧ o = .tok p n1) →
    K .next ⟨[.bytes b, .bool first, .obj (H.length + 1), .int n1, told], H ++ Y1⟩ := by
   intro n1 op1 acc1 rs1 Y1 told a1 a2 a3 a4 a5 a6 a7
   rw [← hK]
   have hq1 : (H ++ Y1)[H.length + 1]? = some (.list (rows H.length (rs1 ++ [0]))) := by rw [hy_get]; exact a6
   have hr1 : (rows H.length (rs1 ++ [0])).length = op1.length + 1 := by rw [rows_len, a5.len, List.length_append]; rfl
   have hr2 : (rows H.length (rs1 ++ [0])).length ≤ 100000 := by rw [hr1]; exact big3 (Nat.le_trans a4 a2) hb
   have hgo : n' < n1 := Nat.lt_of_le_of_lt hle.1 a1
   have hd : b.length - bg false b n1 < b.length - bg false b n' := by
    exact Nat.sub_lt_sub_left (Nat.lt_of_lt_of_le a1 a2) (Nat.lt_of_lt_of_le a1 (bg_le (c := false) (b := b) a2).1)
   cases first with
   | false =>
    refine xCons ?_
    refine sIf ?_
    refine tBool ?_
    refine lAnd ?_
    refine tVal ?_
    refine Ev_l1 ok hn ?_
    refine Tru_bool ?_
    refine brF rfl ?_
    refine brF rfl ?_
    refine xNil ?_
    refine xCons ?_
    refine sSet ok hn (.s (.s (.s .z))) ?_
    refine vCallN ?_
    refine Ev_gr ok hg (.s .z) g__law_begun ?_
    refine wFn (by kernel_rfl) ?_
    refine aCons ?_
    refine Ev_l0 ok hn ?_
    refine aCons ?_
    refine Ev_l3 ok hn ?_
    refine aNil ?_
    refine calFn ok (ok_lbegun w) ?_
    refine S_lbegun.mk (by first | exact ‹_› | exact le2 ‹_› | omega) (by first | exact ‹_› | exact le2 ‹_› | omega) ?_
    refine sT3 ?_
    refine xNil ?_
    rcases a7 with ⟨b1, rfl, b3⟩ | ⟨rfl, p, rfl, ho⟩
    ·exact ⟨_, hd, n1, op1, _, o, rs1, Y1, told, rfl, b3, ha, a2, a3, a4, a5, a6, nofun, rfl⟩
    ·obtain ⟨o', T2, ha2⟩ := af_tok0 ha ho
     exact ⟨_, hd, n1, [], _, _, rs1, Y1, told, rfl, T2, ha2, a2, a3, a4, a5, a6, nofun, rfl⟩
   | true =>
    rcases a7 with ⟨b1, rfl, b3⟩ | ⟨rfl, p, rfl, ho⟩
    ·have hlen : (((rows H.length (rs1 ++ [0])).length : Int) == 1) = false := by
      rw [hr1]
      cases op1 with
      | nil => exact absurd rfl b1
      | cons _ _ => rw [beq_eq_false_iff_ne, List.length_cons]; omega
     refine xCons ?_
     refine sIf ?_
     refine tBool ?_
     refine lAnd ?_
     refine tVal ?_
     refine Ev_l1 ok hn ?_
     refine Tru_bool ?_
     refine brT rfl ?_
     refine lAnd ?_
     refine tCmp ?_
     refine vCallN ?_
     refine Ev_gu ok hg .z b_len ?_
     refine wBi ?_
     refine aCons ?_
     refine Ev_l2 ok hn ?_
     refine aNil ?_
     refine Cal_len_list ‹_› (by first | exact ‹_› | exact le2 ‹_› | omega) ?_
     refine Ev_int ?_
     refine Cmp_eq_int ?_
     refine isB ?_
     refine brF ‹_› ?_
     refine brF rfl ?_
     refine xNil ?_
     refine xCons ?_
     refine sSet ok hn (.s (.s (.s .z))) ?_
     refine vCallN ?_
     refine Ev_gr ok hg (.s .z) g__law_begun ?_
     refine wFn (by kernel_rfl) ?_
     refine aCons ?_
     refine Ev_l0 ok hn ?_
     refine aCons ?_
     refine Ev_l3 ok hn ?_
     refine aNil ?_
     refine calFn ok (ok_lbegun w) ?_
     refine S_lbegun.mk (by first | exact ‹_› | exact le2 ‹_› | omega) (by first | exact ‹_› | exact le2 ‹_› | omega) ?_
     refine sT3 ?_
     refine xNil ?_
     exact ⟨_, hd, n1, op1, _, o, rs1, Y1, told, rfl, b3, ha, a2, a3, a4, a5, a6, fun _ => hf rfl, rfl⟩
    ·have hlen : (((rows H.length (rs1 ++ [0])).length : Int) == 1) = true := by rw [hr1]; rfl
     cases rs1 with
     | cons r rs1 => exact absurd a5.len (by simp)
     | nil =>
      rw [hf rfl] at a5
      have hb1 : (H ++ Y1)[H.length + 0]? = some (.list [p]) := by rw [hy_get]; exact a5.1.1
      have hq2 : (H ++ Y1)[H.length + 1]? = some (.list [.obj (H.length + 0)]) := hq1
      have hr3 : [AV.obj (H.length + 0)].length ≤ 100000 := Nat.le_of_ble_eq_true rfl
      have hlen : ((([AV.obj (H.length + 0)] : List AV).length : Int) == 1) = true := rfl
      clear hq1
      refine xCons ?_
      refine sIf ?_
      refine tBool ?_
      refine lAnd ?_
      refine tVal ?_
      refine Ev_l1 ok hn ?_
      refine Tru_bool ?_
      refine brT rfl ?_
      refine lAnd ?_
      refine tCmp ?_
      refine vCallN ?_
      refine Ev_gu ok hg .z b_len ?_
      refine wBi ?_
      refine aCons ?_
      refine Ev_l2 ok hn ?_
      refine aNil ?_
      refine Cal_len_list ‹_› (by first | exact ‹_› | exact le2 ‹_› | omega) ?_
      refine Ev_int ?_
      refine Cmp_eq_int ?_
      refine isB ?_
      refine brT rfl ?_
      refine lAnd ?_
      refine tCmp ?_
      refine vSub ?_
      refine Ev_l2 ok hn ?_
      refine Ev_int ?_
      refine Item_list 0 ‹_› rfl (by decide) (by first | assumption | rfl) ?_
      refine vLstE ?_
      refine Cmp_ne_nil ‹_› ?_
      refine isB ?_
      refine brT rfl ?_
      refine lAnd0 ?_
      refine brT rfl ?_
      refine xCons ?_
      refine sRet ?_
      refine vTup ?_
      refine aCons ?_
      refine vSub ?_
      refine vSub ?_
      refine Ev_l2 ok hn ?_
      refine Ev_int ?_
      refine Item_list 0 ‹_› rfl (by decide) (by first | assumption | rfl) ?_
      refine Ev_int ?_
      refine Item_list 0 ‹_› rfl (by decide) (by first | assumption | rfl) ?_
      refine aCons ?_
      refine Ev_l3 ok hn ?_
      refine aNil ?_
      refine ⟨Nat.le_of_ble_eq_true rfl, ?_⟩
      rw [af_tok1 ha ho] at q
      exact Fin.same (av := .tup [p, .int n1]) ⟨AV.lt_mono (Nat.zero_le _) _ a5.1.2.2.1.1, trivial, trivial⟩ q
  have ret : ∀ v ls H', Fin H Q v H' → K (.ret v) ⟨ls, H'⟩ := fun v ls H' h => by rw [← hK]; exact h
  clear hK
  obtain ⟨h40, h60', hg1⟩ := gd_x Gm hx
  have h60 : x = 60 → b[bg false b n' + 1]? = some 60 := fun e => (h60' e).1
  have hbn : bg false b n' ≤ b.length := hle.2
  refine sIf ?_
  refine tCmp ?_
  refine vSub ?_
  refine Ev_l0 ok hn ?_
  refine Ev_l3 ok hn ?_
  refine Item_bytes _ rfl (by first | exact le2 ‹_› | omega) ‹_› ?_
  refine Ev_int ?_
  refine Cmp_eq_int ?_
  refine isB ?_
  refine br (fun c1 => ?_) (fun c1 => ?_)
  refine xCons ?_
  refine sExpr ok ?_
  refine vMeth ?_
  refine Ev_l2 ok hn ?_
  refine Meth_append ‹_› ?_
  refine wBi ?_
  refine aCons ?_
  rotate_left
  refine xCons ?_
  refine sIf ?_
  refine tCmp ?_
  refine vSub ?_
  refine Ev_l0 ok hn ?_
  refine Ev_l3 ok hn ?_
  refine Item_bytes _ rfl (by first | exact le2 ‹_› | omega) ‹_› ?_
  refine Ev_int ?_
  refine Cmp_eq_int ?_
  refine isB ?_
  refine br (fun c2 => ?_) (fun c2 => ?_)
  refine xCons ?_
  refine sIf ?_
  refine tCmp ?_
  refine vCallN ?_
  refine Ev_gu ok hg .z b_len ?_
  refine wBi ?_
  refine aCons ?_
  refine Ev_l2 ok hn ?_
  refine aNil ?_
  refine Cal_len_list ‹_› (by first | exact ‹_› | exact le2 ‹_› | omega) ?_
  refine Ev_int ?_
  refine Cmp_eq_int ?_
  refine isB ?_
  refine br (fun c3 => ?_) (fun c3 => ?_)
  refine xCons ?_
  refine sRet ?_
  refine Ev_str ?_
  rotate_left
  refine xNil ?_
  refine xCons ?_
  refine sTup2 ok hn (.s (.s (.s (.s .z)))) (.s (.s (.s .z))) ?_
  refine vTup ?_
  refine aCons ?_
  refine vTup ?_
  refine aCons ?_
  refine Ev_str ?_
  refine aCons ?_
  refine Ev_ice ?_
  refine vMeth ?_
  refine Ev_l2 ok hn ?_
  refine Meth_pop ‹_› ?_
  refine Cw_bi0 ?_
  rotate_left
  refine xCons ?_
  refine sTupN ok hn (.s (.s (.s (.s .z)))) (.s (.s (.s .z))) ?_
  refine vCallN ?_
  refine Ev_gr ok hg (.s (.s .z)) g__law_word ?_
  refine wFn (by kernel_rfl) ?_
  refine aCons ?_
  refine Ev_l0 ok hn ?_
  refine aCons ?_
  refine Ev_l3 ok hn ?_
  refine aNil ?_
  refine calFn ok (ok_lword w) ?_
  refine S_lword.mk (by first | exact ‹_› | exact le2 ‹_› | omega) ‹_› (by first | exact ‹_› | exact le2 ‹_› | omega) ?_
  rotate_left
  ·obtain rfl : x = 123 := u8eq (y := 123) c1
   refine vLsoE ?_
   refine aNil ?_
   refine cAppend (get_app ‹_›) (by first | exact ‹_› | exact le2 ‹_› | omega) ?_
   refine nONE ?_
   refine xCons ?_
   refine sSet ok hn (.s (.s (.s .z))) ?_
   refine vBin ?_
   refine Ev_l3 ok hn ?_
   refine Ev_int ?_
   refine Bin_add ?_
   refine sT3 ?_
   refine xNil ?_
   rw [hy_app, hy_set, hy_len, ← rows_cons]
   have h1 := S.one
   have l1 : 1 < Y.length := lt_of_get hY
   exact tail (bg false b n' + 1) ([] :: op) acc (Y.length :: rs) ((Y ++ [AO.list []]).set 1 (AO.list (rows H.length (Y.length :: (rs ++ [0]))))) told (Nat.lt_succ_self _) hl (hg1 (by decide) (by decide)) (Nat.succ_le_succ (Nat.le_trans hop hle.1))
    (Rw.cons ⟨⟨get_ne (Nat.ne_of_lt l1) get_end, Nat.zero_le _, trivial, (Nat.ne_of_lt l1).symm⟩, fun h => Nat.lt_irrefl _ (S.lt _ h), ((S.le (Nat.le_succ_of_le hle.1)).app).set h1⟩) (get_set (by rw [List.length_append]; exact Nat.lt_add_right _ l1)) (.inl ⟨nofun, rfl, tk_lb hx T⟩)
  ·obtain rfl : x = 125 := u8eq (y := 125) c2
   cases op with
   | nil =>
    rw [af_bad ha (tk_rb0 hx T), str_s] at q
    exact ret _ _ _ (Fin.same (av := .str _) trivial q)
   | cons ps op =>
    rw [rows_len, S.len] at c3
    exact absurd (eq_of_beq c3) (by rw [List.length_append, List.length_cons]; simp only [List.length_cons, List.length_nil]; omega)
  ·obtain rfl : x = 125 := u8eq (y := 125) c2
   cases op with
   | nil =>
    rw [rows_len, S.len] at c3
    cases c3
   | cons ps op =>
    cases rs with
    | nil => exact absurd S.len (by simp)
    | cons r rs =>
     have hq' : (H ++ Y)[H.length + 1]? = some (.list (rows H.length (rs ++ [0]) ++ [.obj (H.length + r)])) := by rw [hq, List.cons_append, rows_cons]
     refine cPop hq' (by rw [List.cons_append, rows_cons, List.length_append] at hrl; exact Nat.le_of_succ_le hrl) ?_
     rw [hy_set]
     have hr0 : (H ++ Y.set 1 (AO.list (rows H.length (rs ++ [0]))))[H.length + r]? = some (.list ps) := by rw [hy_get]; exact get_ne S.1.2.2.2.symm S.1.1
     refine iceOf hr0 ?_
     rw [hy_set]
     have l1 : 1 < Y.length := lt_of_get hY
     have S2 : Rw ((Y.set 1 (AO.list (rows H.length (rs ++ [0])))).set r .gone) n' (rs ++ [0]) (op ++ [acc]) := (S.2.2.set (fun h => S.one (List.mem_cons_of_mem _ h))).set S.2.1
     have hY2 : ((Y.set 1 (AO.list (rows H.length (rs ++ [0])))).set r .gone)[1]? = some (.list (rows H.length (rs ++ [0]))) := get_ne S.1.2.2.2 (get_set l1)
     generalize (Y.set 1 (AO.list (rows H.length (rs ++ [0])))).set r .gone = Y2 at S2 hY2 ⊢
     obtain ⟨r0, ts, g1, g2, g3, g4, op1, acc1, g5, g6, g7⟩ := S2.push (N := H.length) (e := bg false b n' + 1) (p := arrP ps) (Nat.lt_succ_of_le hle.1) ⟨trivial, S.1.2.2.1, trivial, trivial⟩ (tk_rb hx T)
     have hq2 : (H ++ Y2)[H.length + 1]? = some (.list (rows H.length (rs ++ [0]))) := by rw [hy_get]; exact hY2
     have hr2 : (H ++ Y2)[H.length + r0]? = some (.list ts) := by rw [hy_get]; exact g2
     have hz : ts.length ≤ 100000 := (big (Nat.le_trans g3 hn2) hb).2
     clear hq hq' hr0
     refine aCons ?_
     refine Ev_bool ?_
     refine aNil ?_
     refine ⟨Nat.le_of_ble_eq_true rfl, ?_⟩
     refine aCons ?_
     refine vBin ?_
     refine Ev_l3 ok hn ?_
     refine Ev_int ?_
     refine Bin_add ?_
     refine aNil ?_
     refine ⟨Nat.le_of_ble_eq_true rfl, ?_⟩
     refine tsN (.s (.s (.s .z))) (.s (.s (.s (.s .z)))) ?_
     refine xCons ?_
     refine sExpr ok ?_
     refine vMeth ?_
     refine vSub ?_
     refine Ev_l2 ok hn ?_
     refine vUna ?_
     refine Ev_int ?_
     refine Una_neg ?_
     refine Item_last ‹_› (by first | assumption | rfl) ?_
     refine Meth_append ‹_› ?_
     refine wBi ?_
     refine aCons ?_
     refine Ev_l4 ok hn ?_
     refine aNil ?_
     refine cAppend ‹_› (by first | exact ‹_› | exact le2 ‹_› | omega) ?_
     refine nONE ?_
     refine xNil ?_
     refine xNil ?_
     rw [hy_set]
     rw [List.length_cons] at hop
     exact tail (bg false b n' + 1) op1 acc1 rs _ (arrP ps) (Nat.lt_succ_self _) hl (hg1 (by decide) (by decide)) (Nat.le_trans (Nat.le_of_eq g5) (Nat.le_trans (Nat.le_of_succ_le hop) (Nat.le_succ_of_le hle.1))) g6 (get_ne g4 hY2) g7
  ·have h123 := u8ne (y := 123) c1
   have h125 := u8ne (y := 125) c2
   cases hone : oneO b (bg false b n') with
   | bad e =>
    rw [af_bad ha (tk_bad hx h123 h125 hone T)] at q
    intro m
    refine tuN (.s (.s (.s (.s .z)))) (.s (.s (.s .z))) ?_
    refine xCons ?_
    refine sIf ?_
    refine tVal ?_
    refine vCallN ?_
    refine Ev_gu ok hg (.s (.s (.s .z))) b_isinstance ?_
    refine wBi ?_
    refine aCons ?_
    refine Ev_l4 ok hn ?_
    refine aCons ?_
    refine Ev_gu ok hg (.s (.s (.s (.s .z)))) b_str ?_
    refine aNil ?_
    refine Cal_isi_str ?_
    refine Tru_bool ?_
    refine brT rfl ?_
    refine xCons ?_
    refine sRet ?_
    refine Ev_l4 ok hn ?_
    exact ret _ _ _ (Fin.same (av := .str _) trivial q)
   | tok lf m =>
    obtain ⟨o1, o2, o3⟩ := one_ok Gm hx hw h37 h123 h125 hone
    have T1 := tk_tok hx h123 h125 hone T
    obtain ⟨xs, hxs, hxl⟩ := lfP_tup lf
    unfold kLw
    dsimp only
    rw [hxs] at T1 ⊢
    obtain ⟨r0, ts, g1, g2, g3, g4, op1, acc1, g5, g6, g7⟩ := S.push (N := H.length) (e := m) (p := .tup xs) (Nat.lt_of_le_of_lt hle.1 o1) hxl T1
    have hr2 : (H ++ Y)[H.length + r0]? = some (.list ts) := by rw [hy_get]; exact g2
    have hz : ts.length ≤ 100000 := (big (Nat.le_trans g3 hn2) hb).2
    refine tuN (.s (.s (.s (.s .z)))) (.s (.s (.s .z))) ?_
    refine xCons ?_
    refine sIf ?_
    refine tVal ?_
    refine vCallN ?_
    refine Ev_gu ok hg (.s (.s (.s .z))) b_isinstance ?_
    refine wBi ?_
    refine aCons ?_
    refine Ev_l4 ok hn ?_
    refine aCons ?_
    refine Ev_gu ok hg (.s (.s (.s (.s .z)))) b_str ?_
    refine aNil ?_
    refine Cal_isi_tup ?_
    refine Tru_bool ?_
    refine brF rfl ?_
    refine xNil ?_
    refine xCons ?_
    refine sExpr ok ?_
    refine vMeth ?_
    refine vSub ?_
    refine Ev_l2 ok hn ?_
    refine vUna ?_
    refine Ev_int ?_
    refine Una_neg ?_
    refine Item_last ‹_› (by first | assumption | rfl) ?_
    refine Meth_append ‹_› ?_
    refine wBi ?_
    refine aCons ?_
    refine Ev_l4 ok hn ?_
    refine aNil ?_
    refine cAppend ‹_› (by first | exact ‹_› | exact le2 ‹_› | omega) ?_
    refine nONE ?_
    refine xNil ?_
    refine xNil ?_
    rw [hy_set]
    exact tail m op1 acc1 rs _ (.tup xs) o1 o2 o3 (Nat.le_trans (Nat.le_of_eq g5) (Nat.le_trans hop (Nat.le_trans hle.1 (Nat.le_of_lt o1)))) g6 (get_ne g4 hY) g7
theorem OK.mono {G : Gl} {fa : Addr} {A B : Sem'} (h : OK G fa A) (k : ∀ bud args H Q R, B bud args H Q R → A bud args H Q R) : OK G fa B :=
 fun A' o E F H args vs s bud Q R a1 a2 a3 a4 a5 a6 a7 a8 a9 => h A' o E F H args vs s bud Q R a1 a2 a3 a4 a5 a6 a7 a8 (k _ _ _ _ _ a9)
theorem OK.or {G : Gl} {fa : Addr} {A B D : Sem'} (h : OK G fa A) (h' : OK G fa B) (k : ∀ bud args H Q R, D bud args H Q R → A bud args H Q R ∨ B bud args H Q R) : OK G fa D :=
 fun A' o E F H args vs s bud Q R a1 a2 a3 a4 a5 a6 a7 a8 a9 => (k _ _ _ _ _ a9).elim (h A' o E F H args vs s bud Q R a1 a2 a3 a4 a5 a6 a7 a8) (h' A' o E F H args vs s bud Q R a1 a2 a3 a4 a5 a6 a7 a8)
theorem ok_thingsP {P : CP} (w : World) : OK (GP P w) 353 S_thingsOf := by
 refine mkOK [] ["span"] 1 ⟨_, _, _, rfl⟩ rfl (by kernel_rfl) rfl (fun vs hv => by obtain ⟨a, rfl⟩ := len1 hv; rfl) ?_
 rintro c ok hn hg _ _ H Q R ⟨m, vs, rfl, hz, q⟩ hlt
 refine ⟨[_], ⟨rfl, rfl⟩, ?_⟩
 refine xCons ?_
 refine sRet ?_
 refine vCut ?_
 refine vAttr ?_
 refine vAttrN ?_
 refine Ev_l0 ok hn ?_
 refine Get_i co_268 .z .z (by kernel_rfl) rfl ?_
 refine Get_i co_247 (.s .z) (.s .z) (by kernel_rfl) rfl ?_
 refine Eo_some ?_
 refine vAttrN ?_
 refine Ev_l0 ok hn ?_
 refine Get_i co_268 (.s .z) (.s .z) (by kernel_rfl) rfl ?_
 refine Eo_some ?_
 refine vBin ?_
 refine vAttrN ?_
 refine Ev_l0 ok hn ?_
 refine Get_i co_268 (.s .z) (.s .z) (by kernel_rfl) rfl ?_
 refine vAttrN ?_
 refine Ev_l0 ok hn ?_
 refine Get_i co_268 (.s (.s .z)) (.s (.s .z)) (by kernel_rfl) rfl ?_
 refine Bin_add ?_
 rw [Int.zero_add]
 refine Cut_lst (lo := some 0) (hi := some vs.length) (.int rfl) (.int rfl) (by first | exact le2 ‹_› | omega) ?_
 rw [show cutL (some 0) (some vs.length) vs = vs from by unfold cutL; simp]
 exact Fin.id hlt.1.1.2.1 q
inductive S_lp0 (bud : Nat) (args : List AV) (H : List AO) (Q : QT) (R : RT) : Prop
 | c  (h0 : args = [.none]) (h1 : Q .none H) : S_lp0 bud args H Q R
theorem ok_lp0 {P : CP} (w : World) : OK (GP P w) 980 S_lp0 := by
 refine mkOK ["things_of_span"] ["thing"] 1 ⟨_, _, _, rfl⟩ rfl (by kernel_rfl) rfl (fun vs hv => by obtain ⟨a, rfl⟩ := len1 hv; rfl) ?_
 rintro c ok hn hg _ _ H Q R ⟨rfl, q⟩ hlt
 refine ⟨[_], ⟨rfl, rfl⟩, ?_⟩
 refine xCons ?_
 refine sIf ?_
 refine tCmp ?_
 refine Ev_l0 ok hn ?_
 refine Ev_none ?_
 refine Cmp_is_none ?_
 refine isB ?_
 refine brT rfl ?_
 refine xCons ?_
 refine sRet ?_
 refine Ev_none ?_
 refine Fin.id trivial ?_
 exact q
inductive S_lp1 (bud : Nat) (args : List AV) (H : List AO) (Q : QT) (R : RT) : Prop
 | c (k : Str) (v : AV) (x : Bool) (h0 : args = [thing (.str k) v (.bool x) (.int 3)]) (h1 : (k == "array") = false) (h2 : v.isUn = false) (h3 : v.isVal = false) (h4 : ∀ n, v.lt n) (h5 : Q (.tup [.str k, v, .bool x]) H) : S_lp1 bud args H Q R
theorem S_lp1.mk {bud : Nat} {k : Str} {v : AV} {x : Bool} {H : List AO} {Q : QT} {R : RT} (hk : (k == "array") = false) (hv : v.isUn = false) (hw : v.isVal = false) (hl : ∀ n, v.lt n) (q : Q (.tup [.str k, v, .bool x]) H) : S_lp1 bud [thing (.str k) v (.bool x) (.int 3)] H Q R := ⟨_, _, _, rfl, hk, hv, hw, hl, q⟩
theorem ok_lp1 {P : CP} (w : World) : OK (GP P w) 980 S_lp1 := by
 refine mkOK ["things_of_span"] ["thing"] 1 ⟨_, _, _, rfl⟩ rfl (by kernel_rfl) rfl (fun vs hv => by obtain ⟨a, rfl⟩ := len1 hv; rfl) ?_
 rintro c ok hn hg _ _ H Q R ⟨k, v, x, rfl, hk, hv, hw, hl, q⟩ hlt
 refine ⟨[_], ⟨rfl, rfl⟩, ?_⟩
 refine xCons ?_
 refine sIf ?_
 refine tCmp ?_
 refine Ev_l0 ok hn ?_
 refine Ev_none ?_
 refine Cmp_is_none ?_
 refine isB ?_
 refine brF rfl ?_
 refine xNil ?_
 refine xCons ?_
 refine sIf ?_
 refine tCmp ?_
 refine vAttrN ?_
 refine Ev_l0 ok hn ?_
 refine Get_i co_205 .z .z (by kernel_rfl) rfl ?_
 refine Ev_str ?_
 refine Cmp_eq_str ?_
 refine isB ?_
 refine brF ‹_› ?_
 refine xNil ?_
 refine xCons ?_
 refine sRet ?_
 refine vTup ?_
 refine aCons ?_
 refine vAttrN ?_
 refine Ev_l0 ok hn ?_
 refine Get_i co_205 .z .z (by kernel_rfl) rfl ?_
 refine aCons ?_
 refine vAttrN ?_
 refine Ev_l0 ok hn ?_
 refine Get_i co_205 (.s .z) (.s .z) (by kernel_rfl) ‹_› ?_
 refine aCons ?_
 refine vAttrN ?_
 refine Ev_l0 ok hn ?_
 refine Get_i co_205 (.s (.s .z)) (.s (.s .z)) (by kernel_rfl) rfl ?_
 refine aNil ?_
 refine ⟨Nat.le_of_ble_eq_true rfl, ?_⟩
 exact Fin.id (av := .tup [.str k, v, .bool x]) ⟨trivial, hl _, trivial, trivial⟩ q
theorem All2.right {α β : Type} {R : α → β → Prop} {P : β → Prop} (k : ∀ a b, R a b → P b) : ∀ {as : List α} {bs : List β}, All2 R as bs → ∀ b ∈ bs, P b
 | [], [], _, a, h => nomatch h
 | _ :: _, y :: _, h, a, ha => by
  rcases List.mem_cons.mp ha with rfl | ha
  ·exact k _ _ h.1
  ·exact All2.right k h.2 a ha
theorem Pl.ltP {n : Nat} : ∀ {d : Nat} {t p : AV}, Pl d t p → p.lt n
 | 0, _, _, ⟨l, _, e⟩ => by subst e; cases l <;> exact ⟨trivial, trivial, trivial, trivial⟩
 | d + 1, _, _, .inl h => Pl.ltP h
 | d + 1, _, _, .inr ⟨m, ts, ps, _, e, _, h⟩ => by
  subst e
  exact ⟨trivial, ltL_all (All2.right (P := fun t => t.lt n) (fun _ _ => Pl.ltP) h), trivial, trivial⟩
noncomputable def S_lp (d : Nat) : Sem' := fun bud args H Q R => ∃ b0 t p, bud = b0 + d + 1 ∧ args = [t] ∧ Pl d t p ∧ Q p H
theorem ok_lp2 {P : CP} (w : World) (d : Nat) (ih : ∀ P : CP, OK (GP P w) 980 (S_lp d)) : OK (GP P w) 980 (fun bud args H Q R => ∃ b0 m ts ps, bud = b0 + d + 2 ∧ args = [arrT m ts] ∧ ts.length ≤ 1000 ∧ All2 (Pl d) ts ps ∧ Q (arrP ps) H) := by
 refine mkOK ["things_of_span"] ["thing"] 1 ⟨_, _, _, rfl⟩ rfl (by kernel_rfl) rfl (fun vs hv => by obtain ⟨a, rfl⟩ := len1 hv; rfl) ?_
 rintro c ok hn hg _ _ H Q R ⟨b0, m, ts, ps, rfl, rfl, hz, ha, q⟩ hlt
 refine ⟨[_], ⟨rfl, rfl⟩, ?_⟩
 have hpl : ∀ n, ltL n ps := fun n => ltL_all (All2.right (P := fun t => t.lt n) (fun _ _ => Pl.ltP) ha)
 refine xCons ?_
 refine sIf ?_
 refine tCmp ?_
 refine Ev_l0 ok hn ?_
 refine Ev_none ?_
 refine Cmp_is_none ?_
 refine isB ?_
 refine brF rfl ?_
 refine xNil ?_
 refine xCons ?_
 refine sIf ?_
 refine tCmp ?_
 refine vAttrN ?_
 refine Ev_l0 ok hn ?_
 refine Get_i co_205 .z .z (by kernel_rfl) rfl ?_
 refine Ev_str ?_
 refine Cmp_eq_str ?_
 refine isB ?_
 refine brT rfl ?_
 refine xCons ?_
 refine sRet ?_
 refine vTup ?_
 refine aCons ?_
 refine Ev_str ?_
 refine aCons ?_
 refine Ev_comp (v := .ref 980) ⟨by decide +kernel, by decide +kernel, .inl g__law_plain⟩ ⟨by decide +kernel, rfl, by decide +kernel, by decide +kernel, by decide +kernel⟩ (by kernel_rfl) ?_
 refine vCallN ?_
 refine Ev_gr ok hg .z g_things_of_span ?_
 refine wFn (by kernel_rfl) ?_
 refine aCons ?_
 refine vAttrN ?_
 refine Ev_l0 ok hn ?_
 refine Get_i co_205 (.s .z) (.s .z) (by kernel_rfl) rfl ?_
 refine aNil ?_
 refine calFn ok (ok_thingsP w) (S_thingsOf.mk hz ?_)
 refine compOf ps ⟨ha.len.symm, hpl _, hz, fun i x y os hx hy => calFn ok (ih anyP) ⟨b0, x, y, rfl, rfl, ha.get hx hy, rfl, rfl⟩⟩ ?_
 refine aCons ?_
 refine vAttrN ?_
 refine Ev_l0 ok hn ?_
 refine Get_i co_205 (.s (.s .z)) (.s (.s .z)) (by kernel_rfl) rfl ?_
 refine aNil ?_
 refine ⟨Nat.le_of_ble_eq_true rfl, ?_⟩
 exact Fin.id (av := arrP ps) ⟨trivial, hpl _, trivial, trivial⟩ q
theorem ok_lp (w : World) : ∀ (d : Nat) (P : CP), OK (GP P w) 980 (S_lp d)
 | 0, P => (ok_lp1 w).mono fun bud args H Q R ⟨b0, t, p, e1, e2, ⟨l, e3, e4⟩, q⟩ => by
  subst e1 e2 e3 e4
  cases l <;> exact S_lp1.mk (by decide +kernel) rfl rfl (fun _ => trivial) q
 | d + 1, P => (ok_lp w d P).or (ok_lp2 w d fun P => ok_lp w d P) fun bud args H Q R ⟨b0, t, p, e1, e2, h, q⟩ => by
  rcases h with h | ⟨m, ts, ps, h1, h2, h3, h4⟩
  ·exact .inl ⟨b0 + 1, t, p, by omega, e2, h, q⟩
  ·subst h1 h2
   exact .inr ⟨b0, m, ts, ps, e1, e2, h3, h4, q⟩
inductive Hr (b : List UInt8) : Bool → AV → Prop
 | all {ps : List AV} : Ths b 0 [] (.ok ps) → Hr b false (.lst ps)
 | allE {e : List UInt8} : Ths b 0 [] (.err e) → e.length ≤ 1000 → Hr b false (.str (strOf e))
 | one {p : AV} {m : Nat} : Tk b 0 [] (.tok p m) → Hr b true (.tup [p, .int m])
 | non : Tk b 0 [] .fin → Hr b true (.tup [.none, .int b.length])
 | oneE {e : List UInt8} : Tk b 0 [] (.bad e) → e.length ≤ 1000 → Hr b true (.str (strOf e))
inductive S_heard (bud : Nat) (args : List AV) (H : List AO) (Q : QT) (R : RT) : Prop
 | c (b0 : Nat) (b : List UInt8) (first : Bool) (v : AV) (h0 : bud = b0 + 110) (h1 : args = [.bytes b, .bool first]) (h2 : b.length ≤ 100) (h3 : Gd b 0) (h4 : Hr b first v) (h5 : Q v H) : S_heard bud args H Q R
theorem S_heard.mk {b0 : Nat} {b : List UInt8} {first : Bool} {v : AV} {H : List AO} {Q : QT} {R : RT} (hb : b.length ≤ 100) (hg : Gd b 0) (hv : Hr b first v) (q : Q v H) : S_heard (b0 + 110) [.bytes b, .bool first] H Q R := ⟨_, _, _, _, rfl, rfl, hb, hg, hv, q⟩
theorem ok_heard (w : World) : OK (GG w) 992 S_heard := by
 refine mkOK ["PsError", "Memory", "Limits", "Scanner", "_law_known", "_law_plain", "scan_things"] ["octets", "is_first", "found", "memory", "thing", "at", "e"] 2 ⟨_, _, _, rfl⟩ rfl (by kernel_rfl) rfl (fun vs hv => by obtain ⟨a, b, rfl⟩ := len2 hv; rfl) ?_
 rintro c ok hn hg _ _ H Q R ⟨b0, b, first, v, rfl, rfl, hb, G, hv, q⟩ hlt
 have hB : b0 + 109 = b0 + 108 - b.length + b.length + 1 := by rw [Nat.sub_add_cancel (Nat.le_trans hb (Nat.le_trans (Nat.le_of_ble_eq_true rfl) (Nat.le_add_left 108 b0)))]
 refine ⟨[_, _, _, _, _, _, _], ⟨rfl, rfl⟩, ?_⟩
 refine xCons ?_
 refine sTup2 ok hn (.s (.s .z)) (.s (.s (.s .z))) ?_
 refine vTup ?_
 refine aCons ?_
 refine Ev_none ?_
 refine aCons ?_
 refine vCallN ?_
 refine Ev_gr ok hg (.s .z) g_Memory ?_
 refine wFn (by kernel_rfl) ?_
 refine aCons ?_
 refine vCallN ?_
 refine Ev_gr ok hg (.s (.s .z)) g_Limits ?_
 refine Cw_fn0 (by kernel_rfl) ?_
 refine Cal_newF limN _ ok mk_615 (ok_lim0 w) (S_lim0.mk get_end (newOf set_end)) ?_
 refine aNil ?_
 refine cNew ok mk_896 (ok_mem0 w) (S_mem0.mk get_end ⟨rfl, ?_⟩)
 have e1 : (H ++ [AO.gone]).length = H.length + 1 := List.length_append
 have e2 : (H ++ [AO.gone] ++ [AO.inst 896 [] []]).length = H.length + 2 := by rw [List.length_append, e1]; rfl
 rw [set_end, e2, e1, hy_app, hy_app]
 have hi : (H ++ ([AO.gone] ++ ([mem (H.length + 2) 0 0] ++ [AO.idict 0])))[H.length + 1]? = some (mem (H.length + 2) 0 0) := by rw [hy_get]; rfl
 have hj : (H ++ ([AO.gone] ++ ([mem (H.length + 2) 0 0] ++ [AO.idict 0])))[H.length + 2]? = some (.idict 0) := by rw [hy_get]; rfl
 have fin : ∀ (X : List AO) (v : AV), v.lt 0 → Q v H → Fin H Q v (H ++ X) := fun X v l q => Fin.same (AV.lt_mono (Nat.zero_le _) _ l) q
 have eS : ∀ (X : List AO) u l z, ∃ X', ((H ++ X).set (H.length + 1) (mem (H.length + 2) u l)).set (H.length + 2) (.idict z) = H ++ X' := fun X u l z => ⟨_, by rw [hy_set, hy_set]⟩
 generalize ([AO.gone] ++ ([mem (H.length + 2) 0 0] ++ [AO.idict 0])) = Y at hi hj ⊢
 refine aNil ?_
 refine ⟨Nat.le_of_ble_eq_true rfl, ?_⟩
 refine tsN (.s (.s (.s .z))) (.s (.s .z)) ?_
 refine xCons ?_
 refine Es_try ok ?_
 have hij : H.length + 1 ≠ H.length + 2 := Nat.ne_of_lt (Nat.lt_succ_self _)
 cases first with
 | false =>
  obtain ⟨r, T, hr⟩ : ∃ r, Ths b 0 [] r ∧ ((∃ ps, r = .ok ps ∧ v = .lst ps) ∨ ∃ e, r = .err e ∧ e.length ≤ 1000 ∧ v = .str (strOf e)) := by
   cases hv with
   | all T => exact ⟨_, T, .inl ⟨_, rfl, rfl⟩⟩
   | allE T he => exact ⟨_, T, .inr ⟨_, rfl, he, rfl⟩⟩
  refine xCons ?_
  refine sIf ?_
  refine tVal ?_
  refine Ev_l1 ok hn ?_
  refine Tru_bool ?_
  refine brF rfl ?_
  refine xCons ?_
  refine sCompN (v := .ref 980) ok hn (.s (.s .z)) ⟨by decide +kernel, by decide +kernel, .inl g__law_plain⟩ ⟨by decide +kernel, rfl, by decide +kernel, by decide +kernel, by decide +kernel⟩ (by kernel_rfl) (by decide +kernel) ?_
  refine vCallN ?_
  refine Ev_gr ok hg (.s (.s (.s (.s (.s (.s .z)))))) g_scan_things ?_
  refine wFn (by kernel_rfl) ?_
  refine aCons ?_
  refine Ev_l0 ok hn ?_
  refine aCons ?_
  refine Ev_l3 ok hn ?_
  refine aCons ?_
  refine Ev_bool ?_
  refine aCons ?_
  refine Ev_gr ok hg (.s (.s (.s (.s .z)))) g__law_known ?_
  refine aNil ?_
  refine calFn ok (ok_scanThings w) ?_
  refine S_scanThings.mk (b0 := b0 + 100) hi hj hij hb G (Int.le_refl _) rfl T ?_
  rcases hr with ⟨ps, rfl, rfl⟩ | ⟨e, rfl, he, rfl⟩
  ·rintro ts _ ⟨u, l, z, rfl⟩ ha hz
   obtain ⟨X', eX⟩ := eS Y u l z
   rw [eX]
   have hpl : ∀ n, ltL n ps := fun n => ltL_all (All2.right (P := fun t => t.lt n) (fun _ _ => Pl.ltP) ha)
   refine compNOf ps ⟨ha.len.symm, hpl _, le2 hz, fun i x y os hx hy => calFn ok (ok_lp w b.length anyP) ⟨b0 + 108 - b.length, x, y, hB, rfl, ha.get hx hy, rfl, rfl⟩⟩ (.s (.s .z)) ?_
   refine xNil ?_
   refine xNil ?_
   refine xCons ?_
   refine sRet ?_
   refine Ev_l2 ok hn ?_
   exact fin X' (.lst ps) (hpl _) q
  ·rintro _ ⟨u, l, z, rfl⟩
   obtain ⟨X', eX⟩ := eS Y u l z
   rw [eX]
   refine HB_join ok hn hg .z (.s (.s .z)) (.s (.s (.s (.s (.s (.s .z)))))) ⟨by decide +kernel, rfl, by decide +kernel, by decide +kernel, by decide +kernel⟩ (by decide +kernel) he (.s (.s (.s (.s (.s (.s .z)))))) (.s (.s .z)) (.s (.s (.s (.s (.s (.s .z)))))) ?_
   refine xCons ?_
   refine sRet ?_
   refine Ev_l2 ok hn ?_
   exact fin X' (.str (strOf e)) trivial q
 | true =>
  obtain ⟨o, T, ho⟩ : ∃ o, Tk b 0 [] o ∧ ((∃ p m, o = .tok p m ∧ v = .tup [p, .int m]) ∨ (o = .fin ∧ v = .tup [.none, .int b.length]) ∨ ∃ e, o = .bad e ∧ e.length ≤ 1000 ∧ v = .str (strOf e)) := by
   cases hv with
   | one T => exact ⟨_, T, .inl ⟨_, _, rfl, rfl⟩⟩
   | non T => exact ⟨_, T, .inr (.inl ⟨rfl, rfl⟩)⟩
   | oneE T he => exact ⟨_, T, .inr (.inr ⟨_, rfl, he, rfl⟩)⟩
  refine xCons ?_
  refine sIf ?_
  refine tVal ?_
  refine Ev_l1 ok hn ?_
  refine Tru_bool ?_
  refine brT rfl ?_
  refine xCons ?_
  refine sTupN ok hn (.s (.s (.s (.s .z)))) (.s (.s (.s (.s (.s .z))))) ?_
  refine vMeth ?_
  refine vCallN ?_
  refine Ev_gr ok hg (.s (.s (.s .z))) g_Scanner ?_
  refine wFn (by kernel_rfl) ?_
  refine aCons ?_
  refine Ev_l3 ok hn ?_
  refine aNil ?_
  refine cNew ok mk_585 (ok_scanner0 w) (S_scanner0.mk (j := H.length + 1) get_end ⟨rfl, ?_⟩)
  rw [set_end]
  have hs1 : ((H ++ Y) ++ [AO.inst 585 ["memory"] [.obj (H.length + 1)]])[(H ++ Y).length]? = some (.inst 585 ["memory"] [.obj (H.length + 1)]) := get_end
  have h1 := Nat.ne_of_gt (lt_of_get hi)
  have h2 := Nat.ne_of_gt (lt_of_get hj)
  refine Meth_o co_585 ‹_› (by decide +kernel) m_585_token_in ?_
  refine wFn (by kernel_rfl) ?_
  refine aCons ?_
  refine Ev_l0 ok hn ?_
  refine aCons ?_
  refine Ev_bool ?_
  refine aCons ?_
  refine Ev_gr ok hg (.s (.s (.s (.s .z)))) g__law_known ?_
  refine aNil ?_
  refine calFn ok (ok_tokenIn w) ?_
  refine S_tokenIn.mk (b0 := b0 + 101) hs1 (get_app hi) (get_app hj) hij h1 h2 hb G (Int.le_refl _) rfl T ?_
  rcases ho with ⟨p, m, rfl, rfl⟩ | ⟨rfl, rfl⟩ | ⟨e, rfl, he, rfl⟩
  ·rintro t _ ⟨u, l, z, rfl⟩ hp
   rw [hy_app]
   obtain ⟨X', eX⟩ := eS (Y ++ [AO.inst 585 ["memory"] [.obj (H.length + 1)]]) u l z
   rw [eX]
   have hU := hp.ins.2
   refine tuN (.s (.s (.s (.s .z)))) (.s (.s (.s (.s (.s .z))))) ?_
   refine xCons ?_
   refine sSet ok hn (.s (.s .z)) ?_
   refine vTup ?_
   refine aCons ?_
   refine vCallN ?_
   refine Ev_gr ok hg (.s (.s (.s (.s (.s .z))))) g__law_plain ?_
   refine wFn (by kernel_rfl) ?_
   refine aCons ?_
   refine Ev_l4 ok hn ?_ ‹_›
   refine aNil ?_
   refine calFn ok (ok_lp w b.length decP) ⟨b0 + 108 - b.length, t, p, hB, rfl, hp, ?_⟩
   refine aCons ?_
   refine Ev_l5 ok hn ?_
   refine aNil ?_
   refine ⟨Nat.le_of_ble_eq_true rfl, ?_⟩
   refine sT2 ?_
   refine xNil ?_
   refine xNil ?_
   refine xCons ?_
   refine sRet ?_
   refine Ev_l2 ok hn ?_
   exact fin X' (.tup [p, .int m]) ⟨Pl.ltP hp, trivial, trivial⟩ q
  ·rintro _ ⟨u, l, z, rfl⟩
   rw [hy_app]
   obtain ⟨X', eX⟩ := eS (Y ++ [AO.inst 585 ["memory"] [.obj (H.length + 1)]]) u l z
   rw [eX]
   refine tuN (.s (.s (.s (.s .z)))) (.s (.s (.s (.s (.s .z))))) ?_
   refine xCons ?_
   refine sSet ok hn (.s (.s .z)) ?_
   refine vTup ?_
   refine aCons ?_
   refine vCallN ?_
   refine Ev_gr ok hg (.s (.s (.s (.s (.s .z))))) g__law_plain ?_
   refine wFn (by kernel_rfl) ?_
   refine aCons ?_
   refine Ev_l4 ok hn ?_
   refine aNil ?_
   refine calFn ok (ok_lp0 w) ⟨rfl, ?_⟩
   refine aCons ?_
   refine Ev_l5 ok hn ?_
   refine aNil ?_
   refine ⟨Nat.le_of_ble_eq_true rfl, ?_⟩
   refine sT2 ?_
   refine xNil ?_
   refine xNil ?_
   refine xCons ?_
   refine sRet ?_
   refine Ev_l2 ok hn ?_
   exact fin X' (.tup [.none, .int b.length]) ⟨trivial, trivial, trivial⟩ q
  ·rintro _ ⟨u, l, z, rfl⟩
   rw [hy_app]
   obtain ⟨X', eX⟩ := eS (Y ++ [AO.inst 585 ["memory"] [.obj (H.length + 1)]]) u l z
   rw [eX]
   refine HB_join ok hn hg .z (.s (.s .z)) (.s (.s (.s (.s (.s (.s .z)))))) ⟨by decide +kernel, rfl, by decide +kernel, by decide +kernel, by decide +kernel⟩ (by decide +kernel) he (.s (.s (.s (.s (.s (.s .z)))))) (.s (.s .z)) (.s (.s (.s (.s (.s (.s .z)))))) ?_
   refine xCons ?_
   refine sRet ?_
   refine Ev_l2 ok hn ?_
   exact fin X' (.str (strOf e)) trivial q
noncomputable abbrev dkN : List Str := ["cells", "mixed"]
noncomputable abbrev dck (w : World) (k : Nat) (m : Int) : AO := .sdict (hashStr w) dkN [.obj k, .int m]
noncomputable abbrev nums (is : List Int) : AO := .list (is.map .int)
theorem ints_lt {n : Nat} : ∀ {is : List Int}, ltL n (is.map .int)
 | [] => trivial
 | _ :: _ => ⟨trivial, ints_lt⟩
noncomputable def dkS (w : World) (H : List AO) (d k : Nat) (m : Int) (is : List Int) : List AO := (H.set d (dck w k m)).set k (nums is)
noncomputable def S_draw (w : World) : Sem' := fun bud args H Q R => ∃ (d k : Nat) (is : List Int) (m : Int) (many : Nat), args = [.obj d, .int many] ∧ H[d]? = some (dck w k m) ∧ H[k]? = some (nums is) ∧ d ≠ k ∧ 0 < many ∧ is.length ≤ 63 ∧ ∀ (i : Nat) is' m', i < many → is'.length ≤ 63 → Q (.int i) (dkS w H d k m' is')
theorem S_draw.mk {w : World} {bud d k : Nat} {is : List Int} {m : Int} {many : Nat} {H : List AO} {Q : QT} {R : RT} (hd : H[d]? = some (dck w k m)) (hk : H[k]? = some (nums is)) (hdk : d ≠ k) (hm : 0 < many) (hz : is.length ≤ 63)
  (q : ∀ (i : Nat) is' m', i < many → is'.length ≤ 63 → Q (.int i) (dkS w H d k m' is')) : S_draw w bud [.obj d, .int many] H Q R := ⟨d, k, is, m, many, rfl, hd, hk, hdk, hm, hz, q⟩
theorem fmod_nat {i : Int} {n : Nat} (h : 0 < n) : ∃ k : Nat, i.fmod n = k ∧ k < n := by
 have h1 : 0 ≤ i.fmod n := Int.fmod_nonneg_of_pos i (by omega)
 have h2 : i.fmod n < n := Int.fmod_lt_of_pos i (by omega)
 exact ⟨(i.fmod n).toNat, by omega, by omega⟩
theorem dk_fin {w : World} {H : List AO} {d k : Nat} {is : List Int} {m : Int} {v : AV} {Q : QT} (hk : k < H.length) (hv : v.lt H.length) (q : Q v (dkS w H d k m is)) : Fin H Q v (dkS w H d k m is) :=
 ⟨_, [], (List.append_nil _).symm, by unfold dkS; rw [len2s]; exact Nat.le_refl _, by unfold dkS; rw [len2s]; exact hv, fun q o e => by unfold dkS at e ⊢; rw [len2s]; exact set2_ent (x := dck w k m) (y := nums is) (show ltL H.length [.obj k, .int m] from ⟨hk, trivial, trivial⟩) ints_lt e, q⟩
theorem dkS_d {w : World} {H : List AO} {d k : Nat} {is : List Int} {m : Int} (hdk : d ≠ k) (hd : d < H.length) : (dkS w H d k m is)[d]? = some (dck w k m) := get_ne hdk.symm (get_set hd)
theorem dkS_k {w : World} {H : List AO} {d k : Nat} {is : List Int} {m : Int} (hk : k < H.length) : (dkS w H d k m is)[k]? = some (nums is) := get_set (by rw [List.length_set]; exact hk)
theorem dkS_2 {w : World} {H : List AO} {d k : Nat} {is is' : List Int} {m m' : Int} (hdk : d ≠ k) : dkS w (dkS w H d k m is) d k m' is' = dkS w H d k m' is' := by
 unfold dkS
 rw [List.set_comm _ _ hdk.symm, List.set_set, List.set_set]
theorem ok_draw (w : World) : OK (GP anyP w) 926 (S_draw w) := by
 refine mkOK [] ["deck", "many"] 2 ⟨_, _, _, rfl⟩ rfl (by kernel_rfl) rfl (fun vs hv => by obtain ⟨a, b, rfl⟩ := len2 hv; rfl) ?_
 rintro c ok hn hg bud _ H Q R ⟨d, k, is, m, many, rfl, hd, hk, hdk, hm, hz, q⟩ hlt
 refine ⟨[_, _], ⟨rfl, rfl⟩, ?_⟩
 have hmz : (many : Int) ≠ 0 := by omega
 have hl := lt_of_get hk
 have hz1 : (is.map AV.int).length ≤ 100000 := by rw [List.length_map]; exact le2 hz
 rcases is.eq_nil_or_concat with rfl | ⟨is, i, rfl⟩
 ·refine xCons ?_
  refine sIf ?_
  refine tCmp ?_
  refine vSub ?_
  refine Ev_l0 ok hn ?_
  refine Ev_str ?_
  refine Item_sd ‹_› .z .z ?_
  refine vLstE ?_
  refine Cmp_ne_nil ‹_› ?_
  refine isB ?_
  refine brF rfl ?_
  refine xNil ?_
  refine xCons ?_
  refine sSeti ?_
  refine vBin ?_
  refine vBin ?_
  refine vBin ?_
  refine vSub ?_
  refine Ev_l0 ok hn ?_
  refine Ev_str ?_
  refine Item_sd ‹_› (.s .z) (.s .z) ?_
  refine Ev_int ?_
  refine Bin_mul (IntMulOk.of_right (by decide +kernel)) ?_
  refine Ev_int ?_
  refine Bin_add ?_
  refine Ev_int ?_
  refine Bin_mod (by decide) ?_
  refine Ev_l0 ok hn ?_
  refine Ev_str ?_
  refine Seti_sd ‹_› (.s .z) (.s .z) (by decide +kernel) ?_
  refine xCons ?_
  refine sRet ?_
  refine vBin ?_
  refine vBin ?_
  refine vSub ?_
  refine Ev_l0 ok hn ?_
  refine Ev_str ?_
  refine Item_sd (get_set' ‹_›) (.s .z) (.s .z) ?_
  refine Ev_int ?_
  refine Bin_div (by decide) rfl ?_
  refine Ev_l1 ok hn ?_
  refine Bin_mod hmz ?_
  obtain ⟨i, e, hi⟩ := fmod_nat (i := ((m * 16807 + 29).fmod 2147483647).fdiv 64) hm
  rw [e]
  have q1 := q i [] ((m * 16807 + 29).fmod 2147483647) hi (Nat.zero_le _)
  have hs : dkS w H d k ((m * 16807 + 29).fmod 2147483647) [] = H.set d (dck w k ((m * 16807 + 29).fmod 2147483647)) := set_self (get_ne hdk hk)
  have := dk_fin (v := .int _) hl trivial q1
  rw [hs] at this
  exact this
 ·rw [List.concat_eq_append] at hk hz
  have hk' : H[k]? = some (.list (is.map AV.int ++ [.int i])) := by rw [hk, nums, List.map_append]; rfl
  rw [List.length_append] at hz
  have hne : (!(is.map AV.int ++ [AV.int i]).isEmpty) = true := by cases is <;> rfl
  have hz2 : (is.map AV.int).length ≤ 100000 := by rw [List.length_map]; omega
  clear hk
  refine xCons ?_
  refine sIf ?_
  refine tCmp ?_
  refine vSub ?_
  refine Ev_l0 ok hn ?_
  refine Ev_str ?_
  refine Item_sd ‹_› .z .z ?_
  refine vLstE ?_
  refine Cmp_ne_nil ‹_› ?_
  refine isB ?_
  refine brT ‹_› ?_
  refine xCons ?_
  refine sRet ?_
  refine vBin ?_
  refine vMeth ?_
  refine vSub ?_
  refine Ev_l0 ok hn ?_
  refine Ev_str ?_
  refine Item_sd ‹_› .z .z ?_
  refine Meth_pop ‹_› ?_
  refine Cw_bi0 ?_
  refine cPop ‹_› (by first | exact ‹_› | exact le2 ‹_› | omega) ?_
  refine Ev_l1 ok hn ?_
  refine Bin_mod hmz ?_
  obtain ⟨j, e, hj⟩ := fmod_nat (i := i) hm
  rw [e]
  have q1 := q j is m hj (by omega)
  have hs : H.set d (dck w k m) = H := set_self hd
  have := dk_fin (v := .int _) hl trivial q1
  unfold dkS at this
  rw [hs] at this
  exact this
noncomputable def S_deck (w : World) : Sem' := fun bud args H Q R => ∃ (b0 : Nat) (is : List Int), bud = b0 + 1 ∧ args = [.lst (is.map .int)] ∧ is.length ≤ 63 ∧ ∀ (m : Int) (is' : List Int), is'.length ≤ 63 → Q (.obj H.length) (H ++ [dck w (H.length + 1) m, nums is'])
theorem ok_deck (w : World) : OK (GP anyP w) 919 (S_deck w) := by
 refine mkOK [] ["script", "cells", "mixed", "cell"] 1 ⟨_, _, _, rfl⟩ rfl (by kernel_rfl) rfl (fun vs hv => by obtain ⟨a, rfl⟩ := len1 hv; rfl) ?_
 rintro c ok hn hg _ _ H Q R ⟨b0, is, rfl, rfl, hz, q⟩ hlt
 refine ⟨[_, _, _, _], ⟨rfl, rfl⟩, ?_⟩
 refine xCons ?_
 refine sTup2 ok hn (.s .z) (.s (.s .z)) ?_
 refine vTup ?_
 refine aCons ?_
 refine Ev_comp (v := .type "int") ⟨by decide +kernel, by decide +kernel, .inr b_int⟩ ⟨by decide +kernel, rfl, by decide +kernel, by decide +kernel, by decide +kernel⟩ (by kernel_rfl) ?_
 refine vCut ?_
 refine Ev_l0 ok hn ?_
 refine Eo_none ?_
 refine Eo_some ?_
 refine Ev_int ?_
 refine Cut_lst (lo := none) (hi := some 40) .none (.int rfl) (by rw [List.length_map]; exact le2 hz) ?_
 have hc : cutL none (some 40) (is.map AV.int) = (is.take 40).map .int := by unfold cutL; simp [List.map_take]
 have h4 : (is.take 40).length ≤ 63 := Nat.le_trans (List.length_take_le' _ _) hz
 rw [hc]
 generalize is.take 40 = js at h4 ⊢
 refine compOf (js.map .int) ⟨rfl, ints_lt, by rw [List.length_map]; exact le2 h4, fun i x y os hx hy => ?_⟩ ?_
 ·rw [hx] at hy; cases hy
  rw [List.getElem?_map] at hx
  cases hj : js[i]? with
  | none => rw [hj] at hx; cases hx
  | some j =>
   rw [hj] at hx; cases hx
   exact Cal_int ⟨rfl, rfl⟩
 refine aCons ?_
 refine Ev_int ?_
 refine aNil ?_
 refine ⟨Nat.le_of_ble_eq_true rfl, ?_⟩
 refine tsN (.s (.s .z)) (.s .z) ?_
 refine xCons ?_
 refine sForL (fun i st2 => ∃ m o, st2 = ⟨[.lst (is.map .int), .lst (js.map .int), .int m, o], H⟩ ∧ o.lt H.length) (js.map .int) ok hn (.s (.s (.s .z))) ?_
 refine Ev_l1 ok hn ?_
 refine ⟨rfl, ?_⟩
 refine ⟨rfl, ?_⟩
 refine ⟨⟨_, _, rfl, trivial⟩, ?_, ?_, ?_⟩
 ·rintro i _ ⟨m, o, rfl, _⟩; rfl
 ·rintro _ ⟨m, o, rfl, l1⟩
  refine ⟨⟨ints_lt, ints_lt, trivial, l1, trivial⟩, fun o ho => .inl ho, ?_⟩
  refine xCons ?_
  refine sRet ?_
  refine Ev_dict2 rfl (by decide +kernel) fun o' => ?_
  refine Ev_rev ?_
  refine Ev_l1 ok hn ?_
  refine ⟨_, rfl, ?_⟩
  refine ⟨le2 h4, fun is' hz' => ?_⟩
  show Ev (GP anyP w) c (b0 + 1) _ (kDd2 H.length (hashStr w) "cells" "mixed" o' (.obj (H ++ [AO.raw [o']]).length) _) (kFinE H R) ⟨_, (H ++ [AO.raw [o']]) ++ [nums is']⟩
  refine Ev_l2 ok hn ?_
  refine ⟨get_app get_end, ?_⟩
  have eL : (H ++ [AO.raw [o']]).length = H.length + 1 := List.length_append
  have eH : ((H ++ [AO.raw [o']]) ++ [nums is']).set H.length (dck w (H.length + 1) m) = H ++ [dck w (H.length + 1) m, nums is'] := by
   rw [hy_app]; exact hy_set (n := 0)
  rw [eL]
  have q1 := q m is' (Nat.le_trans hz' h4)
  show Fin H Q (.obj H.length) (((H ++ [AO.raw [o']]) ++ [nums is']).set H.length (dck w (H.length + 1) m))
  rw [eH]
  have eN : (H ++ [dck w (H.length + 1) m, nums is']).length = H.length + 2 := List.length_append
  refine ⟨_, [], (List.append_nil _).symm, by omega, by show H.length < _; omega, fun q o e => ?_, q1⟩
  by_cases hq : q < H.length
  ·rw [List.getElem?_append_left hq] at e; exact .inl e
  rw [List.getElem?_append_right (by omega)] at e
  refine .inr ?_
  rw [eN]
  rcases h : q - H.length with _ | _ | n
  ·rw [h] at e; cases e; exact (show ltL (H.length + 2) [.obj (H.length + 1), .int m] from ⟨Nat.lt_succ_self _, trivial, trivial⟩)
  ·rw [h] at e; cases e; exact (show ltL (H.length + 2) (is'.map .int) from ints_lt)
  ·rw [h] at e; cases e
 ·rintro i v _ os hv ⟨m, o, rfl, l1⟩
  refine t1 (.s (.s (.s .z))) ?_
  rw [List.getElem?_map] at hv
  cases hj : js[i]? with
  | none => rw [hj] at hv; cases hv
  | some j =>
   rw [hj] at hv; cases hv
   refine xCons ?_
   refine sSet ok hn (.s (.s .z)) ?_
   refine vBin ?_
   refine vBin ?_
   refine vBin ?_
   refine Ev_l2 ok hn ?_
   refine Ev_int ?_
   refine Bin_mul (IntMulOk.of_right (by decide +kernel)) ?_
   refine Ev_l3 ok hn ?_
   refine Bin_add ?_
   refine Ev_int ?_
   refine Bin_mod (by decide) ?_
   refine sT2 ?_
   refine xNil ?_
   refine ⟨_, rfl, ?_⟩
   refine ⟨rfl, ?_⟩
   exact ⟨_, _, rfl, trivial⟩
noncomputable def sl : Nat → List UInt8 → Bool
 | _, [] => true
 | k, x :: l => if x = 47 then (match k with | 0 => sl 1 l | 1 => sl 2 l | _ => false) else sl 0 l
structure Pc (n : Nat) (s : List UInt8) : Prop where
 len : s.length ≤ n
 aut : ∀ l, aut 0 (s ++ l) = aut 0 l
 sl : ∀ l, sl 0 (s ++ l) = sl 0 l
theorem Pc.add {n m : Nat} {s t : List UInt8} (a : Pc n s) (b : Pc m t) : Pc (n + m) (s ++ t) :=
 ⟨by rw [List.length_append]; exact Nat.add_le_add a.len b.len, fun l => by rw [List.append_assoc, a.aut, b.aut], fun l => by rw [List.append_assoc, a.sl, b.sl]⟩
theorem Pc.le {n m : Nat} {s : List UInt8} (a : Pc n s) (h : n ≤ m) : Pc m s := ⟨Nat.le_trans a.len h, a.aut, a.sl⟩
theorem Pc.nil : Pc 0 [] := ⟨Nat.le_refl _, fun _ => rfl, fun _ => rfl⟩
noncomputable def allB (P : List UInt8 → Prop) : List AV → Prop
 | [] => True
 | v :: vs => (∃ s, v = .bytes s ∧ P s) ∧ allB P vs
theorem allB.get {P : List UInt8 → Prop} : ∀ {vs : List AV} {i : Nat}, allB P vs → i < vs.length → ∃ s, vs[i]? = some (.bytes s) ∧ P s
 | _ :: _, 0, ⟨⟨s, e, p⟩, _⟩, _ => ⟨s, by rw [e]; rfl, p⟩
 | _ :: _, i + 1, h, k => allB.get (i := i) h.2 (Nat.lt_of_succ_lt_succ k)
noncomputable def allV (P : List UInt8 → Prop) : List Value → Prop
 | [] => True
 | v :: vs => (∃ s t, v = .bytes (List.toArray s) t ∧ P s) ∧ allV P vs
theorem allV.get {P : List UInt8 → Prop} : ∀ {vs : List Value} {i : Nat}, allV P vs → i < vs.length → ∃ s t, vs[i]? = some (.bytes (List.toArray s) t) ∧ P s
 | _ :: _, 0, ⟨⟨s, t, e, p⟩, _⟩, _ => ⟨s, t, by rw [e]; rfl, p⟩
 | _ :: _, i + 1, h, k => allV.get (i := i) h.2 (Nat.lt_of_succ_lt_succ k)
theorem pc_of {n : Nat} {s : List UInt8} (h1 : s.length ≤ n) (h2 : ∀ l, Mine.aut 0 (s ++ l) = Mine.aut 0 l) (h3 : ∀ l, Mine.sl 0 (s ++ l) = Mine.sl 0 l) : ∃ u, AV.bytes s = .bytes u ∧ Pc n u := ⟨s, rfl, h1, h2, h3⟩
theorem pv_of {n : Nat} {s : List UInt8} {t : Tok} (h1 : s.length ≤ n) (h2 : ∀ l, Mine.aut 0 (s ++ l) = Mine.aut 0 l) (h3 : ∀ l, Mine.sl 0 (s ++ l) = Mine.sl 0 l) : ∃ u t', Value.bytes (List.toArray s) t = .bytes (List.toArray u) t' ∧ Pc n u := ⟨s, t, rfl, h1, h2, h3⟩
structure Cm (s : List UInt8) : Prop where
 len : s.length ≤ 5
 aut : ∀ l, Mine.aut 1 (s ++ l) = Mine.aut 1 l
 sl : ∀ l, Mine.sl 0 (s ++ l) = Mine.sl 0 l
structure Ce (s : List UInt8) : Prop where
 len : s.length ≤ 2
 aut : ∀ l, Mine.aut 1 (s ++ l) = Mine.aut 0 l
 sl : ∀ l, Mine.sl 0 (s ++ l) = Mine.sl 0 l
theorem cm_of {s : List UInt8} (h1 : s.length ≤ 5) (h2 : ∀ l, Mine.aut 1 (s ++ l) = Mine.aut 1 l) (h3 : ∀ l, Mine.sl 0 (s ++ l) = Mine.sl 0 l) : ∃ u, AV.bytes s = .bytes u ∧ Cm u := ⟨s, rfl, h1, h2, h3⟩
theorem ce_of {s : List UInt8} (h1 : s.length ≤ 2) (h2 : ∀ l, Mine.aut 1 (s ++ l) = Mine.aut 0 l) (h3 : ∀ l, Mine.sl 0 (s ++ l) = Mine.sl 0 l) : ∃ u, AV.bytes s = .bytes u ∧ Ce u := ⟨s, rfl, h1, h2, h3⟩
theorem com_pc {s t : List UInt8} (h1 : Cm s) (h2 : Ce t) : Pc 8 (([37] ++ s) ++ t) :=
 ⟨by have := h1.len; have := h2.len; simp only [List.length_append, List.length_cons, List.length_nil]; omega, fun l => by rw [List.append_assoc, List.append_assoc]; show Mine.aut 1 (s ++ (t ++ l)) = _; rw [h1.aut, h2.aut],
  fun l => by rw [List.append_assoc, List.append_assoc]; show Mine.sl 0 (s ++ (t ++ l)) = _; rw [h1.sl, h2.sl]⟩
theorem words_at {w : World} : ∃ o cs m, (Kd w.params).lookup 913 = some o ∧ o.cls = .type "tuple" ∧ o.data = .seq (List.toArray cs) m ∧ cs.length = 12 ∧ allV (Pc 8) cs :=
 ⟨_, _, _, rfl, rfl, rfl, rfl, pv_of (by decide) (fun _ => rfl) (fun _ => rfl), pv_of (by decide) (fun _ => rfl) (fun _ => rfl), pv_of (by decide) (fun _ => rfl) (fun _ => rfl), pv_of (by decide) (fun _ => rfl) (fun _ => rfl), pv_of (by decide) (fun _ => rfl) (fun _ => rfl), pv_of (by decide) (fun _ => rfl) (fun _ => rfl), pv_of (by decide) (fun _ => rfl) (fun _ => rfl), pv_of (by decide) (fun _ => rfl) (fun _ => rfl), pv_of (by decide) (fun _ => rfl) (fun _ => rfl), pv_of (by decide) (fun _ => rfl) (fun _ => rfl), pv_of (by decide) (fun _ => rfl) (fun _ => rfl), pv_of (by decide) (fun _ => rfl) (fun _ => rfl), trivial⟩
theorem whites_at {w : World} : ∃ o cs m, (Kd w.params).lookup 914 = some o ∧ o.cls = .type "tuple" ∧ o.data = .seq (List.toArray cs) m ∧ cs.length = 12 ∧ allV (Pc 2) cs :=
 ⟨_, _, _, rfl, rfl, rfl, rfl, pv_of (by decide) (fun _ => rfl) (fun _ => rfl), pv_of (by decide) (fun _ => rfl) (fun _ => rfl), pv_of (by decide) (fun _ => rfl) (fun _ => rfl), pv_of (by decide) (fun _ => rfl) (fun _ => rfl), pv_of (by decide) (fun _ => rfl) (fun _ => rfl), pv_of (by decide) (fun _ => rfl) (fun _ => rfl), pv_of (by decide) (fun _ => rfl) (fun _ => rfl), pv_of (by decide) (fun _ => rfl) (fun _ => rfl), pv_of (by decide) (fun _ => rfl) (fun _ => rfl), pv_of (by decide) (fun _ => rfl) (fun _ => rfl), pv_of (by decide) (fun _ => rfl) (fun _ => rfl), pv_of (by decide) (fun _ => rfl) (fun _ => rfl), trivial⟩
noncomputable def S_piece (w : World) : Sem' := fun bud args H Q R => ∃ (b0 d k : Nat) (is : List Int) (m : Int), bud = b0 + 1 ∧ args = [.obj d] ∧ H[d]? = some (dck w k m) ∧ H[k]? = some (nums is) ∧ d ≠ k ∧ is.length ≤ 63 ∧ ∀ s is' m', Pc 8 s → is'.length ≤ 63 → Q (.bytes s) (dkS w H d k m' is')
theorem S_piece.mk {w : World} {b0 d k : Nat} {is : List Int} {m : Int} {H : List AO} {Q : QT} {R : RT} (hd : H[d]? = some (dck w k m)) (hk : H[k]? = some (nums is)) (hdk : d ≠ k) (hz : is.length ≤ 63)
  (q : ∀ s is' m', Pc 8 s → is'.length ≤ 63 → Q (.bytes s) (dkS w H d k m' is')) : S_piece w (b0 + 1) [.obj d] H Q R := ⟨b0, d, k, is, m, rfl, rfl, hd, hk, hdk, hz, q⟩
theorem ok_piece (w : World) : OK (GP anyP w) 933 (S_piece w) := by
 refine mkOK ["_law_draw", "_law_words", "len"] ["deck", "way"] 1 ⟨_, _, _, rfl⟩ rfl (by kernel_rfl) rfl (fun vs hv => by obtain ⟨a, rfl⟩ := len1 hv; rfl) ?_
 rintro c ok hn hg _ _ H Q R ⟨b0, d, k, is, m, rfl, rfl, hd, hk, hdk, hz, q⟩ hlt
 refine ⟨[_, _], ⟨rfl, rfl⟩, ?_⟩
 have ld := lt_of_get hd
 have lk := lt_of_get hk
 refine xCons ?_
 refine sSet ok hn (.s .z) ?_
 refine vCallN ?_
 refine Ev_gr ok hg .z g__law_draw ?_
 refine wFn (by kernel_rfl) ?_
 refine aCons ?_
 refine Ev_l0 ok hn ?_
 refine aCons ?_
 refine Ev_int ?_
 refine aNil ?_
 refine calFn ok (ok_draw w) ?_
 refine S_draw.mk (many := 12) hd hk hdk (by decide) hz ?_
 intro way is1 m1 hw hz1
 have hd1 : (dkS w H d k m1 is1)[d]? = some (dck w k m1) := dkS_d hdk ld
 have hk1 : (dkS w H d k m1 is1)[k]? = some (nums is1) := dkS_k lk
 have fin : ∀ s is' m', Pc 8 s → is'.length ≤ 63 → Fin H Q (.bytes s) (dkS w (dkS w H d k m1 is1) d k m' is') := fun s is' m' h1 h2 => by
  rw [dkS_2 hdk]
  exact dk_fin lk trivial (q s is' m' h1 h2)
 refine sT1 ?_
 refine xCons ?_
 refine sIf ?_
 refine tCmp ?_
 refine Ev_l1 ok hn ?_
 refine Ev_int ?_
 refine Cmp_lt_int ?_
 refine isB ?_
 refine br (fun c1 => ?_) (fun c1 => ?_)
 refine xCons ?_
 refine sRet ?_
 refine vSub ?_
 refine Ev_gr ok hg (.s .z) g__law_words ?_
 refine vCallN ?_
 refine Ev_gr ok hg .z g__law_draw ?_
 refine wFn (by kernel_rfl) ?_
 refine aCons ?_
 refine Ev_l0 ok hn ?_
 refine aCons ?_
 refine vCallN ?_
 refine Ev_gu ok hg (.s (.s .z)) b_len ?_
 refine wBi ?_
 refine aCons ?_
 refine Ev_gr ok hg (.s .z) g__law_words ?_
 refine aNil ?_
 rotate_left
 refine xNil ?_
 refine xCons ?_
 refine sIf ?_
 refine tCmp ?_
 refine Ev_l1 ok hn ?_
 refine Ev_int ?_
 refine Cmp_eq_int ?_
 refine isB ?_
 refine br (fun c2 => ?_) (fun c2 => ?_)
 refine xCons ?_
 refine sRet ?_
 refine vSub ?_
 refine vLst ?_
 refine aCons ?_
 refine Ev_bytes ?_
 refine aCons ?_
 refine Ev_bytes ?_
 refine aCons ?_
 refine Ev_bytes ?_
 refine aCons ?_
 refine Ev_bytes ?_
 refine aCons ?_
 refine Ev_bytes ?_
 refine aCons ?_
 refine Ev_bytes ?_
 refine aNil ?_
 refine ⟨Nat.le_of_ble_eq_true rfl, ?_⟩
 refine vCallN ?_
 refine Ev_gr ok hg .z g__law_draw ?_
 refine wFn (by kernel_rfl) ?_
 refine aCons ?_
 refine Ev_l0 ok hn ?_
 refine aCons ?_
 refine Ev_int ?_
 refine aNil ?_
 refine calFn ok (ok_draw w) ?_
 rotate_left
 refine xNil ?_
 refine xCons ?_
 refine sIf ?_
 refine tCmp ?_
 refine Ev_l1 ok hn ?_
 refine Ev_int ?_
 refine Cmp_eq_int ?_
 refine isB ?_
 refine br (fun c3 => ?_) (fun c3 => ?_)
 refine xCons ?_
 refine sRet ?_
 refine vSub ?_
 refine vLst ?_
 refine aCons ?_
 refine Ev_bytes ?_
 refine aCons ?_
 refine Ev_bytes ?_
 refine aCons ?_
 refine Ev_bytes ?_
 refine aCons ?_
 refine Ev_bytes ?_
 refine aNil ?_
 refine ⟨Nat.le_of_ble_eq_true rfl, ?_⟩
 refine vCallN ?_
 refine Ev_gr ok hg .z g__law_draw ?_
 refine wFn (by kernel_rfl) ?_
 refine aCons ?_
 refine Ev_l0 ok hn ?_
 refine aCons ?_
 refine Ev_int ?_
 refine aNil ?_
 refine calFn ok (ok_draw w) ?_
 rotate_left
 refine xNil ?_
 refine xCons ?_
 refine sIf ?_
 refine tCmp ?_
 refine Ev_l1 ok hn ?_
 refine Ev_int ?_
 refine Cmp_lt_int ?_
 refine isB ?_
 refine br (fun c4 => ?_) (fun c4 => ?_)
 refine xCons ?_
 refine sRet ?_
 refine vSub ?_
 refine vLst ?_
 refine aCons ?_
 refine Ev_bytes ?_
 refine aCons ?_
 refine Ev_bytes ?_
 refine aCons ?_
 refine Ev_bytes ?_
 refine aCons ?_
 refine Ev_bytes ?_
 refine aNil ?_
 refine ⟨Nat.le_of_ble_eq_true rfl, ?_⟩
 refine vCallN ?_
 refine Ev_gr ok hg .z g__law_draw ?_
 refine wFn (by kernel_rfl) ?_
 refine aCons ?_
 refine Ev_l0 ok hn ?_
 refine aCons ?_
 refine Ev_int ?_
 refine aNil ?_
 refine calFn ok (ok_draw w) ?_
 rotate_left
 refine xNil ?_
 refine xCons ?_
 refine sIf ?_
 refine tCmp ?_
 refine Ev_l1 ok hn ?_
 refine Ev_int ?_
 refine Cmp_lt_int ?_
 refine isB ?_
 refine br (fun c5 => ?_) (fun c5 => ?_)
 refine xCons ?_
 refine sRet ?_
 refine vBin ?_
 refine vBin ?_
 refine Ev_bytes ?_
 refine vSub ?_
 refine vLst ?_
 refine aCons ?_
 refine Ev_bytes ?_
 refine aCons ?_
 refine Ev_bytes ?_
 refine aCons ?_
 refine Ev_bytes ?_
 refine aCons ?_
 refine Ev_bytes ?_
 refine aNil ?_
 refine ⟨Nat.le_of_ble_eq_true rfl, ?_⟩
 refine vCallN ?_
 refine Ev_gr ok hg .z g__law_draw ?_
 refine wFn (by kernel_rfl) ?_
 refine aCons ?_
 refine Ev_l0 ok hn ?_
 refine aCons ?_
 refine Ev_int ?_
 refine aNil ?_
 refine calFn ok (ok_draw w) ?_
 rotate_left
 refine xNil ?_
 refine xCons ?_
 refine sRet ?_
 refine vSub ?_
 refine vLst ?_
 refine aCons ?_
 refine Ev_bytes ?_
 refine aCons ?_
 refine Ev_bytes ?_
 refine aCons ?_
 refine Ev_bytes ?_
 refine aCons ?_
 refine Ev_bytes ?_
 refine aCons ?_
 refine Ev_bytes ?_
 refine aNil ?_
 refine ⟨Nat.le_of_ble_eq_true rfl, ?_⟩
 refine vCallN ?_
 refine Ev_gr ok hg .z g__law_draw ?_
 refine wFn (by kernel_rfl) ?_
 refine aCons ?_
 refine Ev_l0 ok hn ?_
 refine aCons ?_
 refine Ev_int ?_
 refine aNil ?_
 refine calFn ok (ok_draw w) ?_
 rotate_left
 ·obtain ⟨o, cs, n, w1, w2, w3, w4, w5⟩ := words_at (w := w)
  refine Cal_len_tupK 12 w1 w2 w3 w4 (by decide) ?_
  refine aNil ?_
  refine calFn ok (ok_draw w) ?_
  refine S_draw.mk ‹_› ‹_› (by first | exact ‹_› | exact le2 ‹_› | omega) (by first | exact ‹_› | exact le2 ‹_› | omega) (by first | exact ‹_› | exact le2 ‹_› | omega) ?_
  intro i is2 m2 hi hz2
  obtain ⟨s, t, e1, e2⟩ := w5.get (w4.symm ▸ hi)
  skip
  refine Item_tupK i w1 w2 w3 rfl (Nat.lt_of_lt_of_le hi (Nat.le_of_ble_eq_true rfl)) e1 (x := .bytes s) (fun E F => by simp [CV]) ?_
  exact fin s is2 m2 e2 hz2
 ·refine S_draw.mk (many := 6) hd1 hk1 hdk (by decide) hz1 ?_
  intro i is2 m2 hi hz2
  obtain ⟨s, e1, e2⟩ := allB.get (P := Pc 8) (i := i) (vs := [.bytes [47, 97, 98, 99], .bytes [47, 32], .bytes [47, 49], .bytes [47, 47, 107], .bytes [47, 128], .bytes [47, 97, 46, 98]]) ⟨pc_of (by decide) (fun _ => rfl) (fun _ => rfl), pc_of (by decide) (fun _ => rfl) (fun _ => rfl), pc_of (by decide) (fun _ => rfl) (fun _ => rfl), pc_of (by decide) (fun _ => rfl) (fun _ => rfl), pc_of (by decide) (fun _ => rfl) (fun _ => rfl), pc_of (by decide) (fun _ => rfl) (fun _ => rfl), trivial⟩ hi
  skip
  refine Item_lst i rfl (Nat.lt_of_lt_of_le hi (Nat.le_of_ble_eq_true rfl)) e1 ?_
  exact fin s is2 m2 e2 hz2
 ·refine S_draw.mk (many := 4) hd1 hk1 hdk (by decide) hz1 ?_
  intro i is2 m2 hi hz2
  obtain ⟨s, e1, e2⟩ := allB.get (P := Pc 8) (i := i) (vs := [.bytes [91], .bytes [93], .bytes [60, 60], .bytes [62, 62]]) ⟨pc_of (by decide) (fun _ => rfl) (fun _ => rfl), pc_of (by decide) (fun _ => rfl) (fun _ => rfl), pc_of (by decide) (fun _ => rfl) (fun _ => rfl), pc_of (by decide) (fun _ => rfl) (fun _ => rfl), trivial⟩ hi
  skip
  refine Item_lst i rfl (Nat.lt_of_lt_of_le hi (Nat.le_of_ble_eq_true rfl)) e1 ?_
  exact fin s is2 m2 e2 hz2
 ·refine S_draw.mk (many := 4) hd1 hk1 hdk (by decide) hz1 ?_
  intro i is2 m2 hi hz2
  obtain ⟨s, e1, e2⟩ := allB.get (P := Pc 8) (i := i) (vs := [.bytes [123], .bytes [125], .bytes [123, 32, 97, 32, 125], .bytes [123, 125]]) ⟨pc_of (by decide) (fun _ => rfl) (fun _ => rfl), pc_of (by decide) (fun _ => rfl) (fun _ => rfl), pc_of (by decide) (fun _ => rfl) (fun _ => rfl), pc_of (by decide) (fun _ => rfl) (fun _ => rfl), trivial⟩ hi
  skip
  refine Item_lst i rfl (Nat.lt_of_lt_of_le hi (Nat.le_of_ble_eq_true rfl)) e1 ?_
  exact fin s is2 m2 e2 hz2
 ·refine S_draw.mk (many := 4) hd1 hk1 hdk (by decide) hz1 ?_
  intro i is2 m2 hi hz2
  rw [dkS_2 hdk]
  have hd2 : (dkS w H d k m2 is2)[d]? = some (dck w k m2) := dkS_d hdk ld
  have hk2 : (dkS w H d k m2 is2)[k]? = some (nums is2) := dkS_k lk
  obtain ⟨s, e1, e2⟩ := allB.get (P := Cm) (i := i) (vs := [.bytes [32, 99, 32], .bytes [125, 40], .bytes [], .bytes [47, 47, 122, 32, 37]]) ⟨cm_of (by decide) (fun _ => rfl) (fun _ => rfl), cm_of (by decide) (fun _ => rfl) (fun _ => rfl), cm_of (by decide) (fun _ => rfl) (fun _ => rfl), cm_of (by decide) (fun _ => rfl) (fun _ => rfl), trivial⟩ hi
  have z1 : s.length ≤ 5 := e2.len
  have z0 : ([37] : List UInt8).length = 1 := rfl
  have z3 : (([37] : List UInt8) ++ s).length ≤ 6 := by rw [List.length_append]; exact Nat.add_le_add (Nat.le_refl 1) z1
  skip
  refine Item_lst i rfl (Nat.lt_of_lt_of_le hi (Nat.le_of_ble_eq_true rfl)) e1 ?_
  refine Bin_add_bytes (by first | exact le2 ‹_› | omega) ?_
  refine vSub ?_
  refine vLst ?_
  refine aCons ?_
  refine Ev_bytes ?_
  refine aCons ?_
  refine Ev_bytes ?_
  refine aCons ?_
  refine Ev_bytes ?_
  refine aCons ?_
  refine Ev_bytes ?_
  refine aNil ?_
  refine ⟨Nat.le_of_ble_eq_true rfl, ?_⟩
  refine vCallN ?_
  refine Ev_gr ok hg .z g__law_draw ?_
  refine wFn (by kernel_rfl) ?_
  refine aCons ?_
  refine Ev_l0 ok hn ?_
  refine aCons ?_
  refine Ev_int ?_
  refine aNil ?_
  refine calFn ok (ok_draw w) ?_
  refine S_draw.mk (many := 4) hd2 hk2 hdk (by decide) hz2 ?_
  intro j is3 m3 hj hz3
  obtain ⟨t, e3, e4⟩ := allB.get (P := Ce) (i := j) (vs := [.bytes [10], .bytes [13, 10], .bytes [13], .bytes [12]]) ⟨ce_of (by decide) (fun _ => rfl) (fun _ => rfl), ce_of (by decide) (fun _ => rfl) (fun _ => rfl), ce_of (by decide) (fun _ => rfl) (fun _ => rfl), ce_of (by decide) (fun _ => rfl) (fun _ => rfl), trivial⟩ hj
  have z2 : t.length ≤ 2 := e4.len
  skip
  refine Item_lst j rfl (Nat.lt_of_lt_of_le hj (Nat.le_of_ble_eq_true rfl)) e3 ?_
  refine Bin_add_bytes (by first | exact le2 ‹_› | omega) ?_
  rw [dkS_2 hdk]
  exact dk_fin (v := .bytes (([37] ++ s) ++ t)) lk trivial (q _ is3 m3 (com_pc e2 e4) hz3)
 ·refine S_draw.mk (many := 5) hd1 hk1 hdk (by decide) hz1 ?_
  intro i is2 m2 hi hz2
  obtain ⟨s, e1, e2⟩ := allB.get (P := Pc 8) (i := i) (vs := [.bytes [125], .bytes [41], .bytes [62, 32], .bytes [47, 47, 122, 32], .bytes [123]]) ⟨pc_of (by decide) (fun _ => rfl) (fun _ => rfl), pc_of (by decide) (fun _ => rfl) (fun _ => rfl), pc_of (by decide) (fun _ => rfl) (fun _ => rfl), pc_of (by decide) (fun _ => rfl) (fun _ => rfl), pc_of (by decide) (fun _ => rfl) (fun _ => rfl), trivial⟩ hi
  skip
  refine Item_lst i rfl (Nat.lt_of_lt_of_le hi (Nat.le_of_ble_eq_true rfl)) e1 ?_
  exact fin s is2 m2 e2 hz2
noncomputable def PP : Nat → AV → Prop
 | 0, p => ∃ l, p = lfP l
 | d + 1, p => PP d p ∨ ∃ ps, p = arrP ps ∧ ∀ q ∈ ps, PP d q
theorem PP.leaf (l : Lf) : ∀ d, PP d (lfP l)
 | 0 => ⟨l, rfl⟩
 | d + 1 => .inl (PP.leaf l d)
theorem PP.le {p : AV} {d e : Nat} (h : PP d p) (k : d ≤ e) : PP e p := by
 induction k with
 | refl => exact h
 | step _ ih => exact .inl ih
theorem plnL_all : ∀ {ps : List AV}, (∀ q ∈ ps, q.pln) → plnL ps
 | [], _ => trivial
 | q :: ps, h => ⟨h q (.head _), plnL_all fun r hr => h r (.tail _ hr)⟩
theorem depL_all {n : Nat} : ∀ {ps : List AV}, (∀ q ∈ ps, q.dep ≤ n) → depL ps ≤ n
 | [], _ => Nat.zero_le _
 | q :: ps, h => Nat.max_le.mpr ⟨h q (.head _), depL_all fun r hr => h r (.tail _ hr)⟩
theorem PP.pln : ∀ {d : Nat} {p : AV}, PP d p → p.pln ∧ p.dep ≤ 2 * d + 2
 | 0, _, ⟨l, e⟩ => by subst e; cases l <;> exact ⟨⟨trivial, trivial, trivial, trivial⟩, Nat.le_of_ble_eq_true rfl⟩
 | d + 1, _, .inl h => ⟨h.pln.1, Nat.le_trans h.pln.2 (by omega)⟩
 | d + 1, _, .inr ⟨ps, e, h⟩ => by
  subst e
  have h1 := plnL_all fun q hq => (h q hq).pln.1
  have h2 := depL_all (n := 2 * d + 2) fun q hq => (h q hq).pln.2
  refine ⟨⟨trivial, h1, trivial, trivial⟩, ?_⟩
  show max 0 (max (depL ps + 1) (max 0 0)) + 1 ≤ _
  simp only [Nat.zero_max, Nat.max_zero]
  omega
theorem lE_len : sErr.length ≤ 1000 ∧ uErr.length ≤ 1000 ∧ lErr.length ≤ 1000 := by decide +kernel
noncomputable def okE : One → Prop
 | .bad e => e.length ≤ 1000
 | .tok _ _ => True
theorem okE_ite {c : Prop} [Decidable c] {x y : One} (hx : okE x) (hy : okE y) : okE (if c then x else y) := by
 by_cases h : c
 ·rw [if_pos h]; exact hx
 ·rw [if_neg h]; exact hy
theorem regO_ok {b : List UInt8} {m : Nat} : okE (regO b m) := by
 unfold regO
 cases rn b with
 | bad => exact lE_len.2.2
 | non => trivial
 | int i => trivial
 | real i => trivial
theorem slashO_ok {b : List UInt8} {n : Nat} : okE (slashO b n) := okE_ite (okE_ite trivial lE_len.2.1) trivial
theorem oneO_ok {b : List UInt8} {n : Nat} : okE (oneO b n) := by
 unfold oneO
 cases b[n]? with
 | none => exact Nat.zero_le _
 | some x => exact okE_ite slashO_ok (okE_ite trivial (okE_ite (okE_ite trivial lE_len.1) (okE_ite trivial (okE_ite lE_len.1 regO_ok))))
theorem oneO_bad {b : List UInt8} {n : Nat} {e : List UInt8} (h : oneO b n = .bad e) : e.length ≤ 1000 := by
 have := oneO_ok (b := b) (n := n)
 rw [h] at this
 exact this
theorem sub_le_of {L n m f : Nat} (h : L - n ≤ f + 1) (k : n < m) (l : m ≤ L) : L - m ≤ f := Nat.le_of_lt_succ (Nat.lt_of_lt_of_le (Nat.sub_lt_sub_left (Nat.lt_of_lt_of_le k l) k) h)
noncomputable def OutOk (b : List UInt8) (n : Nat) : Out → Prop
 | .fin => True
 | .bad e => e.length ≤ 1000
 | .tok p m => n < m ∧ m ≤ b.length ∧ Gd b m ∧ PP m p
theorem tk_total {b : List UInt8} : ∀ (f n : Nat) (op : List (List AV)), b.length - n ≤ f → n ≤ b.length → Gd b n → (∀ ps ∈ op, ∀ q ∈ ps, PP n q) → ∃ o, Tk b n op o ∧ OutOk b n o := by
 intro f
 induction f with
 | zero =>
  intro n op hf hn G hop
  have : b[bg false b n]? = none := List.getElem?_eq_none_iff.mpr (by have := (bg_le (c := false) (b := b) hn).1; omega)
  cases op with
  | nil => exact ⟨.fin, .stop (by unfold stp; rw [this]), trivial⟩
  | cons _ _ => exact ⟨.bad sErr, .stop (by unfold stp; rw [this]), lE_len.1⟩
 | succ f ih =>
  intro n op hf hn G hop
  have hle := bg_le (c := false) (b := b) hn
  have Gm := gd_bg G
  have pt : ∀ v m (op : List (List AV)), bg false b n < m → m ≤ b.length → Gd b m → PP m v → (∀ ps ∈ op, ∀ q ∈ ps, PP n q) → ∀ op0, stp b n op0 = put v m op → ∃ o, Tk b n op0 o ∧ OutOk b n o := by
   intro v m op a1 a2 a3 a4 a5 op0 a6
   cases op with
   | nil => exact ⟨.tok v m, .stop a6, Nat.lt_of_le_of_lt hle.1 a1, a2, a3, a4⟩
   | cons qs op =>
    obtain ⟨o, T, O⟩ := ih m ((qs ++ [v]) :: op) (sub_le_of hf (Nat.lt_of_le_of_lt hle.1 a1) a2) a2 a3 (by
     intro ps hps q hq
     rcases List.mem_cons.mp hps with rfl | hps
     ·rcases List.mem_append.mp hq with hq | hq
      ·exact (a5 qs (.head _) q hq).le (Nat.le_of_lt (Nat.lt_of_le_of_lt hle.1 a1))
      ·rw [List.mem_singleton.mp hq]; exact a4
     ·exact (a5 ps (.tail _ hps) q hq).le (Nat.le_of_lt (Nat.lt_of_le_of_lt hle.1 a1)))
    refine ⟨o, .go a6 T, ?_⟩
    cases o with
    | fin => trivial
    | bad e => exact O
    | tok p k => exact ⟨Nat.lt_trans (Nat.lt_of_le_of_lt hle.1 a1) O.1, O.2⟩
  cases hx : b[bg false b n]? with
  | none =>
   cases op with
   | nil => exact ⟨.fin, .stop (by unfold stp; rw [hx]), trivial⟩
   | cons _ _ => exact ⟨.bad sErr, .stop (by unfold stp; rw [hx]), lE_len.1⟩
  | some x =>
   have hl : bg false b n + 1 ≤ b.length := (List.getElem?_eq_some_iff.mp hx).1
   obtain ⟨hw, h37⟩ := bg_at hx
   obtain ⟨h40, h60, hg1⟩ := gd_x Gm hx
   by_cases e123 : x = 123
   ·have G1 := hg1 h37 (by rw [e123]; decide)
    obtain ⟨o, T, O⟩ := ih (bg false b n + 1) ([] :: op) (sub_le_of hf (Nat.lt_succ_of_le hle.1) hl) hl G1 (by
     intro ps hps q hq
     rcases List.mem_cons.mp hps with rfl | hps
     ·cases hq
     ·exact (hop ps hps q hq).le (Nat.le_succ_of_le hle.1))
    refine ⟨o, .go (by rw [stp_some hx, if_pos e123]) T, ?_⟩
    cases o with
    | fin => trivial
    | bad e => exact O
    | tok p k => exact ⟨Nat.lt_trans (Nat.lt_succ_of_le hle.1) O.1, O.2⟩
   by_cases e125 : x = 125
   ·have G1 := hg1 h37 (by rw [e125]; decide)
    cases op with
    | nil => exact ⟨.bad sErr, .stop (by rw [stp_some hx, if_neg e123, if_pos e125]), lE_len.1⟩
    | cons ps op =>
     refine pt (arrP ps) (bg false b n + 1) op (Nat.lt_succ_self _) hl G1 ?_ (fun qs h => hop qs (.tail _ h)) (ps :: op) (by rw [stp_some hx, if_neg e123, if_pos e125])
     exact .inr ⟨ps, rfl, fun q hq => (hop ps (.head _) q hq).le hle.1⟩
   cases hone : oneO b (bg false b n) with
   | bad e => exact ⟨.bad e, .stop (by rw [stp_some hx, if_neg e123, if_neg e125, hone]), oneO_bad hone⟩
   | tok l m =>
    obtain ⟨o1, o2, o3⟩ := one_ok Gm hx hw h37 e123 e125 hone
    exact pt (lfP l) m op o1 o2 o3 (PP.leaf l m) hop op (by rw [stp_some hx, if_neg e123, if_neg e125, hone])
theorem all_total {b : List UInt8} : ∀ (f n : Nat) (acc : List AV), b.length - n ≤ f → n ≤ b.length → Gd b n → (∀ q ∈ acc, PP n q) →
  ∃ o v r, Tk b n [] o ∧ Af b false o acc v ∧ Ths b n acc r ∧ ((∃ ps, r = .ok ps ∧ v = .lst ps ∧ ∀ q ∈ ps, PP b.length q) ∨ ∃ e, r = .err e ∧ e.length ≤ 1000 ∧ v = .str (strOf e)) := by
 intro f
 induction f with
 | zero =>
  intro n acc hf hn G ha
  obtain ⟨o, T, O⟩ := tk_total 0 n [] hf hn G (fun _ h => nomatch h)
  cases o with
  | fin => exact ⟨.fin, _, _, T, .fin0, .fin T, .inl ⟨acc, rfl, rfl, fun q hq => (ha q hq).le hn⟩⟩
  | bad e => exact ⟨_, _, _, T, .bad, .bad T, .inr ⟨e, rfl, O, rfl⟩⟩
  | tok p m => exact absurd O.1 (by have := O.2.1; omega)
 | succ f ih =>
  intro n acc hf hn G ha
  obtain ⟨o, T, O⟩ := tk_total _ n [] (Nat.le_refl _) hn G (fun _ h => nomatch h)
  cases o with
  | fin => exact ⟨.fin, _, _, T, .fin0, .fin T, .inl ⟨acc, rfl, rfl, fun q hq => (ha q hq).le hn⟩⟩
  | bad e => exact ⟨_, _, _, T, .bad, .bad T, .inr ⟨e, rfl, O, rfl⟩⟩
  | tok p m =>
   obtain ⟨o1, o2, o3, o4⟩ := O
   obtain ⟨o', v, r, T', A', R', h⟩ := ih m (acc ++ [p]) (sub_le_of hf o1 o2) o2 o3 (by
    intro q hq
    rcases List.mem_append.mp hq with hq | hq
    ·exact (ha q hq).le (Nat.le_of_lt o1)
    ·rw [List.mem_singleton.mp hq]; exact o4)
   exact ⟨_, v, r, T, .tok0 T' A', .tok T R', h⟩
structure Said (b : List UInt8) (first : Bool) (v : AV) : Prop where
 heard : Hr b first v
 law : ∃ o, Tk b 0 [] o ∧ Af b first o [] v
 pln : v.pln ∧ v.dep ≤ 300
 kind : (∃ vs, v = .lst vs) ∨ (∃ vs, v = .tup vs) ∨ ∃ x, v = .str x
theorem said {b : List UInt8} (hb : b.length ≤ 100) (G : Gd b 0) (first : Bool) : ∃ v, Said b first v := by
 cases first with
 | false =>
  obtain ⟨o, v, r, T, A, S, h⟩ := all_total b.length 0 [] (Nat.sub_le _ _) (Nat.zero_le _) G (fun _ h => nomatch h)
  rcases h with ⟨ps, rfl, rfl, h⟩ | ⟨e, rfl, he, rfl⟩
  ·have h2 := depL_all (n := 2 * b.length + 2) fun q hq => (h q hq).pln.2
   refine ⟨_, .all S, ⟨o, T, A⟩, ⟨plnL_all fun q hq => (h q hq).pln.1, ?_⟩, .inl ⟨ps, rfl⟩⟩
   show depL ps + 1 ≤ 300
   omega
  ·exact ⟨_, .allE S he, ⟨o, T, A⟩, ⟨trivial, Nat.zero_le _⟩, .inr (.inr ⟨_, rfl⟩)⟩
 | true =>
  obtain ⟨o, T, O⟩ := tk_total _ 0 [] (Nat.le_refl _) (Nat.zero_le _) G (fun _ h => nomatch h)
  cases o with
  | fin => exact ⟨_, .non T, ⟨_, T, .fin1⟩, ⟨⟨trivial, trivial, trivial⟩, Nat.le_of_ble_eq_true rfl⟩, .inr (.inl ⟨_, rfl⟩)⟩
  | bad e => exact ⟨_, .oneE T O, ⟨_, T, .bad⟩, ⟨trivial, Nat.zero_le _⟩, .inr (.inr ⟨_, rfl⟩)⟩
  | tok p m =>
   obtain ⟨o1, o2, o3, o4⟩ := O
   refine ⟨_, .one T, ⟨_, T, .tok1⟩, ⟨⟨o4.pln.1, trivial, trivial⟩, ?_⟩, .inr (.inl ⟨_, rfl⟩)⟩
   show max p.dep (max 0 0) + 1 ≤ 300
   have := o4.pln.2
   simp only [Nat.max_zero]
   omega
theorem sl0 {x : UInt8} {l : List UInt8} : sl 0 (x :: l) = if x = 47 then sl 1 l else sl 0 l := rfl
theorem sl1 {x : UInt8} {l : List UInt8} : sl 1 (x :: l) = if x = 47 then sl 2 l else sl 0 l := rfl
theorem sl2 {x : UInt8} {l : List UInt8} : sl 2 (x :: l) = if x = 47 then false else sl 0 l := rfl
theorem sl_down {l : List UInt8} : (sl 2 l = true → sl 1 l = true) ∧ (sl 1 l = true → sl 0 l = true) := by
 cases l with
 | nil => exact ⟨fun h => h, fun h => h⟩
 | cons x l =>
  rw [sl0, sl1, sl2]
  by_cases e : x = 47
  ·rw [if_pos e, if_pos e, if_pos e]
   exact ⟨fun h => (nomatch h), fun h => by
    induction l with
    | nil => rfl
    | cons y l ih =>
     rw [sl2] at h
     rw [sl1]
     by_cases e2 : y = 47
     ·rw [if_pos e2] at h; cases h
     ·rw [if_neg e2] at h ⊢; exact h⟩
  ·rw [if_neg e, if_neg e, if_neg e]; exact ⟨fun h => h, fun h => h⟩
theorem sl_no : ∀ {b : List UInt8}, sl 0 b = true → ∀ i, i + 3 ≤ b.length → (b.drop i).take 3 ≠ [47, 47, 47]
 | [], _, i, h, _ => by simp at h
 | [_], _, 0, h, _ => by simp at h
 | [_, _], _, 0, h, _ => by simp at h
 | x :: y :: z :: b, hs, 0, h, e => by
  have e' : [x, y, z] = [47, 47, 47] := e
  injection e' with e1 e'
  injection e' with e2 e'
  injection e' with e3 e'
  rw [sl0, if_pos e1, sl1, if_pos e2, sl2, if_pos e3] at hs
  cases hs
 | x :: b, hs, i + 1, h, e => by
  rw [List.drop_succ_cons] at e
  refine sl_no (b := b) ?_ i (by rw [List.length_cons] at h; omega) e
  rw [sl0] at hs
  split at hs
  ·exact sl_down.2 hs
  ·exact hs
section
noncomputable def lawS : Sem' := fun bud args H Q R => bud = 200 ∧ ∃ ns : List Int, args = [.lst (ns.map .int)] ∧ ns.length ≤ 63 ∧ H = [] ∧ ∀ H', Q (.bool true) H'
section
variable {P : CP} {w : World} {c : FnC} {bud : Nat} {Q : PF} {R : PR} {st : St} {ns gl : List Str} {i j : Nat} {x y : Str} {px py pt pos : Pos} {kt : Nat} {iter : Expr} {body : List Stmt}
theorem sForR2 (I : Nat → PU) {e : Expr} {p : Pos} {f : Nat} (ok : c.Ok) (hn : c.ns = ns) (hg : Glb c gl) (hf : Nth gl f "range") (hx : Nth ns j x)
  (h : Ev (GP P w) c bud e (fun v st1 => ∃ n : Nat, n ≤ 100000 ∧ v = .int (n : Int) ∧ st1.H.length = st.H.length ∧ Walk (GP P w) c bud body ((List.range n).map fun i : Nat => .int (i : Int)) (kT1 j) I Q R st1) R st)
  (he : ∀ env, eval (.Call (.Name "range" p) [e] [] px) env = (do callWith px (← eval (.Name "range" p) env) [] (backTo px (starEach [e] env)) (backToKw px (keywordEach [] env))) := by intro _; rfl)
  (h1 : ∀ env, starEach [e] env = (false, eval e env) :: starEach [] env := by intro _; rfl) (hs : ∀ env x, foldedSetIterable (.Call (.Name "range" p) [e] [] px) env x = pure x := by intro _ _; rfl) :
  Es (GP P w) c bud (.For (.Name x pt) (.Call (.Name "range" p) [e] [] px) body [] pos) Q R st :=
 for_of I ok (asg_t1 ok hn hx) (Evi_ty (T := "range") (Ev_gu ok hg hf b_range ⟨rfl, fun r E F s rk a => wpP_mono (h r E F s rk a) (fun v s1 ⟨E1, F1, st1, av, g1, a1, c1, n, hz, e, q1, q2⟩ => ⟨E1, F1, st1, av, g1, a1, c1, by subst e; exact call_range hz ⟨q1, q2⟩⟩) fun _ _ z => z⟩) he h1) hs
theorem Cmp_said {G : Gl} {Q : PV} {R : PR} {b : List UInt8} {f : Bool} {v : AV} (h : Said b f v) (q : Q (.bool true) st) : Cmp G c bud .Eq v v Q R st := by
 obtain ⟨p1, p2⟩ := h.pln
 rcases h.kind with ⟨vs, rfl⟩ | ⟨vs, rfl⟩ | ⟨x, rfl⟩
 ·exact Cmp_eq_lst p1 (Nat.le_of_succ_le p2) q
 ·exact Cmp_eq_tup p1 (Nat.le_of_succ_le p2) q
 ·exact Cmp_eq_str (by rw [beq_self_eq_true]; exact q)
end
theorem ok_law (w : World) : OK (GG w) 999 lawS := by
 refine mkOK ["_law_deck", "_law_draw", "_law_piece", "_law_whites", "_law_heard", "_law_things", "range", "len"] ["script", "deck", "octets", "turn"] 1 ⟨_, _, _, rfl⟩ rfl (by kernel_rfl) rfl (fun vs hv => by obtain ⟨a, rfl⟩ := len1 hv; rfl) ?_
 rintro c ok hn hg _ _ _ Q R ⟨rfl, ns, rfl, hns, rfl, q⟩ hlt
 refine ⟨[_, _, _, _], ⟨rfl, rfl⟩, ?_⟩
 refine xCons ?_
 refine sTup2 ok hn (.s .z) (.s (.s .z)) ?_
 refine vTup ?_
 refine aCons ?_
 refine vCallN ?_
 refine Ev_gr ok hg .z g__law_deck ?_
 refine wFn (by kernel_rfl) ?_
 refine aCons ?_
 refine Ev_l0 ok hn ?_
 refine aNil ?_
 refine calFn ok (OK.lift (G := GP decP w) (ok_deck w)) ?_
 refine ⟨199 - 1, ns, rfl, rfl, hns, fun m is hz => ?_⟩
 refine aCons ?_
 refine Ev_bytes ?_
 refine aNil ?_
 refine ⟨Nat.le_of_ble_eq_true rfl, ?_⟩
 refine tsN (.s (.s .z)) (.s .z) ?_
 refine xCons ?_
 have e0 : ([] : List AO) ++ [dck w (([] : List AO).length + 1) m, nums is] = [dck w 1 m, nums is] := rfl
 rw [e0]
 show Es (GP decP w) c 200 _ _ _ ⟨[_, .obj 0, _, _], _⟩
 have hd : ∀ (m : Int) (is : List Int), ([dck w 1 m, nums is] : List AO)[0]? = some (dck w 1 m) := fun _ _ => rfl
 have hk : ∀ (m : Int) (is : List Int), ([dck w 1 m, nums is] : List AO)[1]? = some (nums is) := fun _ _ => rfl
 have e1 : ∀ (m m' : Int) (is is' : List Int), dkS w [dck w 1 m, nums is] 0 1 m' is' = [dck w 1 m', nums is'] := fun _ _ _ _ => rfl
 refine sForR2 (fun i st2 => ∃ oc m is o, st2 = ⟨[.lst (ns.map .int), .obj 0, .bytes oc, o], [dck w 1 m, nums is]⟩ ∧ Pc (10 * i) oc ∧ is.length ≤ 63 ∧ o.lt 2) ok hn hg (.s (.s (.s (.s (.s (.s .z)))))) (.s (.s (.s .z))) ?_
 refine vBin ?_
 refine Ev_int ?_
 refine vCallN ?_
 refine Ev_gr ok hg (.s .z) g__law_draw ?_
 refine wFn (by kernel_rfl) ?_
 refine aCons ?_
 refine Ev_l1 ok hn ?_
 refine aCons ?_
 refine Ev_int ?_
 refine aNil ?_
 refine calFn ok (OK.lift (G := GP decP w) (ok_draw w)) ?_
 refine S_draw.mk (many := 7) (hd _ _) (hk _ _) (by decide) (by decide) hz ?_
 intro n0 is1 m1 hn0 hz1
 rw [e1]
 refine Bin_add ?_
 refine ⟨1 + n0, Nat.le_trans (Nat.add_le_add_left (Nat.le_of_lt hn0) 1) (Nat.le_of_ble_eq_true rfl), rfl, rfl, ⟨[], m1, is1, .un, rfl, Pc.nil, hz1, trivial⟩, ?_, ?_, ?_⟩
 ·rintro i _ ⟨oc, m, is, o, rfl, _⟩; rfl
 ·rintro _ ⟨oc, m, is, o, rfl, hp, hz2, ho⟩
  refine ⟨⟨ints_lt, by show 0 < 2; decide, trivial, ho, trivial⟩, fun o ho => ?_, ?_⟩
  ·rcases List.mem_cons.mp ho with rfl | ho
   ·exact .inr (show ltL 2 [.obj 1, .int m] from ⟨by show 1 < 2; decide, trivial, trivial⟩)
   ·rw [List.mem_singleton.mp ho]; exact .inr (show ltL 2 (is.map .int) from ints_lt)
  rw [List.length_map, List.length_range] at hp
  have hp := hp.le (m := 70) (Nat.mul_le_mul_left 10 (show 1 + n0 ≤ 7 from (Nat.add_comm n0 1) ▸ hn0))
  refine xCons ?_
  generalize hK : kX _ _ _ _ _ _ = K
  have tail : ∀ oc m is, oc.length ≤ 100 → Gd oc 0 → sl 0 oc = true → is.length ≤ 63 → K .next ⟨[.lst (ns.map .int), .obj 0, .bytes oc, o], [dck w 1 m, nums is]⟩ := by
   intro oc m is hb G hs hz
   rw [← hK]
   obtain ⟨v1, s1⟩ := said hb G false
   obtain ⟨v2, s2⟩ := said hb G true
   obtain ⟨o1, t1, a1⟩ := s1.law
   obtain ⟨o2, t2, a2⟩ := s2.law
   refine xCons ?_
   refine sIf ?_
   refine tCmp ?_
   refine Ev_bytes ?_
   refine Ev_l2 ok hn ?_
   refine Cmp_in_bb (fun i h => sl_no hs i h) ?_
   refine isB ?_
   refine brF rfl ?_
   refine xNil ?_
   refine xCons ?_
   refine sRet ?_
   refine vAnd ?_
   refine vCmp ?_
   refine vCallN ?_
   refine Ev_gr ok hg (.s (.s (.s (.s .z)))) g__law_heard ?_
   refine wFn (by kernel_rfl) ?_
   refine aCons ?_
   refine Ev_l2 ok hn ?_
   refine aCons ?_
   refine Ev_bool ?_
   refine aNil ?_
   refine calFn ok (ok_heard w) ?_
   refine S_heard.mk (b0 := 89) hb G s1.heard ?_
   refine vCallN ?_
   refine Ev_gr ok hg (.s (.s (.s (.s (.s .z))))) g__law_things ?_
   refine wFn (by kernel_rfl) ?_
   refine aCons ?_
   refine Ev_l2 ok hn ?_
   refine aCons ?_
   refine Ev_bool ?_
   refine aNil ?_
   refine calFn ok (ok_lthings w) ?_
   refine S_lthings.mk (b0 := 191) hb G t1 a1 ?_
   skip
   refine Cmp_said s1 ?_
   refine Tru_bool ?_
   refine brT rfl ?_
   refine vCmp ?_
   refine vCallN ?_
   refine Ev_gr ok hg (.s (.s (.s (.s .z)))) g__law_heard ?_
   refine wFn (by kernel_rfl) ?_
   refine aCons ?_
   refine Ev_l2 ok hn ?_
   refine aCons ?_
   refine Ev_bool ?_
   refine aNil ?_
   refine calFn ok (ok_heard w) ?_
   refine S_heard.mk (b0 := 89) hb G s2.heard ?_
   refine vCallN ?_
   refine Ev_gr ok hg (.s (.s (.s (.s (.s .z))))) g__law_things ?_
   refine wFn (by kernel_rfl) ?_
   refine aCons ?_
   refine Ev_l2 ok hn ?_
   refine aCons ?_
   refine Ev_bool ?_
   refine aNil ?_
   refine calFn ok (ok_lthings w) ?_
   refine S_lthings.mk (by first | exact ‹_› | exact le2 ‹_› | omega) (by first | exact ‹_› | exact le2 ‹_› | omega) (by first | exact ‹_› | exact le2 ‹_› | omega) (by first | exact ‹_› | exact le2 ‹_› | omega) ?_
   refine Cmp_said s2 ?_
   skip
   exact Fin.same (H := []) (av := .bool true) trivial (q [])
  clear hK
  have hb := hp.len
  have z0 : ([37, 120] : List UInt8).length = 2 := rfl
  have hG : aut 0 oc = true := by have := hp.aut []; rw [List.append_nil] at this; exact this
  have hS : sl 0 oc = true := by have := hp.sl []; rw [List.append_nil] at this; exact this
  refine sIf ?_
  refine tCmp ?_
  refine vCallN ?_
  refine Ev_gr ok hg (.s .z) g__law_draw ?_
  refine wFn (by kernel_rfl) ?_
  refine aCons ?_
  refine Ev_l1 ok hn ?_
  refine aCons ?_
  refine Ev_int ?_
  refine aNil ?_
  refine calFn ok (OK.lift (G := GP decP w) (ok_draw w)) ?_
  refine S_draw.mk (many := 5) (hd _ _) (hk _ _) (by decide) (by decide) hz2 ?_
  intro n2 is2 m2 hn2 hz3
  rw [e1]
  refine Ev_int ?_
  refine Cmp_eq_int ?_
  refine isB ?_
  refine br (fun c1 => ?_) (fun c1 => ?_)
  refine xCons ?_
  refine sSet ok hn (.s (.s .z)) ?_
  refine vBin ?_
  refine Ev_l2 ok hn ?_
  refine Ev_bytes ?_
  refine Bin_add_bytes (by first | exact le2 ‹_› | omega) ?_
  refine sT2 ?_
  refine xNil ?_
  rotate_left
  refine xNil ?_
  rotate_left
  ·refine tail (oc ++ [37, 120]) m2 is2 ?_ ?_ ?_ hz3
   ·rw [List.length_append]; exact Nat.le_trans (Nat.add_le_add_right hb 2) (Nat.le_of_ble_eq_true rfl)
   ·show aut 0 (oc ++ [37, 120]) = true
    rw [hp.aut]; rfl
   ·rw [hp.sl]; rfl
  ·exact tail oc m2 is2 (le2 hb) hG hS hz3
 ·rintro i v _ os hv ⟨oc, m, is, o, rfl, hp, hz2, ho⟩
  have hi : i < 7 := by
   have := (List.getElem?_eq_some_iff.mp hv).1
   rw [List.length_map, List.length_range] at this
   exact Nat.lt_of_lt_of_le this ((Nat.add_comm n0 1) ▸ hn0)
  rw [List.getElem?_map] at hv
  cases hj : (List.range (1 + n0))[i]? with
  | none => rw [hj] at hv; cases hv
  | some j =>
   rw [hj] at hv; cases hv
   refine t1 (.s (.s (.s .z))) ?_
   have hd3 : ([dck w 1 m, nums is] ++ [AO.raw os])[0]? = some (dck w 1 m) := rfl
   have hk3 : ([dck w 1 m, nums is] ++ [AO.raw os])[1]? = some (nums is) := rfl
   have e3 : ∀ (m m' : Int) (is is' : List Int), dkS w ([dck w 1 m, nums is] ++ [AO.raw os]) 0 1 m' is' = [dck w 1 m', nums is'] ++ [AO.raw os] := fun _ _ _ _ => rfl
   have z1 : oc.length ≤ 60 := Nat.le_trans hp.len (Nat.mul_le_mul_left 10 (Nat.le_of_lt_succ hi))
   refine xCons ?_
   refine sSet ok hn (.s (.s .z)) ?_
   refine vBin ?_
   refine vBin ?_
   refine Ev_l2 ok hn ?_
   refine vCallN ?_
   refine Ev_gr ok hg (.s (.s .z)) g__law_piece ?_
   refine wFn (by kernel_rfl) ?_
   refine aCons ?_
   refine Ev_l1 ok hn ?_
   refine aNil ?_
   refine calFn ok (OK.lift (G := GP decP w) (ok_piece w)) ?_
   refine S_piece.mk (b0 := 198) hd3 hk3 (by decide) hz2 ?_
   intro s is2 m2 hs hz3
   rw [e3]
   have z2 := hs.len
   have z3 : (oc ++ s).length ≤ 68 := by rw [List.length_append]; exact Nat.add_le_add z1 z2
   have hd4 : ([dck w 1 m2, nums is2] ++ [AO.raw os])[0]? = some (dck w 1 m2) := rfl
   have hk4 : ([dck w 1 m2, nums is2] ++ [AO.raw os])[1]? = some (nums is2) := rfl
   refine Bin_add_bytes (by first | exact le2 ‹_› | omega) ?_
   refine vSub ?_
   refine Ev_gr ok hg (.s (.s (.s .z))) g__law_whites ?_
   refine vCallN ?_
   refine Ev_gr ok hg (.s .z) g__law_draw ?_
   refine wFn (by kernel_rfl) ?_
   refine aCons ?_
   refine Ev_l1 ok hn ?_
   refine aCons ?_
   refine vCallN ?_
   refine Ev_gu ok hg (.s (.s (.s (.s (.s (.s (.s .z))))))) b_len ?_
   refine wBi ?_
   refine aCons ?_
   refine Ev_gr ok hg (.s (.s (.s .z))) g__law_whites ?_
   refine aNil ?_
   obtain ⟨ob, cs, nn, w1, w2, w3, w4, w5⟩ := whites_at (w := w)
   refine Cal_len_tupK 12 w1 w2 w3 w4 (by decide) ?_
   refine aNil ?_
   refine calFn ok (OK.lift (G := GP decP w) (ok_draw w)) ?_
   refine S_draw.mk (many := 12) hd4 hk4 (by decide) (by decide) hz3 ?_
   intro k is3 m3 hk0 hz4
   rw [e3]
   obtain ⟨t, t', g1, g2⟩ := w5.get (w4.symm ▸ hk0)
   have z4 := g2.len
   skip
   refine Item_tupK k w1 w2 w3 rfl (Nat.lt_of_lt_of_le hk0 (Nat.le_of_ble_eq_true rfl)) g1 (x := .bytes t) (fun E F => by simp [CV]) ?_
   refine Bin_add_bytes (by first | exact le2 ‹_› | omega) ?_
   refine sT2 ?_
   refine xNil ?_
   refine ⟨_, rfl, ?_⟩
   refine ⟨rfl, ?_⟩
   exact ⟨_, m3, is3, _, rfl, ((hp.add hs).add g2).le (Nat.le_refl _), hz4, trivial⟩
end
noncomputable def tRun (stp : SharedT → Thread → Option (SharedT × Thread)) (ok : Thread → Bool) : Nat → SharedT → Thread → Option SharedT
 | 0, _, _ => none
 | n + 1, s, t => match through t with
  | true => some s
  | false => match ok t with
   | false => none
   | true => match stp s t with
    | some (s', t') => tRun stp ok n s' t'
    | none => none
theorem tRun_of {tb : String → Option Builtin} {p : Program} {w : World} {n₀ : Nat} {ann : Option Value} : ∀ {n : Nat} {s r : SharedT} {t : Thread}, tRun (stepT (denote tb) p w) (stepOk n₀ ann) n s t = some r → topRun tb p w n₀ ann n s.abs t = some r.abs
 | 0, _, _, _, h => by cases h
 | n + 1, s, r, t, h => by
  unfold tRun at h
  unfold topRun
  cases ht : through t with
  | true => rw [ht] at h; cases h; rfl
  | false =>
   rw [ht] at h
   cases hk : stepOk n₀ ann t with
   | false => rw [hk] at h; cases h
   | true =>
    rw [hk] at h
    cases hs : stepT (denote tb) p w s t with
    | none => rw [hs] at h; cases h
    | some r => obtain ⟨s₂, t₂⟩ := r; rw [hs] at h; rw [stepT_spec hs]; exact tRun_of h
noncomputable def T0 (P : Params) : BT := (boot_heap P).objs.toList.zipIdx.foldl (fun t x => t.ins x.2 x.1) .nil
noncomputable def S0 (w : World) (os : OsState) : SharedT := ⟨T0 w.params, 11, (boot_heap w.params).life, Array.mk [], boot_drawn, boot_toks, os⟩
theorem S0_abs (w : World) (os : OsState) : (S0 w os).abs = ⟨boot_heap w.params, Array.mk [], boot_drawn, boot_toks, os⟩ := by kernel_rfl
theorem size0 (w : World) : ((boot_heap w.params).isNs mainGlobals && (Array.mk [] : Array GenState).size == 0, (boot_heap w.params).objs.size, (boot_heap w.params).nsMap mainGlobals "__annotations__") = (true, 11, some (.ref 6)) := by kernel_rfl
theorem open0 : opening pw = plainProg pw.main.scope.names := by kernel_rfl
theorem fence0 (s : Shared) : fenceModules? pw s = some s := by kernel_rfl
noncomputable def fStep (w : World) : SharedT → Thread → Option (SharedT × Thread) := PySem.W.Fast.tw10156331382660048174 (PySem.W.Fast.tw11892475500146522536 PySem.W.Fast.tw14364793385576792824) pw w
theorem fStep_eq (w : World) : stepT (denote treeTable) pw w = fStep w := by
 unfold fStep
 rw [PySem.W.Fast.te10156331382660048174, PySem.W.Fast.te11892475500146522536, PySem.W.Fast.te14364793385576792824]
noncomputable def look1 (w : World) (s : Shared) : Bool := staticsOk (importedModules pw.main.body) (boot_heap w.params) s.heap && namesBound pw s.heap && gensDone s && laidKept (boot_heap w.params) s.heap
noncomputable def qv : Program := view pw [118]
noncomputable def kget (S : SharedT) (a : Addr) : Option Obj := cond (Nat.blt a S.n) ((S.tree.get a).elim (S.abs.heap.get? a) alive) none
theorem kget_eq (S : SharedT) : S.abs.heap.get? = kget S := funext fun a => by
 delta kget
 cases h : Nat.blt a S.n with
 | true => cases g : S.tree.get a with
  | some o => exact abs_get (Nat.blt_eq.mp h) g
  | none => rfl
 | false => exact abs_get_none fun x => Bool.noConfusion (h.symm.trans (Nat.blt_eq.mpr x))
theorem run1 (w : World) (os : OsState) : (tRun (fStep w) (PySem.W.Fast.tw6613529449190102663 11 (some (.ref 6))) 7000 (S0 w os) (topStub pw)).map (fun S => ((look1 w S.abs, PySem.W.Fast.tw4187177175401517315 qv Kloose (importedModules pw.main.body) (fun _ => true) true S.abs), Kas.map (kget S))) = some ((true, openGood qv Kloose), (Kd w.params).map (fun p => some p.2)) := by kernel_rfl
theorem left_abs {p q : Program} {loose : List Str} {Xt : Shared → Bool} {α : Type} {Yf : Shared → α} {Ya : World → α} {N : Nat} {g0 : Bool} {H₀ : Params → Heap} {gs₀ : Array GenState} {d₀ : Drawn} {k₀ : Nat} {m₀ : Nat} {ann : Option Value}
  (open_ : ∀ w : World, (fencedOpening treeTable p w N).map (fun s => (s.heap, s.gens, s.drawn, s.toks)) = some (H₀ w.params, gs₀, d₀, k₀))
  (size : ∀ w : World, ((H₀ w.params).isNs mainGlobals && gs₀.size == 0, (H₀ w.params).objs.size, (H₀ w.params).nsMap mainGlobals "__annotations__") = (true, m₀, ann))
  (run : ∀ (w : World) (os : OsState), ∃ r : Shared, topRun treeTable p w m₀ ann N ⟨H₀ w.params, gs₀, d₀, k₀, os⟩ (topStub p) = some r ∧
   ((staticsOk (importedModules p.main.body) (H₀ w.params) r.heap && namesBound p r.heap && gensDone r && laidKept (H₀ w.params) r.heap) = true ∧ openSeen q loose (importedModules p.main.body) Xt g0 r = openGood q loose) ∧ Yf r = Ya w) : LeftO p q loose Xt Yf Ya N g0 := fun w => by
 obtain ⟨⟨h, gs, d, k, os⟩, e, e'⟩ := Option.map_eq_some_iff.mp (open_ w)
 obtain ⟨rfl, rfl, rfl, rfl⟩ : h = H₀ w.params ∧ gs = gs₀ ∧ d = d₀ ∧ k = k₀ := by simpa using e'
 obtain ⟨z1, z2, z3⟩ : _ ∧ _ ∧ _ := by simpa only [Prod.mk.injEq] using size w
 obtain ⟨r, h1, ⟨l1, l2⟩, l3⟩ := run w os
 have t : topFrom treeTable p w N ⟨H₀ w.params, gs, d, k, os⟩ = some r := by
  unfold topFrom
  dsimp only
  rw [z1, z2, z3, h1]
  show (match staticsOk (importedModules p.main.body) (H₀ w.params) r.heap && namesBound p r.heap && gensDone r && laidKept (H₀ w.params) r.heap with | true => _ | false => _) = _
  rw [l1]
 unfold openEnds
 rw [e]
 show (topFrom treeTable p w N _).map _ = _
 rw [t]
 exact congrArg some (Prod.ext l2 l3)
theorem run_abs {tb : String → Option Builtin} {p : Program} {w : World} {m₀ : Nat} {ann : Option Value} {N : Nat} {S₀ : SharedT} {H : Shared} {f : SharedT → Thread → Option (SharedT × Thread)} {g : Thread → Bool} {β γ δ : Type} {L : Shared → β} {U U' : Shared → γ} {V : Shared → δ} {V' : SharedT → δ} {x : β} {y : γ} {z : δ}
  (e : S₀.abs = H) (hf : stepT (denote tb) p w = f) (hg : stepOk m₀ ann = g) (hU : U = U') (hV : ∀ S, V S.abs = V' S) (h : (tRun f g N S₀ (topStub p)).map (fun S => ((L S.abs, U' S.abs), V' S)) = some ((x, y), z)) : ∃ r, topRun tb p w m₀ ann N H (topStub p) = some r ∧ (L r = x ∧ U r = y) ∧ V r = z := by
 obtain ⟨S, a, b⟩ := Option.map_eq_some_iff.mp h
 subst hf hg hU e
 simp only [Prod.mk.injEq] at b
 exact ⟨S.abs, tRun_of a, b.1, (hV S).trans b.2⟩
theorem seen_eq : openSeen qv Kloose (importedModules pw.main.body) (fun _ => true) true = PySem.W.Fast.tw4187177175401517315 qv Kloose (importedModules pw.main.body) (fun _ => true) true := by
 rw [PySem.W.Fast.te4187177175401517315]
theorem ok_eq : stepOk 11 (some (.ref 6)) = PySem.W.Fast.tw6613529449190102663 11 (some (.ref 6)) := by
 rw [PySem.W.Fast.te6613529449190102663]
theorem left0 : LeftO pw qv Kloose (fun _ => true) (fun s => Kas.map s.heap.get?) (fun w => (Kd w.params).map (fun p => some p.2)) 7000 :=
 left_abs (boot_open open0 rfl fence0) size0 fun w os => run_abs (L := look1 w) (S0_abs w os) (fStep_eq w) ok_eq seen_eq (fun S => congrArg (Kas.map ·) (kget_eq S)) (run1 w os)
theorem kas (P : Params) : Kas = (Kd P).map (·.1) := by kernel_rfl
abbrev rw0 := PySem.Challenge.rw_nt0506_01
theorem look0 : PySem.W.Fast.tw12908688711261696721 pw = true := by
 delta PySem.W.Fast.tw12908688711261696721
 exact look_both (look_both (by kernel_rfl) (by decide +kernel)) (by decide +kernel)
theorem said0 : rw0.wellSaid = true := by
 rw [PySem.W.Fast.te9446332074065402090]
 delta PySem.W.Fast.tw9446332074065402090 PySem.W.Fast.tw17960256430627541270 PySem.W.Fast.tw2436336058641802641
 rw [show PySem.W.Fast.tw12908688711261696721 (PySem.W.Fast.tw2368527892694137696 rw0).prog = true from look0]
 kernel_rfl
theorem ok0 : (chainsOk qv && opensWell rw0.row.prog && (frees rw0.row.toRowW && rw0.row.toRowW.within.isEmpty)) = true := by
 kernel_rfl
theorem recs0 (h : Heap) : RecFacts [] h := ⟨fun x hx => (nomatch hx), fun x hx => (nomatch hx), fun c c' a hc => (nomatch hc), fun c fs hf => (nomatch hf)⟩
theorem prom0 : rw0.row.toRowW.promised := by w_witness2
theorem left1 : LeftO rw0.row.prog qv Kloose (fun _ => true) (fun s => Kas.map s.heap.get?) (fun w => (Kd w.params).map (fun p => some p.2)) 7000 := left0
noncomputable def lawDef : DefRec := match kTop 118 with
 | some (.FunctionDef n ps b _ _ _ sc _ _ pos) => ⟨n, ps, b, sc, pos⟩
 | _ => ⟨default, default, [], default, default⟩
theorem law1 : lawDef.name = Str.ofString "law" := by kernel_rfl
theorem law2 : defOf qv rw0.row.name = some (lawDef, []) := by kernel_rfl
theorem law3 : rw0.row.prog.theDef rw0.row.name = some (lawDef.params, lawDef.body, lawDef.scope) := by kernel_rfl
theorem law4 : kwWritten? lawDef.params.kwonlyargs lawDef.params.kw_defaults = some [] := by kernel_rfl
theorem writes0 : (!rw0.row.writes || rw0.row.records.isEmpty) = true := by kernel_rfl
theorem bare0 : rw0.row.prog.bare := ⟨rfl, rfl, rfl, rfl, rfl, by kernel_rfl⟩
theorem recsN (s : Shared) : RecFacts rw0.row.records s.heap := recs0 _
theorem hd0 (call : WalkP qv Kloose (fun _ _ => True) (fun w h => (Kd w.params).In h) rw0.row.toRowW lawDef []) : rw0.Holds :=
 holds_law said0 fun said => Mine.PySem.W.holds_open (r := rw0.row) (q := qv) (loose := Kloose) (Xt := fun _ => true) (XP := fun _ _ => True) (Yf := fun s => Kas.map s.heap.get?) (Ya := fun w => (Kd w.params).map (fun p => some p.2)) (YP := fun w h => (Kd w.params).In h) (N := 7000)
  left1 (fun w s e => Frag.in_of (kas w.params) e) (fun w h h' x k => x.keeps k) (fun _ _ => trivial) (fun _ _ _ _ _ => trivial) law2 law3 law4 (fun s _ => recsN s) writes0 said ok0 bare0 prom0 call
theorem hd1 (h : ∀ w, OK (GG w) 999 lawS) : rw0.Holds := hd0 (by
 intro w s₀ s₁ mg mb G Y a o pm cd doc dV kV ho hd hcd hD hmg hg args vals as hpre hlay hrd hwl hlo
 wrow_args hpre hlay hrd hwl hlo
 rename_i ns _ _ _ _ _ _ _ l vs _ hl _ _ _ hi _ hlen _
 have hlen' : ns.length ≤ 63 := by omega
 have ha : a = 999 := by
  have := mg_of Y G.T.g (show nsIn (Kd w.params) mainGlobals (Str.ofString "law") = some (some (.ref 999)) by kernel_rfl)
  rw [law1, this] at hmg
  cases hmg; rfl
 subst ha
 obtain ⟨ol, hol, hlc, n, hld⟩ := id hl
 have S : Sta (Kd w.params) s₁.heap := ⟨Y, G.T.nolimit, mg, mb, G.T.g, G.T.b, G.T.builtins⟩
 have hp : HpOK [] [] [(l, ol)] [] s₁.heap := {
  len := rfl, nd := by simp, offE := by simp, ltf := by simp, rep := by simp
  offF := fun p hp => by simp
  froz := fun p hp => by simp at hp; subst hp; exact hol }
 have hcv : CVs [] [(l, ol)] [.lst (ns.map .int)] [.ref l] := CVs.one (by
  simp only [CV]
  exact ⟨l, vs, ol, rfl, by simp, ⟨hlc, n, hld⟩, cvs_ints hi⟩)
 refine wpP_call (codeP_mono (h w callerA [] [] [(l, ol)] [] [.lst (ns.map .int)] [.ref l] s₁ 200 (fun v H' => v = .bool true) (fun _ _ => False) rfl rfl (by decide +kernel) (by decide +kernel) hp (show Sta (Kd w.params) s₁.heap from S) trivial hcv ⟨rfl, ns, rfl, hlen', rfl, fun _ => rfl⟩) fun r s' hr => ?_)
 rcases r with e | (v | _ | _ | _)
 ·obtain ⟨_, _, _, _, _, _, _, _, _, q⟩ := hr
  exact q.elim
 ·exact hr.elim
 ·exact hr.elim
 ·exact hr.elim
 ·obtain ⟨E', F', H', av, g, af, hv, q⟩ := hr
  subst q
  simp only [CV] at hv
  subst hv
  refine ⟨.inl ⟨_, .bool true, [], rfl, fun cls => rfl, ReadsW.bool true, ?_, fun _ => ⟨List.nodup_nil, by simp⟩⟩, .of_keep fun b o e => af.keep b o e (by simp) (by simp [frs]), af.os, .of_eq (af.gens.trans hg)⟩
  wrow_post)
end Mine
theorem PySem.Challenge.cw_nt0506_01_holds : PySem.Challenge.rw_nt0506_01.Holds :=
 Mine.hd1 Mine.ok_law
