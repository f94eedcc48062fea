import PyProof.Rows.All
import Wide.All
import OpenK.AllK
import Wide.FinOn
import HandS.ForMost
import HandS.Exc
import HandS.TryOnly
import HandS.ExcOwn
import HandS.WordsExc
import HandS.Wide
import HandS.TupAny
import HandS.TupMul
import HandS.IsInst
import HandS.SortInts
import HandS.Flow
import HandS.Style
import HandS.SetFor
import KE.KTupSum
import PyProof.ReprRoads
import HandS.Walk
import HandS.Zip
import KE.GoesEnum
import HandS.Star
import HandS.Ends
import HandS.Codes
import PySem.Challenge.RW_basketrope_k00_towers_judged
section
set_option Elab.async false
set_option linter.all false
set_option maxRecDepth 100000
set_option maxHeartbeats 4000000
namespace Bk
open PySem PySem.Spec PyProof.Rows L2

/-! ## plain values -/
inductive D where
  | non | bl (b : Bool) | int (i : Int) | str (x : Str)
  | tup (ds : List D) | lst (ds : List D) | dct (ks : List Key) (ds : List D) | ref (n : Nat)
  | scr (ns : List Int)     -- the script

/-- mutable objects, by number -/
inductive O where
  | lst (ds : List D)

/-- a raised exception of the program -/
structure X where
  cls : Str
  fs : List (Str × D)

/-- what a name holds -/
inductive Slot where
  | no | fz (d : D) | own (ds : List D) | ownK (ks : List Key) (ds : List D)

/-- ghost: avoided from outside; owned by this frame; the addresses of the mutable objects -/
structure Gh where
  A : Addr → Prop
  W : Addr → Prop
  al : List Addr
def Gh.Z (y : Gh) (a : Addr) : Prop := y.A a ∨ y.W a ∨ a ∈ y.al

def KTup (K : PySem.W.Frag) (a : Addr) (xs : List V) : Prop :=
  ∃ (o : Obj) (its : Array Value) (n : Nat), K.lookup a = some o ∧ o.cls = .type "tuple" ∧ o.data = .seq its n ∧ its.size ≤ sizeLine ∧ Vals xs its.toList
def TupAt (K : PySem.W.Frag) (y : Gh) (H : Hp) (a : Addr) (xs : List V) : Prop := (¬ y.Z a ∧ H a = some (.tup xs)) ∨ KTup K a xs
theorem TupAt.sq {K : PySem.W.Frag} {y : Gh} {H : Hp} {a : Addr} {xs : List V} (h : TupAt K y H a xs) : SqT K H a xs := by
  rcases h with h | h
  · exact .inl (.inl h.2)
  · exact .inr h

def ScrAt (K : PySem.W.Frag) (y : Gh) (H : Hp) (a : Addr) (xs : List V) : Prop := (¬ y.Z a ∧ ∃ o, H a = some (.frz o (.lst xs))) ∨
  ∃ (o : Obj) (its : Array Value) (n : Nat), K.lookup a = some o ∧ o.cls = .type "list" ∧ o.dict = none ∧ o.data = .seq its n ∧ its.size ≤ sizeLine ∧ Vals xs its.toList
theorem ScrAt.sq {K : PySem.W.Frag} {y : Gh} {H : Hp} {a : Addr} {xs : List V} (h : ScrAt K y H a xs) : SqL K H a xs := by
  rcases h with h | h
  · exact .inl (.inr h.2)
  · exact .inr h
mutual
def Rep (K : PySem.W.Frag) (y : Gh) (H : Hp) : D → V → Prop
  | .non, v => v = .non
  | .bl b, v => v = .bl b
  | .int i, v => v = .int i
  | .str x, v => v = .str x
  | .tup ds, v => ∃ a vs, v = .ref a ∧ TupAt K y H a vs ∧ Reps K y H ds vs
  | .lst ds, v => ∃ a vs, v = .ref a ∧ ¬ y.Z a ∧ H a = some (.lst vs) ∧ Reps K y H ds vs
  | .dct ks ds, v => ∃ a vs, v = .ref a ∧ ¬ y.Z a ∧ H a = some (.dK (ks.zip vs)) ∧ ks.length = ds.length ∧ Reps K y H ds vs
  | .ref n, v => ∃ a, y.al[n]? = some a ∧ v = .ref a
  | .scr ns, v => ∃ a, v = .ref a ∧ ScrAt K y H a (ns.map V.int)
def Reps (K : PySem.W.Frag) (y : Gh) (H : Hp) : List D → List V → Prop
  | [], vs => vs = []
  | d :: ds, vs => ∃ v ws, vs = v :: ws ∧ Rep K y H d v ∧ Reps K y H ds ws
end

/-- the heap and the ghost go on: what was tracked, and is no mutable object, is as it was -/
structure Ext (y : Gh) (H : Hp) (y' : Gh) (H' : Hp) : Prop where
  eA : y'.A = y.A
  eW : y'.W = y.W
  pre : ∃ t, y'.al = y.al ++ t ∧ ∀ a, a ∈ t → H a = none
  keep : ∀ a o, H a = some o → a ∉ y.al → H' a = some o
  dom : ∀ a, H' a = none → H a = none

theorem Ext.refl (y : Gh) (H : Hp) : Ext y H y H := ⟨rfl, rfl, ⟨[], by simp, fun _ h => by simp at h⟩, fun _ _ h _ => h, fun _ h => h⟩
theorem Ext.trans {y y1 y2 : Gh} {H H1 H2 : Hp} (a : Ext y H y1 H1) (b : Ext y1 H1 y2 H2) : Ext y H y2 H2 := by
  obtain ⟨t1, e1, n1⟩ := a.pre
  obtain ⟨t2, e2, n2⟩ := b.pre
  refine ⟨b.eA.trans a.eA, b.eW.trans a.eW, ⟨t1 ++ t2, by rw [e2, e1, List.append_assoc], fun c hc => ?_⟩, fun c o h hn => ?_, fun c h => a.dom c (b.dom c h)⟩
  · rcases List.mem_append.mp hc with h | h
    · exact n1 c h
    · exact a.dom c (n2 c h)
  · refine b.keep c o (a.keep c o h hn) ?_
    rw [e1]
    intro hm
    rcases List.mem_append.mp hm with q | q
    · exact hn q
    · rw [n1 c q] at h; cases h
theorem Ext.Z {y y' : Gh} {H H' : Hp} (e : Ext y H y' H') {a : Addr} {o : HO} (h : H a = some o) (n : ¬ y.Z a) : ¬ y'.Z a := by
  obtain ⟨t, et, nt⟩ := e.pre
  intro z
  unfold Gh.Z at z n
  rw [e.eA, e.eW, et] at z
  rcases z with z | z | z
  · exact n (.inl z)
  · exact n (.inr (.inl z))
  · rcases List.mem_append.mp z with q | q
    · exact n (.inr (.inr q))
    · rw [nt a q] at h; cases h
theorem Ext.at {y y' : Gh} {H H' : Hp} (e : Ext y H y' H') {a : Addr} {o : HO} (n : ¬ y.Z a) (h : H a = some o) : ¬ y'.Z a ∧ H' a = some o :=
  ⟨e.Z h n, e.keep a o h fun z => n (.inr (.inr z))⟩
theorem Ext.tup {K : PySem.W.Frag} {y y' : Gh} {H H' : Hp} (e : Ext y H y' H') {a : Addr} {xs : List V} (h : TupAt K y H a xs) : TupAt K y' H' a xs := by
  rcases h with h | h
  · exact .inl (e.at h.1 h.2)
  · exact .inr h

/-- .. behind statements: what this frame owns may have changed, too -/
structure Evo (y : Gh) (H : Hp) (y' : Gh) (H' : Hp) : Prop where
  eA : y'.A = y.A
  pre : ∃ t, y'.al = y.al ++ t ∧ ∀ a, a ∈ t → H a = none
  keep : ∀ a o, H a = some o → a ∉ y.al → ¬ y.W a → H' a = some o
  dom : ∀ a, H' a = none → H a = none
  wf : ∀ a, y'.W a → y.W a ∨ H a = none
theorem Ext.evo {y y' : Gh} {H H' : Hp} (e : Ext y H y' H') : Evo y H y' H' := ⟨e.eA, e.pre, fun a o h n _ => e.keep a o h n, e.dom, fun a w => .inl (by rw [← e.eW]; exact w)⟩
theorem Evo.refl (y : Gh) (H : Hp) : Evo y H y H := (Ext.refl y H).evo
theorem Evo.trans {y y1 y2 : Gh} {H H1 H2 : Hp} (a : Evo y H y1 H1) (b : Evo y1 H1 y2 H2) : Evo y H y2 H2 := by
  obtain ⟨t1, e1, n1⟩ := a.pre
  obtain ⟨t2, e2, n2⟩ := b.pre
  refine ⟨b.eA.trans a.eA, ⟨t1 ++ t2, by rw [e2, e1, List.append_assoc], fun c hc => ?_⟩, fun c o h hn hw => ?_, fun c h => a.dom c (b.dom c h), fun c w => ?_⟩
  · rcases List.mem_append.mp hc with h | h
    · exact n1 c h
    · exact a.dom c (n2 c h)
  · refine b.keep c o (a.keep c o h hn hw) ?_ fun w => ?_
    · rw [e1]
      intro hm
      rcases List.mem_append.mp hm with q | q
      · exact hn q
      · rw [n1 c q] at h; cases h
    · rcases a.wf c w with q | q
      · exact hw q
      · rw [q] at h; cases h
  · rcases b.wf c w with q | q
    · exact a.wf c q
    · exact .inr (a.dom c q)
theorem Evo.at {y y' : Gh} {H H' : Hp} (e : Evo y H y' H') {a : Addr} {o : HO} (n : ¬ y.Z a) (h : H a = some o) : ¬ y'.Z a ∧ H' a = some o := by
  obtain ⟨t, et, nt⟩ := e.pre
  refine ⟨fun z => ?_, e.keep a o h (fun z => n (.inr (.inr z))) fun z => n (.inr (.inl z))⟩
  unfold Gh.Z at z n
  rw [e.eA, et] at z
  rcases z with z | z | z
  · exact n (.inl z)
  · rcases e.wf a z with q | q
    · exact n (.inr (.inl q))
    · rw [q] at h; cases h
  · rcases List.mem_append.mp z with q | q
    · exact n (.inr (.inr q))
    · rw [nt a q] at h; cases h
theorem Evo.tup {K : PySem.W.Frag} {y y' : Gh} {H H' : Hp} (e : Evo y H y' H') {a : Addr} {xs : List V} (h : TupAt K y H a xs) : TupAt K y' H' a xs := by
  rcases h with h | h
  · exact .inl (e.at h.1 h.2)
  · exact .inr h

section
variable {K : PySem.W.Frag} {y y' : Gh} {H H' : Hp}
mutual
theorem Rep.monoS (e : Evo y H y' H') : ∀ (d : D) (v : V), Rep K y H d v → Rep K y' H' d v
  | .non, _, h => by simpa only [Rep] using h
  | .bl _, _, h => by simpa only [Rep] using h
  | .int _, _, h => by simpa only [Rep] using h
  | .str _, _, h => by simpa only [Rep] using h
  | .tup ds, _, h => by
    simp only [Rep] at h ⊢
    obtain ⟨a, vs, rfl, h1, h2⟩ := h
    exact ⟨a, vs, rfl, e.tup h1, Reps.monoS e ds vs h2⟩
  | .lst ds, _, h => by
    simp only [Rep] at h ⊢
    obtain ⟨a, vs, rfl, hz, h1, h2⟩ := h
    exact ⟨a, vs, rfl, (e.at hz h1).1, (e.at hz h1).2, Reps.monoS e ds vs h2⟩
  | .dct ks ds, _, h => by
    simp only [Rep] at h ⊢
    obtain ⟨a, vs, rfl, hz, h1, hl, h2⟩ := h
    exact ⟨a, vs, rfl, (e.at hz h1).1, (e.at hz h1).2, hl, Reps.monoS e ds vs h2⟩
  | .scr ns, _, h => by
    simp only [Rep] at h ⊢
    obtain ⟨a, rfl, h1⟩ := h
    refine ⟨a, rfl, ?_⟩
    rcases h1 with ⟨z, o, h1⟩ | h1
    · exact .inl ⟨(e.at z h1).1, o, (e.at z h1).2⟩
    · exact .inr h1
  | .ref n, _, h => by
    simp only [Rep] at h ⊢
    obtain ⟨a, h1, rfl⟩ := h
    obtain ⟨t, et, _⟩ := e.pre
    refine ⟨a, ?_, rfl⟩
    rw [et]
    obtain ⟨hl, _⟩ := List.getElem?_eq_some_iff.mp h1
    rw [List.getElem?_append_left hl]
    exact h1
theorem Reps.monoS (e : Evo y H y' H') : ∀ (ds : List D) (vs : List V), Reps K y H ds vs → Reps K y' H' ds vs
  | [], _, h => by simpa only [Reps] using h
  | d :: ds, _, h => by
    simp only [Reps] at h ⊢
    obtain ⟨v, ws, rfl, h1, h2⟩ := h
    exact ⟨v, ws, rfl, Rep.monoS e d v h1, Reps.monoS e ds ws h2⟩
end

theorem Rep.mono (e : Ext y H y' H') (d : D) (v : V) (h : Rep K y H d v) : Rep K y' H' d v := Rep.monoS e.evo d v h
theorem Reps.mono (e : Ext y H y' H') (ds : List D) (vs : List V) (h : Reps K y H ds vs) : Reps K y' H' ds vs := Reps.monoS e.evo ds vs h

theorem Reps.length : ∀ {ds : List D} {vs : List V}, Reps K y H ds vs → ds.length = vs.length
  | [], _, h => by simp only [Reps] at h; subst h; rfl
  | d :: ds, _, h => by
    simp only [Reps] at h
    obtain ⟨v, ws, rfl, _, h2⟩ := h
    simp only [List.length_cons, Reps.length h2]
theorem Reps.get : ∀ {ds : List D} {vs : List V} {i : Nat} {v : V}, Reps K y H ds vs → vs[i]? = some v → ∃ d, ds[i]? = some d ∧ Rep K y H d v
  | [], _, i, v, h, e => by simp only [Reps] at h; subst h; simp at e
  | d :: ds, _, 0, v, h, e => by
    simp only [Reps] at h
    obtain ⟨w, ws, rfl, h1, h2⟩ := h
    simp at e; subst e
    exact ⟨d, rfl, h1⟩
  | d :: ds, _, i + 1, v, h, e => by
    simp only [Reps] at h
    obtain ⟨w, ws, rfl, h1, h2⟩ := h
    exact Reps.get (ds := ds) h2 (by simpa using e)
theorem Reps.at : ∀ {ds : List D} {vs : List V} {i : Nat} {d : D}, Reps K y H ds vs → ds[i]? = some d → ∃ v, vs[i]? = some v ∧ Rep K y H d v
  | [], _, i, v, h, e => by simp at e
  | d :: ds, _, 0, v, h, e => by
    simp only [Reps] at h
    obtain ⟨w, ws, rfl, h1, h2⟩ := h
    simp at e; subst e
    exact ⟨w, rfl, h1⟩
  | d :: ds, _, i + 1, v, h, e => by
    simp only [Reps] at h
    obtain ⟨w, ws, rfl, h1, h2⟩ := h
    obtain ⟨u, q1, q2⟩ := Reps.at (ds := ds) h2 (by simpa using e)
    exact ⟨u, by simpa using q1, q2⟩
theorem Reps.nil : Reps K y H [] [] := by simp only [Reps]
theorem Reps.cons {d : D} {ds : List D} {v : V} {vs : List V} (h : Rep K y H d v) (t : Reps K y H ds vs) : Reps K y H (d :: ds) (v :: vs) := by
  simp only [Reps]; exact ⟨v, vs, rfl, h, t⟩
theorem Reps.append : ∀ {ds es : List D} {vs ws : List V}, Reps K y H ds vs → Reps K y H es ws → Reps K y H (ds ++ es) (vs ++ ws)
  | [], _, _, _, h, h' => by simp only [Reps] at h; subst h; simpa using h'
  | d :: ds, _, _, _, h, h' => by
    simp only [Reps] at h
    obtain ⟨w, ws, rfl, h1, h2⟩ := h
    exact Reps.cons h1 (Reps.append h2 h')
theorem Reps.drop : ∀ (n : Nat) {ds : List D} {vs : List V}, Reps K y H ds vs → Reps K y H (ds.drop n) (vs.drop n)
  | 0, _, _, h => h
  | n + 1, [], _, h => by simp only [Reps] at h; subst h; simpa using Reps.nil
  | n + 1, d :: ds, _, h => by
    simp only [Reps] at h
    obtain ⟨w, ws, rfl, h1, h2⟩ := h
    exact Reps.drop n h2
theorem Reps.take : ∀ (n : Nat) {ds : List D} {vs : List V}, Reps K y H ds vs → Reps K y H (ds.take n) (vs.take n)
  | 0, _, _, h => by simpa using Reps.nil
  | n + 1, [], _, h => by simp only [Reps] at h; subst h; simpa using Reps.nil
  | n + 1, d :: ds, _, h => by
    simp only [Reps] at h
    obtain ⟨w, ws, rfl, h1, h2⟩ := h
    exact Reps.cons h1 (Reps.take n h2)
theorem Reps.reverse {ds : List D} {vs : List V} (h : Reps K y H ds vs) : Reps K y H ds.reverse vs.reverse := by
  induction ds generalizing vs with
  | nil => simp only [Reps] at h; subst h; simpa using Reps.nil
  | cons d ds ih =>
    simp only [Reps] at h
    obtain ⟨w, ws, rfl, h1, h2⟩ := h
    rw [List.reverse_cons, List.reverse_cons]
    exact (ih h2).append (Reps.cons h1 Reps.nil)
theorem Reps.set {d : D} {v : V} (r : Rep K y H d v) : ∀ {ds : List D} {vs : List V} (i : Nat), Reps K y H ds vs → Reps K y H (ds.set i d) (vs.set i v)
  | [], _, _, h => by simp only [Reps] at h; subst h; simpa using Reps.nil
  | d :: ds, _, 0, h => by
    simp only [Reps] at h
    obtain ⟨w, ws, rfl, h1, h2⟩ := h
    exact Reps.cons r h2
  | d :: ds, _, i + 1, h => by
    simp only [Reps] at h
    obtain ⟨w, ws, rfl, h1, h2⟩ := h
    exact Reps.cons h1 (Reps.set r i h2)
theorem Reps.eraseIdx : ∀ {ds : List D} {vs : List V} (i : Nat), Reps K y H ds vs → Reps K y H (ds.eraseIdx i) (vs.eraseIdx i)
  | [], _, _, h => by simp only [Reps] at h; subst h; simpa using Reps.nil
  | d :: ds, _, 0, h => by
    simp only [Reps] at h
    obtain ⟨w, ws, rfl, h1, h2⟩ := h
    exact h2
  | d :: ds, _, i + 1, h => by
    simp only [Reps] at h
    obtain ⟨w, ws, rfl, h1, h2⟩ := h
    exact Reps.cons h1 (Reps.eraseIdx i h2)
theorem Reps.dropLast {ds : List D} {vs : List V} (h : Reps K y H ds vs) : Reps K y H ds.dropLast vs.dropLast := by
  rw [List.dropLast_eq_take, List.dropLast_eq_take, h.length]
  exact h.take _
theorem Reps.ints {ns : List Int} : Reps K y H (ns.map D.int) (ns.map V.int) := by
  induction ns with
  | nil => exact Reps.nil
  | cons n ns ih => exact Reps.cons (by simp only [Rep]) ih
theorem Reps.replicate {ds : List D} {vs : List V} (h : Reps K y H ds vs) : ∀ n, Reps K y H (List.replicate n ds).flatten (List.replicate n vs).flatten
  | 0 => by simpa using Reps.nil
  | n + 1 => by
    rw [List.replicate_succ, List.replicate_succ, List.flatten_cons, List.flatten_cons]
    exact h.append (Reps.replicate h n)
end

/-! ## the mutable objects, the slots -/
section
variable (K : PySem.W.Frag)
def ORep (y : Gh) (H : Hp) : O → Addr → Prop
  | .lst ds, a => ∃ vs, H a = some (.lst vs) ∧ Reps K y H ds vs
/-- the store stands -/
structure Good (y : Gh) (H : Hp) (g : List O) : Prop where
  zok : ∀ a, y.Z a → ∃ o, H a = some o
  aw : ∀ a, y.W a → ¬ y.A a
  disj : ∀ a, a ∈ y.al → ¬ y.A a ∧ ¬ y.W a
  nd : y.al.Nodup
  len : y.al.length = g.length
  objs : ∀ (n : Nat) (a : Addr) (o : O), y.al[n]? = some a → g[n]? = some o → ORep K y H o a
def SlotRep (y : Gh) (H : Hp) : Slot → Option V → Prop
  | .no, _ => True
  | .fz d, s => ∃ v, s = some v ∧ Rep K y H d v
  | .own ds, s => ∃ b vs, s = some (.ref b) ∧ y.W b ∧ H b = some (.lst vs) ∧ Reps K y H ds vs
  | .ownK ks ds, s => ∃ b vs, s = some (.ref b) ∧ y.W b ∧ H b = some (.dK (ks.zip vs)) ∧ ks.length = ds.length ∧ Reps K y H ds vs
end
def Slot.owns : Slot → Bool
  | .own _ => true
  | .ownK _ _ => true
  | _ => false
structure SR (K : PySem.W.Frag) (y : Gh) (H : Hp) (r : List Slot) (σ : L2.St) : Prop where
  len : r.length = σ.length
  at_ : ∀ (i : Nat) (s : Slot), r[i]? = some s → ∃ o, σ[i]? = some o ∧ SlotRep K y H s o
  dist : ∀ (i j : Nat) (s t : Slot) (b : Addr), i ≠ j → r[i]? = some s → r[j]? = some t → s.owns = true → t.owns = true → σ[i]? = some (some (.ref b)) → σ[j]? = some (some (.ref b)) → False
section
variable {K : PySem.W.Frag} {y y' : Gh} {H H' : Hp} {r : List Slot} {σ : L2.St} {g : List O}
theorem SlotRep.mono (e : Ext y H y' H') (hw : ∀ a, y.W a → a ∉ y.al) {s : Slot} {o : Option V} (h : SlotRep K y H s o) : SlotRep K y' H' s o := by
  cases s with
  | no => trivial
  | fz d => obtain ⟨v, e1, h⟩ := h; exact ⟨v, e1, Rep.mono e d v h⟩
  | own ds => obtain ⟨b, vs, e1, w, hb, h⟩ := h; exact ⟨b, vs, e1, by rw [e.eW]; exact w, e.keep _ _ hb (hw b w), Reps.mono e ds vs h⟩
  | ownK ks ds => obtain ⟨b, vs, e1, w, hb, l, h⟩ := h; exact ⟨b, vs, e1, by rw [e.eW]; exact w, e.keep _ _ hb (hw b w), l, Reps.mono e ds vs h⟩
theorem SR.mono (e : Ext y H y' H') (G : Good K y H g) (h : SR K y H r σ) : SR K y' H' r σ :=
  ⟨h.len, fun i s q => by
    obtain ⟨o, e1, h1⟩ := h.at_ i s q
    exact ⟨o, e1, h1.mono e fun a w m => (G.disj a m).2 w⟩, h.dist⟩
/-- a new object beside -/
theorem ext_new {p : Addr} {o : HO} (hp : H p = none) : Ext y H y (upd H p o) :=
  ⟨rfl, rfl, ⟨[], by simp, fun _ h => by simp at h⟩, fun a u h _ => by rw [upd_ne (ne_of_none h hp)]; exact h, fun a h => by
    by_cases e : a = p
    · subst e; exact hp
    · rw [upd_ne e] at h; exact h⟩
theorem Good.free (G : Good K y H g) {p : Addr} (hp : H p = none) : ¬ y.Z p := fun z => by
  obtain ⟨o, h⟩ := G.zok p z
  rw [hp] at h; cases h
theorem ORep.mono (e : Ext y H y' H') {o : O} {a : Addr} (h : ORep K y H o a) (hk : ∀ u, H a = some u → H' a = some u) : ORep K y' H' o a := by
  cases o with
  | lst ds => obtain ⟨vs, h1, h2⟩ := h; exact ⟨vs, hk _ h1, Reps.mono e ds vs h2⟩
theorem Good.new (G : Good K y H g) {p : Addr} {o : HO} (hp : H p = none) : Good K y (upd H p o) g := by
  have up : ∀ a u, H a = some u → upd H p o a = some u := fun a u h => by rw [upd_ne (ne_of_none h hp)]; exact h
  refine ⟨fun a z => ?_, G.aw, G.disj, G.nd, G.len, fun n a q h1 h2 => (G.objs n a q h1 h2).mono (ext_new hp) (up a)⟩
  obtain ⟨u, h⟩ := G.zok a z
  exact ⟨u, up a u h⟩
end
end Bk
end
section
set_option Elab.async false
set_option linter.all false
set_option maxRecDepth 100000
set_option maxHeartbeats 4000000
namespace Bk
open PySem PySem.Spec PyProof.Rows L2

inductive Bop | add | sub | mul | fdiv | mod | pow | shl | shr
  deriving DecidableEq
inductive Cop | eq | ne | lt | le | gt | ge | isN | notN | mem | nmem
  deriving DecidableEq
inductive Tg | nm (i : Nat) | tp (is : List Nat)
  deriving DecidableEq
inductive IK | seq | range | range2 | enum | zip
  deriving DecidableEq
inductive Bi | len | abs | sum | tuple | list | sorted | int | str | repr | max | min | all
  deriving DecidableEq
inductive Ty | int | bool | tuple | list | str | dict
  deriving DecidableEq
inductive E where
  | var (i : Nat) | own (i : Nat) | glob (x : Nat) | int (k : Int) | bl (b : Bool) | non | str (s : String)
  | tup (es : List E) | lst (es : List E) | seqS (t : Bool) (st : List Bool) (es : List E)
  | dct0 | dct1 (k : String) (e : E)
  | bin (op : Bop) (a b : E) | neg (a : E) | not (a : E) | cmp (op : Cop) (a b : E) | chain (o p : Cop) (a b c : E)
  | band (es : List E) | bor (es : List E) | ife (c a b : E)
  | call (f : Nat) (es : List E) | bi (f : Bi) (es : List E) | sset (e : E) | isi (e : E) (t : Ty)
  | ix (a b : E) | slice (a : E) (lo hi : List E) | rev (a : E)
  | comp (elt : E) (tg : Tg) (ik : IK) (its ifs : List E)
  | mk (e : E)     -- a new list that will be changed

inductive S where
  | asg (tg : Tg) (e : E) | asgOwn (i : Nat) (e : E) | par (is : List Nat) (es : List E)
  | aug (i : Nat) (op : Bop) (e : E)
  | setO (i : Nat) (b e : E)          -- x[b] = e, x an owned list or dict
  | setR (a b e : E)                  -- a[b] = e, a a mutable object
  | app (i : Nat) (e : E) | appPop (i j : Nat) (e : E) | popX (i : Nat) | extend (i : Nat) (e : E)
  | frz (i : Nat)
  | iff (c : E) (a b : List S) | for_ (tg : Tg) (ik : IK) (its : List E) (b : List S) | while_ (c : E) (b : List S)
  | ret (e : E) | retO (i : Nat) | pass | brk | cont

structure Fn where
  ps : Nat       -- parameters
  ns : Nat       -- slots
  body : List S

/-! ## results -/
inductive Res (α : Type) where
  | ok (a : α) (g : List O)
  | exc (x : X) (g : List O)
  | bad
def Res.bind {α β : Type} (r : Res α) (f : α → List O → Res β) : Res β := match r with
  | .ok a g => f a g
  | .exc x g => .exc x g
  | .bad => .bad
def lift {α : Type} (o : Option α) (g : List O) : Res α := match o with
  | some a => .ok a g
  | none => .bad
def noX {α : Type} : Res α → Res α
  | .exc _ _ => .bad
  | r => r
def asB : D → List O → Res Bool
  | .bl b, g => .ok b g
  | _, _ => .bad
@[simp] theorem Res.bind_ok {α β : Type} (a : α) (g : List O) (f : α → List O → Res β) : (Res.ok a g).bind f = f a g := rfl
@[simp] theorem Res.bind_exc {α β : Type} (x : X) (g : List O) (f : α → List O → Res β) : (Res.exc x g : Res α).bind f = .exc x g := rfl
@[simp] theorem Res.bind_bad {α β : Type} (f : α → List O → Res β) : (Res.bad : Res α).bind f = .bad := rfl
theorem Res.assoc {α β γ : Type} (r : Res α) (f : α → List O → Res β) (h : β → List O → Res γ) : (r.bind f).bind h = r.bind fun a g => (f a g).bind h := by cases r <;> rfl
@[simp] theorem lift_some {α : Type} (a : α) (g : List O) : lift (some a) g = .ok a g := rfl
@[simp] theorem lift_none {α : Type} (g : List O) : lift (none : Option α) g = .bad := rfl

/-! ## operations on plain values -/
def LIM : Nat := 1000000
def mkT (ds : List D) : Option D := if ds.length ≤ LIM then some (.tup ds) else none
def mkL (ds : List D) : Option D := if ds.length ≤ LIM then some (.lst ds) else none
def ints? : List D → Option (List Int)
  | [] => some []
  | .int i :: r => (ints? r).map (i :: ·)
  | _ :: _ => none
def bools? : List D → Option (List Bool)
  | [] => some []
  | .bl i :: r => (bools? r).map (i :: ·)
  | _ :: _ => none
def flat : D → Bool
  | .non => true | .bl _ => true | .int _ => true | .str _ => true
  | _ => false
/-- == of flat values -/
def eqF : D → D → Bool
  | .non, .non => true
  | .bl a, .bl b => a == b
  | .bl a, .int j => (if a then 1 else 0) == j
  | .int i, .bl b => i == (if b then 1 else 0)
  | .int i, .int j => i == j
  | .str x, .str y => x == y
  | _, _ => false
mutual
def shp : Nat → D → Bool
  | _, .non => true | _, .bl _ => true | _, .int _ => true | _, .str x => PyData.strOk x
  | n, .tup ds => match n with | 0 => false | n + 1 => shps n ds
  | n, .lst ds => match n with | 0 => false | n + 1 => shps n ds
  | _, .dct _ _ => false | _, .ref _ => false | _, .scr _ => false
def shps : Nat → List D → Bool
  | _, [] => true
  | n, d :: ds => shp n d && shps n ds
end
mutual
def eqD : D → D → Bool
  | .tup xs, .tup ys => eqDs xs ys
  | .lst xs, .lst ys => eqDs xs ys
  | .non, .non => true
  | .bl a, .bl b => a == b
  | .bl a, .int j => (if a then 1 else 0) == j
  | .int i, .bl b => i == (if b then 1 else 0)
  | .int i, .int j => i == j
  | .str x, .str y => x == y
  | _, _ => false
def eqDs : List D → List D → Bool
  | [], [] => true
  | x :: xs, y :: ys => eqD x y && eqDs xs ys
  | _, _ => false
end
def binop : Bop → D → D → Option D
  | .add, .int i, .int j => some (.int (i + j))
  | .sub, .int i, .int j => some (.int (i - j))
  | .mul, .int i, .int j => if (-(2 ^ 64) < i ∧ i < 2 ^ 64) ∨ (-(2 ^ 64) < j ∧ j < 2 ^ 64) then some (.int (i * j)) else none
  | .fdiv, .int i, .int j => if 0 < j ∧ j < 2 ^ 64 then some (.int (i / j)) else none
  | .mod, .int i, .int j => if 0 < j then some (.int (i % j)) else none
  | .pow, .int i, .int j => if 0 ≤ j ∧ j ≤ 1000 ∧ i.natAbs < 2 ^ 64 then some (.int (i ^ j.toNat)) else none
  | .shl, .int i, .int j => if 0 ≤ j ∧ j ≤ 1000 ∧ i.natAbs < 2 ^ 64 then some (.int (i * 2 ^ j.toNat)) else none
  | .shr, .int i, .int j => if 0 ≤ j then some (.int (i / 2 ^ j.toNat)) else none
  | .add, .tup xs, .tup ys => mkT (xs ++ ys)
  | .add, .lst xs, .lst ys => mkL (xs ++ ys)
  | .add, .str x, .str y => if x.length + y.length ≤ LIM then some (.str (x ++ y)) else none
  | .mul, .lst xs, .int k => if k ≤ 1000 ∧ -1000 ≤ k ∧ xs.length * k.toNat ≤ LIM then some (.lst (List.replicate k.toNat xs).flatten) else none
  | .mul, .tup xs, .int k => if xs ≠ [] ∧ 2 ≤ k ∧ k ≤ 1000 ∧ xs.length ≤ 1000 then some (.tup (List.replicate k.toNat xs).flatten) else none
  | _, _, _ => none
def D.isNon : D → Bool
  | .non => true
  | _ => false
def cmpop : Cop → D → D → Option Bool
  | .eq, .str x, .str y => some (x == y)
  | .ne, .str x, .str y => some (!(x == y))
  | .eq, a, b => if shp 60 a && shp 60 b then some (eqD a b) else none
  | .ne, a, b => if shp 60 a && shp 60 b then some (!eqD a b) else none
  | .lt, .int i, .int j => some (decide (i < j))
  | .le, .int i, .int j => some (decide (i ≤ j))
  | .gt, .int i, .int j => some (decide (j < i))
  | .ge, .int i, .int j => some (decide (j ≤ i))
  | .isN, a, .non => some a.isNon
  | .notN, a, .non => some (!a.isNon)
  | .mem, a, .lst xs => if flat a && xs.all flat then some (xs.any fun z => eqF z a) else none
  | .mem, a, .tup xs => if flat a && xs.all flat then some (xs.any fun z => eqF z a) else none
  | .nmem, a, .lst xs => if flat a && xs.all flat then some (!xs.any fun z => eqF z a) else none
  | .nmem, a, .tup xs => if flat a && xs.all flat then some (!xs.any fun z => eqF z a) else none
  | _, _, _ => none
def isTy : D → Ty → Option Bool
  | .int _, t => some (t == .int)
  | .bl _, t => some (t == .bool || t == .int)
  | .non, _ => some false
  | .str _, t => some (t == .str)
  | .tup _, t => some (t == .tuple)
  | .lst _, t => some (t == .list)
  | .dct _ _, t => some (t == .dict)
  | .ref _, _ => none
  | .scr _, _ => none
def slIx (n d : Nat) : Option Int → Nat := HT.sIx n d
def cut {α : Type} (xs : List α) (lo hi : Option Int) : List α := (xs.drop (HT.sIx xs.length 0 lo)).take (HT.sIx xs.length xs.length hi - HT.sIx xs.length 0 lo)
def keyD : Key → D
  | .inl i => .int i
  | .inr x => .str x
def insI (x : Int) : List Int → List Int
  | [] => [x]
  | y :: r => if x ≤ y then x :: y :: r else y :: insI x r
def sortI : List Int → List Int
  | [] => []
  | x :: r => insI x (sortI r)
def dedup : List Int → List Int
  | [] => []
  | x :: r => match dedup r with
    | [] => [x]
    | y :: s => if x = y then y :: s else x :: y :: s
/-! what is shown of it -/
def keyP : Key → PyData
  | .inl i => .int i
  | .inr x => .str x
mutual
def pyd : D → PyData
  | .non => .none | .bl b => .bool b | .int i => .int i | .str x => .str x
  | .tup ds => .tuple (pyds ds) | .lst ds => .list (pyds ds)
  | .dct ks ds => .dict ((ks.map keyP).zip (pyds ds))
  | .ref _ => .none
  | .scr _ => .none
def pyds : List D → List PyData
  | [] => []
  | d :: ds => pyd d :: pyds ds
end
def keyS : Key → Bool
  | .inl i => decide (i.natAbs < 2 ^ 1900)
  | .inr _ => true
mutual
def shw : Nat → D → Bool
  | _, .non => true | _, .bl _ => true | _, .int i => decide (i.natAbs < 2 ^ 1900) | _, .str x => decide (x.length ≤ 1000) && x.cps.toList.all fun c => decide (c < 16 ^ 8)
  | n, .tup ds => match n with | 0 => false | n + 1 => shws n ds
  | n, .lst ds => match n with | 0 => false | n + 1 => shws n ds
  | n, .dct ks ds => match n with | 0 => false | n + 1 => shws n ds && decide (ks.length = ds.length) && ks.all keyS
  | _, .ref _ => false
  | _, .scr _ => false
def shws : Nat → List D → Bool
  | _, [] => true
  | n, d :: ds => shw n d && shws n ds
end
def shown (d : D) : Str := (pyd d).shown
def biD : Bi → List D → Option D
  | .len, [.lst xs] => some (.int xs.length)
  | .len, [.tup xs] => some (.int xs.length)
  | .len, [.scr ns] => some (.int ns.length)
  | .len, [.str x] => if x.length ≤ LIM then some (.int x.length) else none
  | .abs, [.int i] => some (.int i.natAbs)
  | .sum, [.lst xs] => (ints? xs).map fun ns => .int ns.sum
  | .sum, [.tup xs] => (ints? xs).map fun ns => .int ns.sum
  | .tuple, [.lst xs] => some (.tup xs)
  | .tuple, [.tup xs] => some (.tup xs)
  | .list, [.lst xs] => some (.lst xs)
  | .list, [.tup xs] => some (.lst xs)
  | .sorted, [.lst xs] => (ints? xs).map fun ns => .lst ((sortI ns).map .int)
  | .sorted, [.tup xs] => (ints? xs).map fun ns => .lst ((sortI ns).map .int)
  | .int, [.bl b] => some (.int (if b then 1 else 0))
  | .int, [.int i] => some (.int i)
  | .str, [.int i] => if i.natAbs < 2 ^ 1900 then some (.str (toString i)) else none
  | .repr, [d] => if shw 60 d && decide ((shown d).length ≤ 16000000) then some (.str (shown d)) else none
  | .max, [.int i, .int j] => some (.int (if j > i then j else i))
  | .min, [.int i, .int j] => some (.int (if j < i then j else i))
  | .all, [.lst xs] => (bools? xs).map fun bs => .bl (bs.all id)
  | _, _ => none
def ixD : D → D → Option D
  | .lst xs, .int i => atI xs i
  | .tup xs, .int i => atI xs i
  | _, _ => none
def deref (g : List O) : D → D
  | .ref n => match g[n]? with
    | some (.lst ds) => .lst ds
    | none => .ref n
  | d => d
/-- len of a mutable list, too -/
def biG (g : List O) : Bi → List D → Option D
  | .len, [.ref n] => match g[n]? with
    | some (.lst xs) => some (.int xs.length)
    | none => none
  | f, ds => biD f ds
def sliceD : D → Option Int → Option Int → Option D
  | .lst xs, lo, hi => some (.lst (cut xs lo hi))
  | .tup xs, lo, hi => some (.tup (cut xs lo hi))
  | .scr ns, lo, hi => some (.lst ((cut ns lo hi).map .int))
  | _, _, _ => none
def revD : D → Option D
  | .lst xs => some (.lst xs.reverse)
  | .tup xs => if 2 ≤ xs.length then some (.tup xs.reverse) else none
  | _ => none
def setTg (r : List Slot) : Tg → D → Option (List Slot)
  | .nm i, d => some (r.set i (.fz d))
  | .tp is, .tup ds => if is.length = ds.length then some ((is.zip ds).foldl (fun r p => r.set p.1 (.fz p.2)) r) else none
  | _, _ => none
def Tg.slots : Tg → List Nat
  | .nm i => [i]
  | .tp is => is
def wipeR (r : List Slot) : List Nat → List Slot
  | [] => r
  | v :: vs => (wipeR r vs).set v .no
def items : D → Option (List D)
  | .lst xs => some xs
  | .tup xs => some xs
  | _ => none
def iterD : IK → List D → Option (List D)
  | .seq, [d] => items d
  | .range, [.int j] => if -1000000 ≤ j ∧ j ≤ 1000000 then some ((List.range j.toNat).map fun i => .int (i : Nat)) else none
  | .range2, [.int i, .int j] => if -1000000 ≤ i ∧ i ≤ 1000000 ∧ -1000000 ≤ j ∧ j ≤ 1000000 then some ((List.range (j - i).toNat).map fun (k : Nat) => .int (i + k)) else none
  | .enum, [d] => (items d).map fun xs => xs.zipIdx.map fun p => .tup [.int (p.2 : Nat), p.1]
  | .zip, [.lst xs, .lst ys] => some ((xs.zip ys).map fun p => .tup [p.1, p.2])
  | .zip, [.tup xs, .tup ys] => some ((xs.zip ys).map fun p => .tup [p.1, p.2])
  | _, _ => none
def optI : List D → Option (Option Int)
  | [] => some none
  | [.int i] => some (some i)
  | _ => none

/-! ## the evaluator -/
section
variable (gl : Nat → Option D) (cl : Nat → List D → List O → Res D)
def loopC (f : List D → D → List O → Res (List D)) : List D → List D → List O → Res (List D)
  | [], acc, g => .ok acc g
  | d :: ds, acc, g => (f acc d g).bind fun acc' g' => loopC f ds acc' g'
mutual
/-- t: the value is used up at once -/
def ev (t : Bool) (r : List Slot) : E → List O → Res D
  | .var i, g => match r[i]? with
    | some (.fz d) => .ok d g
    | _ => .bad
  | .own i, g => if t then (match r[i]? with
    | some (.own ds) => .ok (.lst ds) g
    | some (.ownK ks ds) => .ok (.dct ks ds) g
    | _ => .bad) else .bad
  | .glob x, g => lift (gl x) g
  | .int k, g => .ok (.int k) g
  | .bl b, g => .ok (.bl b) g
  | .non, g => .ok .non g
  | .str s, g => .ok (.str s) g
  | .tup es, g => (evs false r es g).bind fun ds g => lift (mkT ds) g
  | .lst es, g => (evs false r es g).bind fun ds g => lift (mkL ds) g
  | .seqS tp st es, g => (evS r es st g).bind fun ds g => lift (if tp then mkT ds else mkL ds) g
  | .dct0, g => .ok (.dct [] []) g
  | .dct1 k e, g => (ev false r e g).bind fun d g => .ok (.dct [.inr k] [d]) g
  | .bin op a b, g => (ev true r a g).bind fun x g => (ev true r b g).bind fun y g => lift (binop op x y) g
  | .neg a, g => (ev true r a g).bind fun x g => match x with
    | .int i => .ok (.int (-i)) g
    | _ => .bad
  | .not a, g => ((ev true r a g).bind asB).bind fun b g => .ok (.bl (!b)) g
  | .cmp op a b, g => (ev true r a g).bind fun x g => (ev true r b g).bind fun y g => (lift (cmpop op x y) g).bind fun b g => .ok (.bl b) g
  | .chain o p a b c, g => (ev true r a g).bind fun x g => (ev true r b g).bind fun y g => (lift (cmpop o x y) g).bind fun k g =>
      if k then (ev true r c g).bind fun z g => (lift (cmpop p y z) g).bind fun b g => .ok (.bl b) g else .ok (.bl false) g
  | .band es, g => evB true r es g
  | .bor es, g => evB false r es g
  | .ife c a b, g => ((ev true r c g).bind asB).bind fun x g => if x = true then ev t r a g else ev t r b g
  | .call f es, g => (evs false r es g).bind fun ds g => cl f ds g
  | .bi f es, g => (evs true r es g).bind fun ds g => lift (biG g f ds) g
  | .sset e, g => (ev true r e g).bind fun d g => lift (((items d).bind ints?).map fun ns => .lst ((dedup (sortI ns)).map .int)) g
  | .isi e ty, g => (ev true r e g).bind fun d g => (lift (isTy d ty) g).bind fun b g => .ok (.bl b) g
  | .ix a b, g => (ev true r a g).bind fun x g => (ev true r b g).bind fun y g => lift (ixD (deref g x) y) g
  | .slice a lo hi, g => (ev true r a g).bind fun x g => ((evs true r lo g).bind fun l g => lift (optI l) g).bind fun l g => ((evs true r hi g).bind fun l g => lift (optI l) g).bind fun h g =>
      lift (sliceD x l h) g
  | .rev a, g => (ev true r a g).bind fun x g => lift (revD x) g
  | .comp elt tg ik its ifs, g => (evs true r its g).bind fun ds g => (lift (iterD ik ds) g).bind fun xs g =>
      (noX (loopC (fun acc d g => (lift (setTg (wipeR r tg.slots) tg d) g).bind fun r' g => (evIf r' ifs g).bind fun b g =>
        if b then (ev false r' elt g).bind fun e g => if acc.length < LIM then .ok (acc ++ [e]) g else .bad else .ok acc g) xs [] g)).bind fun ys g => .ok (.lst ys) g
  | .mk e, g => (ev false r e g).bind fun d g => match d with
    | .lst ds => .ok (.ref g.length) (g ++ [.lst ds])
    | _ => .bad
def evs (t : Bool) (r : List Slot) : List E → List O → Res (List D)
  | [], g => .ok [] g
  | e :: es, g => (ev t r e g).bind fun d g => (evs t r es g).bind fun ds g => .ok (d :: ds) g
/-- items, some of them starred -/
def evS (r : List Slot) : List E → List Bool → List O → Res (List D)
  | [], [], g => .ok [] g
  | e :: es, true :: st, g => (ev true r e g).bind fun d g => (lift (items d) g).bind fun xs g => (evS r es st g).bind fun ds g => .ok (xs ++ ds) g
  | e :: es, false :: st, g => (ev false r e g).bind fun d g => (evS r es st g).bind fun ds g => .ok (d :: ds) g
  | _, _, _ => .bad
/-- and, or -/
def evB (c : Bool) (r : List Slot) : List E → List O → Res D
  | [], _ => .bad
  | e :: es, g => ((ev true r e g).bind asB).bind fun b g => match es with
    | [] => .ok (.bl b) g
    | _ :: _ => if b = c then evB c r es g else .ok (.bl b) g
def evIf (r : List Slot) : List E → List O → Res Bool
  | [], g => .ok true g
  | e :: es, g => ((ev true r e g).bind asB).bind fun b g => if b = true then evIf r es g else .ok false g
end

end
inductive Out where
  | nx (r : List Slot) | bk (r : List Slot) | ct (r : List Slot) | rt (d : D)
def setAt {α : Type} (xs : List α) (i : Int) (v : α) : Option (List α) := (ixN xs.length i).map fun j => xs.set j v
/-- d[k] = v of a dict -/
def putD (ks : List Key) (ds : List D) (k : Key) (d : D) : List Key × List D :=
  match ks.idxOf? k with
  | some j => (ks, ds.set j d)
  | none => (ks ++ [k], ds ++ [d])
def loopF (f : List Slot → D → List O → Res Out) : List D → List Slot → List O → Res Out
  | [], r, g => .ok (.nx r) g
  | d :: ds, r, g => (f r d g).bind fun o g => match o with
    | .nx r => loopF f ds r g
    | .ct r => loopF f ds r g
    | .bk r => .ok (.nx r) g
    | .rt d => .ok (.rt d) g
def loopW (c : List Slot → List O → Res Bool) (f : List Slot → List O → Res Out) : Nat → List Slot → List O → Res Out
  | 0, _, _ => .bad
  | n + 1, r, g => (c r g).bind fun b g => if b then (f r g).bind fun o g => (match o with
    | .nx r => loopW c f n r g
    | .ct r => loopW c f n r g
    | .bk r => .ok (.nx r) g
    | .rt d => .ok (.rt d) g) else .ok (.nx r) g
section
variable (gl : Nat → Option D) (cl : Nat → List D → List O → Res D)
mutual
def ex (r : List Slot) : S → List O → Res Out
  | .asg tg e, g => (ev gl cl false r e g).bind fun d g => (lift (setTg r tg d) g).bind fun r g => .ok (.nx r) g
  | .asgOwn i e, g => (ev gl cl false r e g).bind fun d g => match d with
    | .lst ds => .ok (.nx (r.set i (.own ds))) g
    | .dct ks ds => .ok (.nx (r.set i (.ownK ks ds))) g
    | _ => .bad
  | .par is es, g => (evs gl cl false r es g).bind fun ds g => if is.length = ds.length then .ok (.nx ((is.zip ds).foldl (fun r p => r.set p.1 (.fz p.2)) r)) g else .bad
  | .aug i op e, g => match r[i]? with
    | some (.fz (.int x)) => (ev gl cl true r e g).bind fun y g => match y with
      | .int y => (lift (binop op (.int x) (.int y)) g).bind fun z g => .ok (.nx (r.set i (.fz z))) g
      | _ => .bad
    | _ => .bad
  | .setO i b e, g => (ev gl cl false r e g).bind fun v g => (ev gl cl true r b g).bind fun k g => match r[i]?, k with
    | some (.own ds), .int j => (lift (setAt ds j v) g).bind fun ds g => .ok (.nx (r.set i (.own ds))) g
    | some (.ownK ks ds), .int j => let p := putD ks ds (.inl j) v; if p.1.length ≤ LIM then .ok (.nx (r.set i (.ownK p.1 p.2))) g else .bad
    | _, _ => .bad
  | .setR a b e, g => (ev gl cl false r e g).bind fun v g => (ev gl cl true r a g).bind fun o g => (ev gl cl true r b g).bind fun k g => match o, k with
    | .ref n, .int j => (match g[n]? with
      | some (.lst ds) => (lift (setAt ds j v) g).bind fun ds g => .ok (.nx r) (g.set n (.lst ds))
      | none => .bad)
    | _, _ => .bad
  | .app i e, g => match r[i]? with
    | some (.own ds) => (ev gl cl false r e g).bind fun v g => if ds.length < LIM then .ok (.nx (r.set i (.own (ds ++ [v])))) g else .bad
    | _ => .bad
  | .appPop i j e, g => (ev gl cl true r e g).bind fun k g => match r[i]?, r[j]?, k with
    | some (.own ds), some (.own es), .int n => (match ixN es.length n, atI es n with
      | some m, some v => if i ≠ j ∧ ds.length < LIM then .ok (.nx ((r.set j (.own (es.eraseIdx m))).set i (.own (ds ++ [v])))) g else .bad
      | _, _ => .bad)
    | _, _, _ => .bad
  | .popX i, g => match r[i]? with
    | some (.own ds) => if ds = [] then .bad else .ok (.nx (r.set i (.own ds.dropLast))) g
    | _ => .bad
  | .extend i e, g => (ev gl cl false r e g).bind fun v g => match r[i]?, v with
    | some (.own ds), .lst es => if ds.length + es.length ≤ LIM then .ok (.nx (r.set i (.own (ds ++ es)))) g else .bad
    | _, _ => .bad
  | .frz i, g => match r[i]? with
    | some (.own ds) => .ok (.nx (r.set i (.fz (.lst ds)))) g
    | some (.ownK ks ds) => .ok (.nx (r.set i (.fz (.dct ks ds)))) g
    | _ => .bad
  | .iff c a b, g => ((ev gl cl true r c g).bind asB).bind fun x g => if x = true then exs r a g else exs r b g
  | .for_ tg ik its b, g => (evs gl cl false r its g).bind fun ds g => (lift (iterD ik ds) g).bind fun xs g =>
      loopF (fun r d g => (lift (setTg r tg d) g).bind fun r g => exs r b g) xs r g
  | .while_ c b, g => loopW (fun r g => (ev gl cl true r c g).bind asB) (fun r g => exs r b g) LIM r g
  | .ret e, g => (ev gl cl false r e g).bind fun d g => .ok (.rt d) g
  | .retO i, g => match r[i]? with
    | some (.own ds) => .ok (.rt (.lst ds)) g
    | some (.ownK ks ds) => .ok (.rt (.dct ks ds)) g
    | _ => .bad
  | .pass, g => .ok (.nx r) g
  | .brk, g => .ok (.bk r) g
  | .cont, g => .ok (.ct r) g
def exs (r : List Slot) : List S → List O → Res Out
  | [], g => .ok (.nx r) g
  | s :: ss, g => (ex r s g).bind fun o g => match o with
    | .nx r => exs r ss g
    | o => .ok o g
end
end
def runFn (gl : Nat → Option D) (cl : Nat → List D → List O → Res D) (f : Fn) (ds : List D) (g : List O) : Res D :=
  if ds.length = f.ps then (exs gl cl (ds.map Slot.fz ++ List.replicate (f.ns - f.ps) Slot.no) f.body g).bind fun o g => match o with
    | .rt d => .ok d g
    | .nx _ => .ok .non g
    | _ => .bad
  else .bad
def callN (gl : Nat → Option D) (P : Nat → Option Fn) : Nat → Nat → List D → List O → Res D
  | 0, _, _, _ => .bad
  | n + 1, f, ds, g => match P f with
    | some fn => runFn gl (callN gl P n) fn ds g
    | none => .bad
end Bk
end
section
set_option Elab.async false
set_option linter.all false
set_option maxRecDepth 100000
set_option maxHeartbeats 4000000
namespace Bk
open PySem PySem.Spec PyProof.Rows L2

/-! ## values used up at once -/
def RepT (K : PySem.W.Frag) (y : Gh) (H : Hp) : D → V → Prop
  | .lst ds, v => ∃ a vs, v = .ref a ∧ a ∉ y.al ∧ H a = some (.lst vs) ∧ Reps K y H ds vs
  | .dct ks ds, v => ∃ a vs, v = .ref a ∧ a ∉ y.al ∧ H a = some (.dK (ks.zip vs)) ∧ ks.length = ds.length ∧ Reps K y H ds vs
  | d, v => Rep K y H d v
def RepX (K : PySem.W.Frag) (t : Bool) (y : Gh) (H : Hp) (d : D) (v : V) : Prop := if t then RepT K y H d v else Rep K y H d v
section
variable {K : PySem.W.Frag} {y y' : Gh} {H H' : Hp} {g : List O}
theorem Rep.t {d : D} {v : V} (h : Rep K y H d v) : RepT K y H d v := by
  cases d with
  | lst ds =>
    simp only [Rep] at h
    obtain ⟨a, vs, e, z, h1, h2⟩ := h
    exact ⟨a, vs, e, fun m => z (.inr (.inr m)), h1, h2⟩
  | dct ks ds =>
    simp only [Rep] at h
    obtain ⟨a, vs, e, z, h1, hl, h2⟩ := h
    exact ⟨a, vs, e, fun m => z (.inr (.inr m)), h1, hl, h2⟩
  | _ => exact h
theorem Rep.x {t : Bool} {d : D} {v : V} (h : Rep K y H d v) : RepX K t y H d v := by
  cases t
  · exact h
  · exact h.t
theorem RepT.mono (e : Ext y H y' H') {d : D} {v : V} (h : RepT K y H d v) : RepT K y' H' d v := by
  have nal : ∀ a o, H a = some o → a ∉ y.al → a ∉ y'.al := fun a o h1 h2 z => by
    obtain ⟨t, et, nt⟩ := e.pre
    rw [et] at z
    rcases List.mem_append.mp z with q | q
    · exact h2 q
    · rw [nt a q] at h1; cases h1
  cases d with
  | lst ds => obtain ⟨a, vs, e1, z, h1, h2⟩ := h; exact ⟨a, vs, e1, nal _ _ h1 z, e.keep _ _ h1 z, Reps.mono e ds vs h2⟩
  | dct ks ds => obtain ⟨a, vs, e1, z, h1, hl, h2⟩ := h; exact ⟨a, vs, e1, nal _ _ h1 z, e.keep _ _ h1 z, hl, Reps.mono e ds vs h2⟩
  | non => exact Rep.mono (K := K) e D.non v h
  | bl b => exact Rep.mono (K := K) e (.bl b) v h
  | int i => exact Rep.mono (K := K) e (.int i) v h
  | str x => exact Rep.mono (K := K) e (.str x) v h
  | tup ds => exact Rep.mono (K := K) e (.tup ds) v h
  | ref n => exact Rep.mono (K := K) e (.ref n) v h
  | scr ns => exact Rep.mono (K := K) e (.scr ns) v h
theorem RepX.mono {t : Bool} (e : Ext y H y' H') {d : D} {v : V} (h : RepX K t y H d v) : RepX K t y' H' d v := by
  cases t
  · exact Rep.mono e d v h
  · exact RepT.mono e h
def RepsX (K : PySem.W.Frag) (t : Bool) (y : Gh) (H : Hp) : List D → List V → Prop
  | [], vs => vs = []
  | d :: ds, vs => ∃ v ws, vs = v :: ws ∧ RepX K t y H d v ∧ RepsX K t y H ds ws
theorem RepsX.mono {t : Bool} (e : Ext y H y' H') : ∀ {ds : List D} {vs : List V}, RepsX K t y H ds vs → RepsX K t y' H' ds vs
  | [], _, h => h
  | d :: ds, _, ⟨v, ws, e1, h1, h2⟩ => ⟨v, ws, e1, h1.mono e, RepsX.mono e h2⟩
theorem RepsX.f : ∀ {ds : List D} {vs : List V}, RepsX K false y H ds vs → Reps K y H ds vs
  | [], _, h => by simp only [Reps]; exact h
  | d :: ds, _, ⟨v, ws, e1, h1, h2⟩ => by simp only [Reps]; exact ⟨v, ws, e1, h1, RepsX.f h2⟩
end

/-! ## what is wanted behind a result -/
def XRep (K : PySem.W.Frag) (mg : Str → Option Value) (y : Gh) (H : Hp) (x : X) (c : Value) (od : Option Addr) : Prop :=
  ∃ C, mg x.cls = some (.ref C) ∧ c = .ref C ∧ ((x.fs = [] ∧ od = none) ∨ ∃ f d dd v, x.fs = [(f, d)] ∧ od = some dd ∧ H dd = some (.xd [(f, v)]) ∧ ¬ y.Z dd ∧ Rep K y H d v)
section
variable (K : PySem.W.Frag) (mg : Str → Option Value) (W : WX)
/-- a result of any kind: P tells how the answer stands -/
def PostG {α β : Type} (P : Gh → Hp → α → β → Prop) (y : Gh) (σ : L2.St) (H : Hp) (Q : β → Hp → Prop) : Res α → Prop
  | .ok a g' => ∀ y' H' v, Ext y H y' H' → Good K y' H' g' → P y' H' a v → Q v H'
  | .exc x g' => ∀ y' H' c od, Ext y H y' H' → Good K y' H' g' → XRep K mg y' H' x c od → W c od σ H'
  | .bad => False
def tG {α β : Type} (P : Gh → Hp → α → β → Prop) (F : List Slot → List O → Res α) : L2.St → Hp → (β → Hp → Prop) → Prop :=
  fun σ H Q => ∃ y r g, SR K y H r σ ∧ Good K y H g ∧ PostG K mg W P y σ H Q (F r g)
abbrev tE (t : Bool) (F : List Slot → List O → Res D) : TE := tG K mg W (RepX K t) F
abbrev tA (t : Bool) (F : List Slot → List O → Res (List D)) : TA := tG K mg W (RepsX K t) F
abbrev tT (F : List Slot → List O → Res Bool) : TT := tG K mg W (fun _ _ (b c : Bool) => b = c) F
end
section
variable {K : PySem.W.Frag} {mg : Str → Option Value} {W : WX} {y y' y1 : Gh} {H H' H1 : Hp} {σ : L2.St} {g : List O}
theorem PostG.step {α β : Type} {P : Gh → Hp → α → β → Prop} {Q : β → Hp → Prop} (e : Ext y H y1 H1) : ∀ {R : Res α}, PostG K mg W P y σ H Q R → PostG K mg W P y1 σ H1 Q R
  | .ok a g', h => fun y' H' v e' G p => h y' H' v (e.trans e') G p
  | .exc x g', h => fun y' H' c od e' G p => h y' H' c od (e.trans e') G p
  | .bad, h => h
/-- one part, then the rest -/
theorem tG.bind {α β γ δ : Type} {P : Gh → Hp → α → β → Prop} {P' : Gh → Hp → γ → δ → Prop} {F : List Slot → List O → Res α} {G : List Slot → α → List O → Res γ} {Q : δ → Hp → Prop} {R : β → Hp → Prop}
    (h : tG K mg W P' (fun r g => (F r g).bind (G r)) σ H Q)
    (k : ∀ y r a g v H1, SR K y H1 r σ → Good K y H1 g → P y H1 a v → PostG K mg W P' y σ H1 Q (G r a g) → R v H1) : tG K mg W P F σ H R := by
  obtain ⟨y, r, g, S, G0, p⟩ := h
  refine ⟨y, r, g, S, G0, ?_⟩
  dsimp only at p
  cases e : F r g with
  | ok a g' =>
    rw [e] at p
    exact fun y' H' v e' G' q => k y' r a g' v H' (S.mono e' G0) G' q (PostG.step e' p)
  | exc x g' => rw [e] at p; exact p
  | bad => rw [e] at p; exact p.elim
theorem PostG.val {t : Bool} {Q : VK} {d : D} {v : V} (h : PostG K mg W (RepX K t) y σ H Q (.ok d g)) (G : Good K y H g) (r : Rep K y H d v) : Q v H := h y H v (Ext.refl _ _) G r.x
theorem PostG.newT {t : Bool} {Q : VK} {ds : List D} {vs : List V} (h : PostG K mg W (RepX K t) y σ H Q (.ok (.tup ds) g)) (G : Good K y H g) (r : Reps K y H ds vs) (p : Addr) (hp : H p = none) : Q (.ref p) (upd H p (.tup vs)) := by
  refine h y _ _ (ext_new hp) (G.new hp) (Rep.x ?_)
  simp only [Rep]
  exact ⟨p, vs, rfl, .inl ⟨G.free hp, upd_same⟩, Reps.mono (ext_new hp) _ _ r⟩
theorem PostG.newL {t : Bool} {Q : VK} {ds : List D} {vs : List V} (h : PostG K mg W (RepX K t) y σ H Q (.ok (.lst ds) g)) (G : Good K y H g) (r : Reps K y H ds vs) (p : Addr) (hp : H p = none) : Q (.ref p) (upd H p (.lst vs)) := by
  refine h y _ _ (ext_new hp) (G.new hp) (Rep.x ?_)
  simp only [Rep]
  exact ⟨p, vs, rfl, G.free hp, upd_same, Reps.mono (ext_new hp) _ _ r⟩
theorem lim_size {n : Nat} (h : n ≤ LIM) : n ≤ sizeLine := Nat.le_trans h (by decide)
theorem lim_lt {n : Nat} (h : n ≤ LIM) : n < sizeLine := Nat.lt_of_le_of_lt h (by decide)
end

/-! ## the three ways a value is wanted: as a value, used up at once, fresh -/
inductive Mode | v | t | f
  deriving DecidableEq
def Mode.b : Mode → Bool
  | .t => true
  | _ => false
def Gh.off (y : Gh) (p : Addr) : Gh := { y with W := fun a => y.W a ∨ a = p }
def Gh.back (y : Gh) (W : Addr → Prop) : Gh := { y with W := W }
section
variable (K : PySem.W.Frag) (mg : Str → Option Value) (W : WX)
/-- a fresh list or dict at p: nothing else knows p -/
def PostF (y : Gh) (σ : L2.St) (H : Hp) (Q : VK) : Res D → Prop
  | .ok (.lst ds) g' => ∀ y' H' p vs, Ext y H y' H' → Good K (y'.off p) H' g' → H p = none → p ∉ y'.al → H' p = some (.lst vs) → Reps K (y'.off p) H' ds vs → Q (.ref p) H'
  | .ok (.dct ks ds) g' => ∀ y' H' p vs, Ext y H y' H' → Good K (y'.off p) H' g' → H p = none → p ∉ y'.al → H' p = some (.dK (ks.zip vs)) → ks.length = ds.length → Reps K (y'.off p) H' ds vs → Q (.ref p) H'
  | .ok _ _ => False
  | .exc x g' => ∀ y' H' c od, Ext y H y' H' → Good K y' H' g' → XRep K mg y' H' x c od → W c od σ H'
  | .bad => False
def PostX (m : Mode) (y : Gh) (σ : L2.St) (H : Hp) (Q : VK) : Res D → Prop := match m with
  | .v => PostG K mg W (RepX K false) y σ H Q
  | .t => PostG K mg W (RepX K true) y σ H Q
  | .f => PostF K mg W y σ H Q
def tX (m : Mode) (F : List Slot → List O → Res D) : TE := fun σ H Q => ∃ y r g, SR K y H r σ ∧ Good K y H g ∧ PostX K mg W m y σ H Q (F r g)
/-- what every wish behind a result has -/
structure IsPost (σ : L2.St) {γ : Type} (T : Gh → Hp → Res γ → Prop) : Prop where
  step : ∀ {y H y1 H1 R}, Ext y H y1 H1 → T y H R → T y1 H1 R
  exc : ∀ {y H x g}, T y H (.exc x g) → ∀ y' H' c od, Ext y H y' H' → Good K y' H' g → XRep K mg y' H' x c od → W c od σ H'
  bad : ∀ {y H}, T y H .bad → False
end
section
variable {K : PySem.W.Frag} {mg : Str → Option Value} {W : WX} {y y' y1 : Gh} {H H' H1 : Hp} {σ : L2.St} {g : List O}
theorem IsPost.gp {α β : Type} {P : Gh → Hp → α → β → Prop} {Q : β → Hp → Prop} : IsPost K mg W σ (fun y H R => PostG K mg W P y σ H Q R) := ⟨fun e h => h.step e, fun h => h, fun h => h⟩
theorem PostF.step {Q : VK} (e : Ext y H y1 H1) {R : Res D} (h : PostF K mg W y σ H Q R) : PostF K mg W y1 σ H1 Q R := by
  cases R with
  | ok d g' =>
    cases d with
    | lst ds => exact fun y' H' p vs e' G hp => h y' H' p vs (e.trans e') G (e.dom p hp)
    | dct ks ds => exact fun y' H' p vs e' G hp => h y' H' p vs (e.trans e') G (e.dom p hp)
    | _ => exact h.elim
  | exc x g' => exact fun y' H' c od e' G p => h y' H' c od (e.trans e') G p
  | bad => exact h
theorem IsPost.f {Q : VK} : IsPost K mg W σ (fun y H R => PostF K mg W y σ H Q R) := ⟨fun e h => PostF.step e h, fun h => h, fun h => h⟩
theorem IsPost.x {m : Mode} {Q : VK} : IsPost K mg W σ (fun y H R => PostX K mg W m y σ H Q R) := by
  cases m
  · exact .gp
  · exact .gp
  · exact .f
/-- one part, then the rest -/
theorem bindP {α β γ : Type} {P : Gh → Hp → α → β → Prop} {T : Gh → Hp → Res γ → Prop} (hT : IsPost K mg W σ T) {F : List Slot → List O → Res α} {G : α → List O → Res γ} {R : β → Hp → Prop} {r : List Slot}
    (S : SR K y H r σ) (G0 : Good K y H g) (h : T y H ((F r g).bind G))
    (k : ∀ y1 a g1 v H1, SR K y1 H1 r σ → Good K y1 H1 g1 → P y1 H1 a v → Ext y H y1 H1 → T y1 H1 (G a g1) → R v H1) : tG K mg W P F σ H R := by
  refine ⟨y, r, g, S, G0, ?_⟩
  cases e : F r g with
  | ok a g' =>
    rw [e] at h
    exact fun y' H' v e' G' q => k y' a g' v H' (S.mono e' G0) G' q e' (hT.step e' h)
  | exc x g' => rw [e] at h; exact hT.exc h
  | bad => rw [e] at h; exact hT.bad h
theorem tX_v {F : List Slot → List O → Res D} : tX K mg W .v F = tE K mg W false F := rfl
theorem tX_t {F : List Slot → List O → Res D} : tX K mg W .t F = tE K mg W true F := rfl
end
theorem lift_post {α : Type} {K : PySem.W.Frag} {mg : Str → Option Value} {W : WX} {σ : L2.St} {y : Gh} {H : Hp} {T : Gh → Hp → Res α → Prop} (hT : IsPost K mg W σ T) {o : Option α} {g : List O} (h : T y H (lift o g)) : ∃ a, o = some a ∧ T y H (.ok a g) := by
  cases o with
  | none => exact (hT.bad h).elim
  | some a => exact ⟨a, rfl, h⟩

/-! ## operations -/
/-- a pure operation: what it is asked, and that the rest holds of its answer -/
def Ans (K : PySem.W.Frag) (y : Gh) (H : Hp) (Q : VK) (d : D) (g : List O) : Prop := ∀ y' H' v, Ext y H y' H' → Good K y' H' g → Rep K y' H' d v → Q v H'
section
variable {K : PySem.W.Frag} {mg : Str → Option Value} {W : WX} {y : Gh} {H : Hp} {σ : L2.St} {g : List O} {Q : VK}
theorem Ans.of {t : Bool} {d : D} (h : PostG K mg W (RepX K t) y σ H Q (.ok d g)) : Ans K y H Q d g := fun y' H' v e G r => h y' H' v e G r.x
theorem Ans.lift {t : Bool} {o : Option D} (h : PostG K mg W (RepX K t) y σ H Q (lift o g)) : ∃ d, o = some d ∧ Ans K y H Q d g := by
  cases o with
  | none => exact h.elim
  | some d => exact ⟨d, rfl, .of h⟩
theorem Ans.val {d : D} {v : V} (h : Ans K y H Q d g) (G : Good K y H g) (r : Rep K y H d v) : Q v H := h y H v (Ext.refl _ _) G r
theorem Ans.newT {ds : List D} {vs : List V} (h : Ans K y H Q (.tup ds) g) (G : Good K y H g) (r : Reps K y H ds vs) (p : Addr) (hp : H p = none) : Q (.ref p) (upd H p (.tup vs)) := by
  refine h y _ _ (ext_new hp) (G.new hp) ?_
  simp only [Rep]
  exact ⟨p, vs, rfl, .inl ⟨G.free hp, upd_same⟩, Reps.mono (ext_new hp) _ _ r⟩
theorem Ans.newL {ds : List D} {vs : List V} (h : Ans K y H Q (.lst ds) g) (G : Good K y H g) (r : Reps K y H ds vs) (p : Addr) (hp : H p = none) : Q (.ref p) (upd H p (.lst vs)) := by
  refine h y _ _ (ext_new hp) (G.new hp) ?_
  simp only [Rep]
  exact ⟨p, vs, rfl, G.free hp, upd_same, Reps.mono (ext_new hp) _ _ r⟩
theorem Ans.int {i : Int} (h : Ans K y H Q (.int i) g) (G : Good K y H g) : Q (.int i) H := h.val G (by simp only [Rep])
theorem Ans.bl {b : Bool} (h : Ans K y H Q (.bl b) g) (G : Good K y H g) : Q (.bl b) H := h.val G (by simp only [Rep])
theorem Ans.str {x : Str} (h : Ans K y H Q (.str x) g) (G : Good K y H g) : Q (.str x) H := h.val G (by simp only [Rep])
theorem rt_int {i : Int} {v : V} (h : RepT K y H (.int i) v) : v = .int i := by simpa only [RepT, Rep] using h
theorem rt_bl {i : Bool} {v : V} (h : RepT K y H (.bl i) v) : v = .bl i := by simpa only [RepT, Rep] using h
theorem rt_str {i : Str} {v : V} (h : RepT K y H (.str i) v) : v = .str i := by simpa only [RepT, Rep] using h
theorem rt_non {v : V} (h : RepT K y H .non v) : v = .non := by simpa only [RepT, Rep] using h
theorem rt_lst {ds : List D} {v : V} (h : RepT K y H (.lst ds) v) : ∃ a vs, v = .ref a ∧ H a = some (.lst vs) ∧ Reps K y H ds vs := by
  obtain ⟨a, vs, e, _, h1, h2⟩ := h
  exact ⟨a, vs, e, h1, h2⟩
theorem rt_tup {ds : List D} {v : V} (h : RepT K y H (.tup ds) v) : ∃ a vs, v = .ref a ∧ SqT K H a vs ∧ Reps K y H ds vs := by
  simp only [RepT, Rep] at h
  obtain ⟨a, vs, e, h1, h2⟩ := h
  exact ⟨a, vs, e, h1.sq, h2⟩
end
/-- .. of a result that may be a new object: the object is made last -/
def An (K : PySem.W.Frag) (y : Gh) (H : Hp) (Q : VK) (o : D) (g : List O) : Prop := ∀ y' H', Ext y H y' H' → Good K y' H' g → match o with
  | .lst ds => ∀ vs p, Reps K y' H' ds vs → H' p = none → Q (.ref p) (upd H' p (.lst vs))
  | .dct ks ds => ∀ vs p, Reps K y' H' ds vs → ks.length = ds.length → H' p = none → Q (.ref p) (upd H' p (.dK (ks.zip vs)))
  | d => ∀ v, Rep K y' H' d v → Q v H'
section
variable {K : PySem.W.Frag} {y : Gh} {H : Hp} {Q : VK} {g : List O}
theorem Ans.an {o : D} (h : Ans K y H Q o g) : An K y H Q o g := by
  intro y' H' e G
  cases o with
  | lst ds => exact fun vs p r hp => (show Ans K y' H' Q (.lst ds) g from fun y2 H2 v e2 G2 r2 => h y2 H2 v (e.trans e2) G2 r2).newL G r p hp
  | dct ks ds =>
    refine fun vs p r hl hp => h _ _ _ (e.trans (ext_new hp)) (G.new hp) ?_
    simp only [Rep]
    exact ⟨p, vs, rfl, G.free hp, upd_same, hl, Reps.mono (ext_new hp) _ _ r⟩
  | _ => exact fun v r => h y' H' v e G r
theorem An.newL {ds : List D} {vs : List V} (h : An K y H Q (.lst ds) g) (G : Good K y H g) (r : Reps K y H ds vs) (p : Addr) (hp : H p = none) : Q (.ref p) (upd H p (.lst vs)) := h y H (Ext.refl _ _) G vs p r hp
theorem An.newT {ds : List D} {vs : List V} (h : An K y H Q (.tup ds) g) (G : Good K y H g) (r : Reps K y H ds vs) (p : Addr) (hp : H p = none) : Q (.ref p) (upd H p (.tup vs)) := by
  refine h y _ (ext_new hp) (G.new hp) _ ?_
  simp only [Rep]
  exact ⟨p, vs, rfl, .inl ⟨G.free hp, upd_same⟩, Reps.mono (ext_new hp) _ _ r⟩
theorem An.tupV {ds : List D} {v : V} (h : An K y H Q (.tup ds) g) (G : Good K y H g) (r : Rep K y H (.tup ds) v) : Q v H := h y H (Ext.refl _ _) G v r
theorem An.int {i : Int} (h : An K y H Q (.int i) g) (G : Good K y H g) : Q (.int i) H := h y H (Ext.refl _ _) G _ (by simp only [Rep])
theorem An.bl {b : Bool} (h : An K y H Q (.bl b) g) (G : Good K y H g) : Q (.bl b) H := h y H (Ext.refl _ _) G _ (by simp only [Rep])
theorem An.str {x : Str} (h : An K y H Q (.str x) g) (G : Good K y H g) : Q (.str x) H := h y H (Ext.refl _ _) G _ (by simp only [Rep])
end

section
variable {K : PySem.W.Frag} {mg : Str → Option Value} {W : WX} {y : Gh} {H : Hp} {σ : L2.St} {g : List O} {Q : VK}
theorem Rep.off0 {p : Addr} (hp : H p = none) : ∀ (d : D) (v : V), Rep K y H d v → Rep K (y.off p) H d v := by
  have ne : ∀ {a : Addr} {u : HO}, H a = some u → ¬ y.Z a → ¬ (y.off p).Z a := fun {a u} h n z => by
    rcases z with z | (z | z) | z
    · exact n (.inl z)
    · exact n (.inr (.inl z))
    · exact ne_of_none h hp z
    · exact n (.inr (.inr z))
  have one : ∀ (n : Nat) (d : D) (v : V), sizeOf d < n → Rep K y H d v → Rep K (y.off p) H d v := by
    intro n
    induction n with
    | zero => intro d v hn; exact absurd hn (Nat.not_lt_zero _)
    | succ n ih =>
      have all : ∀ (ds : List D) (vs : List V), sizeOf ds < n → Reps K y H ds vs → Reps K (y.off p) H ds vs := by
        intro ds
        induction ds with
        | nil => intro vs _ h; simpa only [Reps] using h
        | cons d ds ih2 =>
          intro vs hn h
          simp only [Reps] at h ⊢
          obtain ⟨v, ws, e1, h1, h2⟩ := h
          simp only [List.cons.sizeOf_spec] at hn
          exact ⟨v, ws, e1, ih d v (by omega) h1, ih2 ws (by omega) h2⟩
      intro d v hn h
      cases d with
      | tup ds =>
        simp only [Rep] at h ⊢
        simp only [D.tup.sizeOf_spec] at hn
        obtain ⟨a, vs, e1, h1, h2⟩ := h
        refine ⟨a, vs, e1, ?_, all ds vs (by omega) h2⟩
        rcases h1 with h1 | h1
        · exact .inl ⟨ne h1.2 h1.1, h1.2⟩
        · exact .inr h1
      | lst ds =>
        simp only [Rep] at h ⊢
        simp only [D.lst.sizeOf_spec] at hn
        obtain ⟨a, vs, e1, z, h1, h2⟩ := h
        exact ⟨a, vs, e1, ne h1 z, h1, all ds vs (by omega) h2⟩
      | dct ks ds =>
        simp only [Rep] at h ⊢
        simp only [D.dct.sizeOf_spec] at hn
        obtain ⟨a, vs, e1, z, h1, hl, h2⟩ := h
        exact ⟨a, vs, e1, ne h1 z, h1, hl, all ds vs (by omega) h2⟩
      | ref k => simp only [Rep] at h ⊢; exact h
      | scr ns =>
        simp only [Rep] at h ⊢
        obtain ⟨a, e1, h1⟩ := h
        refine ⟨a, e1, ?_⟩
        rcases h1 with ⟨z, o, h1⟩ | h1
        · exact .inl ⟨ne h1 z, o, h1⟩
        · exact .inr h1
      | _ => simpa only [Rep] using h
  exact fun d v => one _ d v (Nat.lt_succ_self _)
theorem Reps.off0 {p : Addr} (hp : H p = none) : ∀ (ds : List D) (vs : List V), Reps K y H ds vs → Reps K (y.off p) H ds vs := by
  intro ds
  induction ds with
  | nil => intro vs h; simpa only [Reps] using h
  | cons d ds ih =>
    intro vs h
    simp only [Reps] at h ⊢
    obtain ⟨v, ws, e1, h1, h2⟩ := h
    exact ⟨v, ws, e1, Rep.off0 hp d v h1, ih ws h2⟩
theorem Reps.off {p : Addr} {o : HO} (hp : H p = none) (ds : List D) (vs : List V) (h : Reps K y H ds vs) : Reps K (y.off p) (upd H p o) ds vs :=
  Reps.mono (ext_new hp) _ _ (Reps.off0 hp _ _ h)
/-- less is avoided -/
theorem Reps.anti {y' : Gh} (hz : ∀ a, y'.Z a → y.Z a) (hal : ∃ t, y'.al = y.al ++ t) : (∀ (d : D) (v : V), Rep K y H d v → Rep K y' H d v) ∧ ∀ (ds : List D) (vs : List V), Reps K y H ds vs → Reps K y' H ds vs := by
  have one : ∀ (n : Nat) (d : D) (v : V), sizeOf d < n → Rep K y H d v → Rep K y' H d v := by
    intro n
    induction n with
    | zero => intro d v hn; exact absurd hn (Nat.not_lt_zero _)
    | succ n ih =>
      have all : ∀ (ds : List D) (vs : List V), sizeOf ds < n → Reps K y H ds vs → Reps K y' H ds vs := by
        intro ds
        induction ds with
        | nil => intro vs _ h; simpa only [Reps] using h
        | cons d ds ih2 =>
          intro vs hn h
          simp only [Reps] at h ⊢
          obtain ⟨v, ws, e1, h1, h2⟩ := h
          simp only [List.cons.sizeOf_spec] at hn
          exact ⟨v, ws, e1, ih d v (by omega) h1, ih2 ws (by omega) h2⟩
      intro d v hn h
      cases d with
      | tup ds =>
        simp only [Rep] at h ⊢
        simp only [D.tup.sizeOf_spec] at hn
        obtain ⟨a, vs, e1, h1, h2⟩ := h
        refine ⟨a, vs, e1, ?_, all ds vs (by omega) h2⟩
        rcases h1 with h1 | h1
        · exact .inl ⟨fun z => h1.1 (hz _ z), h1.2⟩
        · exact .inr h1
      | lst ds =>
        simp only [Rep] at h ⊢
        simp only [D.lst.sizeOf_spec] at hn
        obtain ⟨a, vs, e1, z, h1, h2⟩ := h
        exact ⟨a, vs, e1, fun q => z (hz _ q), h1, all ds vs (by omega) h2⟩
      | dct ks ds =>
        simp only [Rep] at h ⊢
        simp only [D.dct.sizeOf_spec] at hn
        obtain ⟨a, vs, e1, z, h1, hl, h2⟩ := h
        exact ⟨a, vs, e1, fun q => z (hz _ q), h1, hl, all ds vs (by omega) h2⟩
      | ref k =>
        simp only [Rep] at h ⊢
        obtain ⟨a, h1, h2⟩ := h
        obtain ⟨t, et⟩ := hal
        obtain ⟨hl, _⟩ := List.getElem?_eq_some_iff.mp h1
        exact ⟨a, by rw [et, List.getElem?_append_left hl]; exact h1, h2⟩
      | scr ns =>
        simp only [Rep] at h ⊢
        obtain ⟨a, e1, h1⟩ := h
        refine ⟨a, e1, ?_⟩
        rcases h1 with ⟨z, o, h1⟩ | h1
        · exact .inl ⟨fun q => z (hz _ q), o, h1⟩
        · exact .inr h1
      | _ => simpa only [Rep] using h
  refine ⟨fun d v => one _ d v (Nat.lt_succ_self _), fun ds => ?_⟩
  induction ds with
  | nil => intro vs h; simpa only [Reps] using h
  | cons d ds ih =>
    intro vs h
    simp only [Reps] at h ⊢
    obtain ⟨v, ws, e1, h1, h2⟩ := h
    exact ⟨v, ws, e1, one _ d v (Nat.lt_succ_self _) h1, ih ws h2⟩
theorem Good.off (G : Good K y H g) {p : Addr} {o : HO} (hp : H p = none) : Good K (y.off p) (upd H p o) g := by
  have N := G.new (o := o) hp
  have np : ∀ a, a ∈ y.al → a ≠ p := fun a ha e => by
    obtain ⟨u, h⟩ := G.zok a (.inr (.inr ha))
    exact ne_of_none h hp e
  have aw : ∀ a, (y.off p).W a → ¬ (y.off p).A a := fun a w z => by
    rcases w with w | w
    · exact G.aw a w z
    · obtain ⟨u, h⟩ := G.zok a (.inl z)
      exact ne_of_none h hp w
  refine ⟨fun a z => ?_, aw, fun a ha => ⟨(G.disj a ha).1, fun w => ?_⟩, G.nd, G.len, fun n a q h1 h2 => ?_⟩
  · rcases z with z | (z | z) | z
    · exact N.zok a (.inl z)
    · exact N.zok a (.inr (.inl z))
    · subst z; exact ⟨o, upd_same⟩
    · exact N.zok a (.inr (.inr z))
  · rcases w with w | w
    · exact (G.disj a ha).2 w
    · exact np a ha w
  · have h3 := G.objs n a q h1 h2
    cases q with
    | lst ds =>
      obtain ⟨vs, e1, e2⟩ := h3
      exact ⟨vs, by rw [upd_ne (ne_of_none e1 hp)]; exact e1, Reps.off hp _ _ e2⟩
/-- an address of the frame's own is written -/
theorem Good.upd (G : Good K y H g) {b : Addr} {o : HO} (w : y.W b) : Good K y (upd H b o) g ∧ Evo y H y (upd H b o) := by
  have ev : Evo y H y (L2.upd H b o) := ⟨rfl, ⟨[], by simp, fun _ h => by simp at h⟩, fun a u h _ hw => by rw [upd_ne (fun e : a = b => hw (by rw [e]; exact w))]; exact h, fun a h => by
    by_cases ea : a = b
    · subst ea; rw [upd_same] at h; cases h
    · rw [upd_ne ea] at h; exact h, fun a w => .inl w⟩
  refine ⟨⟨fun a z => ?_, G.aw, G.disj, G.nd, G.len, fun n a o h1 h2 => ?_⟩, ev⟩
  · by_cases ea : a = b
    · subst ea; exact ⟨_, upd_same⟩
    · rw [upd_ne ea]; exact G.zok a z
  · have h3 := G.objs n a o h1 h2
    have ne : a ≠ b := fun e => (G.disj b (e ▸ List.mem_of_getElem? h1)).2 w
    cases o with
    | lst os =>
      obtain ⟨ws, k1, k2⟩ := h3
      exact ⟨ws, by rw [upd_ne ne]; exact k1, Reps.monoS ev _ _ k2⟩
theorem Good.back {W0 : Addr → Prop} (G : Good K y H g) (hw : ∀ a, W0 a → y.W a) : Good K (y.back W0) H g := by
  have hz : ∀ a, (y.back W0).Z a → y.Z a := fun a z => by
    rcases z with z | z | z
    · exact .inl z
    · exact .inr (.inl (hw a z))
    · exact .inr (.inr z)
  refine ⟨fun a z => G.zok a (hz a z), fun a w => G.aw a (hw a w), fun a ha => ⟨(G.disj a ha).1, fun w => (G.disj a ha).2 (hw a w)⟩, G.nd, G.len, fun n a q h1 h2 => ?_⟩
  have h3 := G.objs n a q h1 h2
  cases q with
  | lst ds =>
    obtain ⟨vs, e1, e2⟩ := h3
    exact ⟨vs, e1, (Reps.anti hz ⟨[], by simp [Gh.back]⟩).2 _ _ e2⟩
theorem PostX.an {m : Mode} {o : D} (h : PostX K mg W m y σ H Q (.ok o g)) : An K y H Q o g := by
  cases m with
  | v => exact Ans.an (Ans.of (mg := mg) (W := W) (σ := σ) (t := false) h)
  | t => exact Ans.an (Ans.of (mg := mg) (W := W) (σ := σ) (t := true) h)
  | f =>
    intro y' H' e G
    have h : PostF K mg W y σ H Q (.ok o g) := h
    cases o with
    | lst ds => exact fun vs p r hp => h y' _ p vs (e.trans (ext_new hp)) (G.off hp) (e.dom p hp) (fun z => (G.free hp) (.inr (.inr z))) upd_same (Reps.off hp _ _ r)
    | dct ks ds => exact fun vs p r hl hp => h y' _ p vs (e.trans (ext_new hp)) (G.off hp) (e.dom p hp) (fun z => (G.free hp) (.inr (.inr z))) upd_same hl (Reps.off hp _ _ r)
    | _ => exact h.elim
end

def Bop.op : Bop → Operator
  | .add => .Add | .sub => .Sub | .mul => .Mult | .fdiv => .FloorDiv | .mod => .Mod | .pow => .Pow | .shl => .LShift | .shr => .RShift
def rBin (K : PySem.W.Frag) (op : Bop) : R2 := fun x z H Q => ∃ y g d e o, Good K y H g ∧ RepT K y H d x ∧ RepT K y H e z ∧ binop op d e = some o ∧ An K y H Q o g
end Bk
end
section
set_option Elab.async false
set_option linter.all false
set_option maxRecDepth 100000
set_option maxHeartbeats 4000000
namespace Bk
open PySem PySem.Spec PyProof.Rows L2
section
variable {K : PySem.W.Frag} {y : Gh} {H : Hp}
mutual
theorem dp_of : ∀ (d : D) (n : Nat) (v : V), Rep K y H d v → shp n d = true → Dp K H v (pyd d)
  | .non, _, _, h, _ => by simp only [Rep] at h; subst h; simp only [pyd]; exact .non
  | .bl b, _, _, h, _ => by simp only [Rep] at h; subst h; simp only [pyd]; exact .bl b
  | .int i, _, _, h, _ => by simp only [Rep] at h; subst h; simp only [pyd]; exact .int i
  | .str x, _, _, h, _ => by simp only [Rep] at h; subst h; simp only [pyd]; exact .str x
  | .tup ds, 0, _, _, s => by simp [shp] at s
  | .tup ds, n + 1, _, h, s => by
    simp only [Rep] at h; simp only [shp] at s
    obtain ⟨a, vs, rfl, h1, h2⟩ := h
    simp only [pyd]
    exact .tup h1.sq (dps_of ds n vs h2 s)
  | .lst ds, 0, _, _, s => by simp [shp] at s
  | .lst ds, n + 1, _, h, s => by
    simp only [Rep] at h; simp only [shp] at s
    obtain ⟨a, vs, rfl, _, h1, h2⟩ := h
    simp only [pyd]
    exact .lst (.inl (.inl h1)) (dps_of ds n vs h2 s)
  | .dct _ _, _, _, _, s => by simp [shp] at s
  | .ref _, _, _, _, s => by simp [shp] at s
  | .scr _, _, _, _, s => by simp [shp] at s
theorem dps_of : ∀ (ds : List D) (n : Nat) (vs : List V), Reps K y H ds vs → shps n ds = true → DpAll K H vs (pyds ds)
  | [], _, _, h, _ => by simp only [Reps] at h; subst h; simp only [pyds]; exact .nil
  | d :: ds, n, _, h, s => by
    simp only [Reps] at h; simp only [shps, Bool.and_eq_true] at s
    obtain ⟨v, ws, rfl, h1, h2⟩ := h
    simp only [pyds]
    exact .cons (dp_of d n v h1 s.1) (dps_of ds n ws h2 s.2)
end
theorem dp_t {d : D} {n : Nat} {v : V} (h : RepT K y H d v) (s : shp n d = true) : Dp K H v (pyd d) := by
  cases d with
  | lst ds =>
    obtain ⟨a, vs, rfl, h1, h2⟩ := rt_lst h
    cases n with
    | zero => simp [shp] at s
    | succ n =>
      simp only [shp] at s
      simp only [pyd]
      exact .lst (.inl (.inl h1)) (dps_of ds n vs h2 s)
  | dct ks ds => simp [shp] at s
  | non => exact dp_of (y := y) _ n v h s
  | bl b => exact dp_of (y := y) _ n v h s
  | int b => exact dp_of (y := y) _ n v h s
  | str b => exact dp_of (y := y) _ n v h s
  | tup b => exact dp_of (y := y) _ n v h s
  | ref b => exact dp_of (y := y) _ n v h s
  | scr b => exact dp_of (y := y) _ n v h s
end
mutual
theorem shp_lay : ∀ (d : D) (n : Nat), shp n d = true → (pyd d).canLay0 = true ∧ (pyd d).depth ≤ n
  | .non, _, _ => by simp [pyd, PyData.canLay0, PyData.depth]
  | .bl b, _, _ => by simp [pyd, PyData.canLay0, PyData.depth]
  | .int i, _, _ => by simp [pyd, PyData.canLay0, PyData.depth]
  | .str x, _, s => by simp only [shp] at s; simp [pyd, PyData.canLay0, PyData.depth, s]
  | .tup ds, 0, s => by simp [shp] at s
  | .tup ds, n + 1, s => by
    simp only [shp] at s
    obtain ⟨h1, h2⟩ := shps_lay ds n s
    simp only [pyd, PyData.canLay0, PyData.depth]
    exact ⟨h1, by omega⟩
  | .lst ds, 0, s => by simp [shp] at s
  | .lst ds, n + 1, s => by
    simp only [shp] at s
    obtain ⟨h1, h2⟩ := shps_lay ds n s
    simp only [pyd, PyData.canLay0, PyData.depth]
    exact ⟨h1, by omega⟩
  | .dct _ _, _, s => by simp [shp] at s
  | .ref _, _, s => by simp [shp] at s
  | .scr _, _, s => by simp [shp] at s
theorem shps_lay : ∀ (ds : List D) (n : Nat), shps n ds = true → PyData.canLayAll0 (pyds ds) = true ∧ PyData.depthAll (pyds ds) ≤ n
  | [], _, _ => by simp [pyds, PyData.canLayAll0, PyData.depthAll]
  | d :: ds, n, s => by
    simp only [shps, Bool.and_eq_true] at s
    obtain ⟨h1, h2⟩ := shp_lay d n s.1
    obtain ⟨h3, h4⟩ := shps_lay ds n s.2
    simp only [pyds, PyData.canLayAll0, PyData.depthAll, h1, h3, Bool.and_self, true_and]
    omega
end
theorem shp_shaped {d : D} (s : shp 60 d = true) : SeqAt.shaped (pyd d) = true := by
  obtain ⟨h1, h2⟩ := shp_lay d 60 s
  unfold SeqAt.shaped
  rw [h1, Bool.true_and]
  exact decide_eq_true (by omega)
mutual
theorem eqD_py : ∀ (d e : D) (n m : Nat), shp n d = true → shp m e = true → eqD d e = PyData.eqv (pyd d) (pyd e)
  | .dct _ _, _, _, _, s, _ => by simp [shp] at s
  | .ref _, _, _, _, s, _ => by simp [shp] at s
  | .scr _, _, _, _, s, _ => by simp [shp] at s
  | .non, e, _, _, _, s => by cases e <;> simp_all [eqD, pyd, PyData.eqv, shp]
  | .bl b, e, _, _, _, s => by cases e <;> simp_all [eqD, pyd, PyData.eqv, shp]
  | .int i, e, _, _, _, s => by cases e <;> simp_all [eqD, pyd, PyData.eqv, shp]
  | .str x, e, _, _, _, s => by cases e <;> simp_all [eqD, pyd, PyData.eqv, shp]
  | .tup ds, e, n, m, s, s' => by
    cases n with
    | zero => simp [shp] at s
    | succ n =>
      simp only [shp] at s
      cases e with
      | tup es =>
        cases m with
        | zero => simp [shp] at s'
        | succ m =>
          simp only [shp] at s'
          simp only [eqD, pyd, PyData.eqv]
          exact eqDs_py ds es n m s s'
      | _ => first | (simp [shp] at s'; done) | simp [eqD, pyd, PyData.eqv]
  | .lst ds, e, n, m, s, s' => by
    cases n with
    | zero => simp [shp] at s
    | succ n =>
      simp only [shp] at s
      cases e with
      | lst es =>
        cases m with
        | zero => simp [shp] at s'
        | succ m =>
          simp only [shp] at s'
          simp only [eqD, pyd, PyData.eqv]
          exact eqDs_py ds es n m s s'
      | _ => first | (simp [shp] at s'; done) | simp [eqD, pyd, PyData.eqv]
theorem eqDs_py : ∀ (ds es : List D) (n m : Nat), shps n ds = true → shps m es = true → eqDs ds es = PyData.eqvAll (pyds ds) (pyds es)
  | [], [], _, _, _, _ => by simp [eqDs, pyds, PyData.eqvAll]
  | [], _ :: _, _, _, _, _ => by simp [eqDs, pyds, PyData.eqvAll]
  | _ :: _, [], _, _, _, _ => by simp [eqDs, pyds, PyData.eqvAll]
  | d :: ds, e :: es, n, m, s, s' => by
    simp only [shps, Bool.and_eq_true] at s s'
    simp only [eqDs, pyds, PyData.eqvAll]
    rw [eqD_py d e n m s.1 s'.1, eqDs_py ds es n m s.2 s'.2]
end

section
variable {K : PySem.W.Frag} {y : Gh} {H : Hp}
theorem rep_flat {d : D} {v : V} (h : Rep K y H d v) (f : flat d = true) : flatV v = true ∧ ∀ {e : D} {w : V}, Rep K y H e w → flat e = true → eqV v w = eqF d e := by
  cases d <;> simp [flat] at f <;> simp only [Rep] at h <;> subst h <;> refine ⟨rfl, fun {e w} h2 f2 => ?_⟩ <;>
    cases e <;> simp [flat] at f2 <;> simp only [Rep] at h2 <;> subst h2 <;> first | rfl | (simp [eqV, eqF]; done)
theorem reps_flat {d : D} {v : V} (h : Rep K y H d v) (f : flat d = true) : ∀ {ds : List D} {vs : List V}, Reps K y H ds vs → ds.all flat = true → vs.all flatV = true ∧ (vs.any fun z => eqV z v) = ds.any fun z => eqF z d
  | [], _, h2, _ => by simp only [Reps] at h2; subst h2; exact ⟨rfl, rfl⟩
  | e :: ds, _, h2, f2 => by
    simp only [Reps] at h2
    obtain ⟨w, ws, rfl, h3, h4⟩ := h2
    rw [List.all_cons, Bool.and_eq_true] at f2
    obtain ⟨q1, q2⟩ := rep_flat h3 f2.1
    obtain ⟨q3, q4⟩ := reps_flat h f h4 f2.2
    exact ⟨by rw [List.all_cons, q1, q3]; rfl, by rw [List.any_cons, List.any_cons, q2 h f, q4]⟩
theorem rt_flat {d : D} {v : V} (h : RepT K y H d v) (f : flat d = true) : Rep K y H d v := by
  cases d <;> simp [flat] at f <;> exact h
theorem ints_rep : ∀ {ds : List D} {vs : List V} {ns : List Int}, Reps K y H ds vs → ints? ds = some ns → ds = ns.map D.int ∧ vs = ns.map V.int
  | [], _, _, h, e => by simp only [Reps] at h; subst h; simp [ints?] at e; subst e; exact ⟨rfl, rfl⟩
  | d :: ds, _, ns, h, e => by
    simp only [Reps] at h
    obtain ⟨w, ws, rfl, h3, h4⟩ := h
    cases d with
    | int i =>
      simp only [ints?] at e
      cases q : ints? ds with
      | none => rw [q] at e; cases e
      | some ms =>
        rw [q] at e
        simp only [Option.map_some, Option.some.injEq] at e
        subst e
        obtain ⟨e1, e2⟩ := ints_rep h4 q
        simp only [Rep] at h3
        subst h3
        exact ⟨by rw [e1]; rfl, by rw [e2]; rfl⟩
    | _ => simp [ints?] at e
theorem bools_rep : ∀ {ds : List D} {vs : List V} {ns : List Bool}, Reps K y H ds vs → bools? ds = some ns → vs = ns.map V.bl
  | [], _, _, h, e => by simp only [Reps] at h; subst h; simp [bools?] at e; subst e; rfl
  | d :: ds, _, ns, h, e => by
    simp only [Reps] at h
    obtain ⟨w, ws, rfl, h3, h4⟩ := h
    cases d with
    | bl i =>
      simp only [bools?] at e
      cases q : bools? ds with
      | none => rw [q] at e; cases e
      | some ms =>
        rw [q] at e
        simp only [Option.map_some, Option.some.injEq] at e
        subst e
        have e2 := bools_rep h4 q
        simp only [Rep] at h3
        subst h3
        rw [e2]; rfl
    | _ => simp [bools?] at e
end

/-! ## the two-place operators -/
section
variable {X : Cx}
theorem bits64 {j : Int} (h0 : 0 < j) (h : j < 2 ^ 64) : CDivW 0 j := ⟨h0, by
  have h1 : j.natAbs < 2 ^ 64 := by omega
  have h2 : j.natAbs ≠ 0 := by omega
  have := (Nat.log2_lt h2 (k := 64)).mpr h1
  omega⟩
theorem op_bin (hr : X.A.units + 64 < cLine) (op : Bop) : OpR X (binaryOp op.op) (rBin X.K op) := by
  intro pins s σ H x z v u Q I rx rz h
  obtain ⟨y, g, d, e, o, G, h1, h2, ho, a⟩ := h
  cases op with
  | add =>
    cases d with
    | int i =>
      cases e with
      | int j =>
        simp only [binop, Option.some.injEq] at ho; subst ho
        exact op_add pins s σ H x z v u Q I rx rz ⟨i, j, rt_int h1, rt_int h2, a.int G⟩
      | _ => simp [binop] at ho
    | tup xs =>
      cases e with
      | tup ys =>
        simp only [binop, mkT] at ho
        split at ho
        · rename_i hl
          simp only [Option.some.injEq] at ho; subst ho
          have r1 : Rep X.K y H (.tup xs) x := h1
          have r2 : Rep X.K y H (.tup ys) z := h2
          obtain ⟨p, vs, e1, t1, q1⟩ := rt_tup h1
          obtain ⟨q, ws, e2, t2, q2⟩ := rt_tup h2
          refine op_catA pins s σ H x z v u Q I rx rz ⟨p, q, vs, ws, e1, e2, t1, t2, ?_, fun en => ?_, fun hn en => ?_, fun hn hm p' hp => ?_⟩
          · rw [← q1.length, ← q2.length, ← List.length_append]; exact lim_size hl
          · have e0 : xs = [] := List.eq_nil_of_length_eq_zero (by rw [q1.length, en]; rfl)
            subst e0
            rw [← e2]
            exact a.tupV G r2
          · have e0 : ys = [] := List.eq_nil_of_length_eq_zero (by rw [q2.length, en]; rfl)
            subst e0
            rw [← e1]
            refine a.tupV G ?_
            rw [List.append_nil]; exact r1
          · exact a.newT G (q1.append q2) p' hp
        · cases ho
      | _ => simp [binop] at ho
    | lst xs =>
      cases e with
      | lst ys =>
        simp only [binop, mkL] at ho
        split at ho
        · rename_i hl
          simp only [Option.some.injEq] at ho; subst ho
          obtain ⟨p, vs, e1, t1, q1⟩ := rt_lst h1
          obtain ⟨q, ws, e2, t2, q2⟩ := rt_lst h2
          refine op_cat pins s σ H x z v u Q I rx rz ⟨p, q, vs, ws, e1, e2, t1, t2, ?_, fun p' hp => a.newL G (q1.append q2) p' hp⟩
          rw [← q1.length, ← q2.length, ← List.length_append]; exact lim_size hl
        · cases ho
      | _ => simp [binop] at ho
    | str xs =>
      cases e with
      | str ys =>
        simp only [binop] at ho
        split at ho
        · rename_i hl
          simp only [Option.some.injEq] at ho; subst ho
          exact op_add_str pins s σ H x z v u Q I rx rz ⟨xs, ys, rt_str h1, rt_str h2, lim_size hl, a.str G⟩
        · cases ho
      | _ => simp [binop] at ho
    | _ => simp [binop] at ho
  | sub =>
    cases d with
    | int i =>
      cases e with
      | int j =>
        simp only [binop, Option.some.injEq] at ho; subst ho
        exact op_sub pins s σ H x z v u Q I rx rz ⟨i, j, rt_int h1, rt_int h2, a.int G⟩
      | _ => simp [binop] at ho
    | _ => simp [binop] at ho
  | mul =>
    cases d with
    | int i =>
      cases e with
      | int j =>
        simp only [binop] at ho
        split at ho
        · rename_i hc
          simp only [Option.some.injEq] at ho; subst ho
          exact op_mul pins s σ H x z v u Q I rx rz ⟨i, j, rt_int h1, rt_int h2, hc, a.int G⟩
        · cases ho
      | _ => simp [binop] at ho
    | lst xs =>
      cases e with
      | int k =>
        simp only [binop] at ho
        split at ho
        · rename_i hc
          simp only [Option.some.injEq] at ho; subst ho
          obtain ⟨p, vs, e1, t1, q1⟩ := rt_lst h1
          refine op_rep pins s σ H x z v u Q I rx rz ⟨p, k, vs, e1, rt_int h2, t1, by omega, by omega, ?_, fun p' hp => a.newL G (q1.replicate _) p' hp⟩
          rw [← q1.length]; exact lim_size hc.2.2
        · cases ho
      | _ => simp [binop] at ho
    | tup xs =>
      cases e with
      | int k =>
        simp only [binop] at ho
        split at ho
        · rename_i hc
          simp only [Option.some.injEq] at ho; subst ho
          obtain ⟨p, vs, e1, t1, q1⟩ := rt_tup h1
          refine op_repT pins s σ H x z v u Q I rx rz ⟨p, k, vs, e1, rt_int h2, t1, fun en => hc.1 (List.eq_nil_of_length_eq_zero (by rw [q1.length, en]; rfl)), hc.2.1, hc.2.2.1, by rw [← q1.length]; exact hc.2.2.2, fun p' hp => a.newT G (q1.replicate _) p' hp⟩
        · cases ho
      | _ => simp [binop] at ho
    | _ => simp [binop] at ho
  | fdiv =>
    cases d with
    | int i =>
      cases e with
      | int j =>
        simp only [binop] at ho
        split at ho
        · rename_i hc
          simp only [Option.some.injEq] at ho; subst ho
          exact op_fdivW pins s σ H x z v u Q I rx rz ⟨i, j, rt_int h1, rt_int h2, bits64 hc.1 hc.2, a.int G⟩
        · cases ho
      | _ => simp [binop] at ho
    | _ => simp [binop] at ho
  | mod =>
    cases d with
    | int i =>
      cases e with
      | int j =>
        simp only [binop] at ho
        split at ho
        · rename_i hc
          simp only [Option.some.injEq] at ho; subst ho
          exact op_mod pins s σ H x z v u Q I rx rz ⟨i, j, rt_int h1, rt_int h2, hc, a.int G⟩
        · cases ho
      | _ => simp [binop] at ho
    | _ => simp [binop] at ho
  | pow =>
    cases d with
    | int i =>
      cases e with
      | int j =>
        simp only [binop] at ho
        split at ho
        · rename_i hc
          simp only [Option.some.injEq] at ho; subst ho
          exact op_pow pins s σ H x z v u Q I rx rz ⟨i, j, rt_int h1, rt_int h2, ⟨hc.1, by omega, hc.2.2⟩, a.int G⟩
        · cases ho
      | _ => simp [binop] at ho
    | _ => simp [binop] at ho
  | shl =>
    cases d with
    | int i =>
      cases e with
      | int j =>
        simp only [binop] at ho
        split at ho
        · rename_i hc
          simp only [Option.some.injEq] at ho; subst ho
          exact op_shl pins s σ H x z v u Q I rx rz ⟨i, j, rt_int h1, rt_int h2, ⟨hc.1, by omega, hc.2.2⟩, a.int G⟩
        · cases ho
      | _ => simp [binop] at ho
    | _ => simp [binop] at ho
  | shr =>
    cases d with
    | int i =>
      cases e with
      | int j =>
        simp only [binop] at ho
        split at ho
        · rename_i hc
          simp only [Option.some.injEq] at ho; subst ho
          exact op_shr pins s σ H x z v u Q I rx rz ⟨i, j, rt_int h1, rt_int h2, hc, a.int G⟩
        · cases ho
      | _ => simp [binop] at ho
    | _ => simp [binop] at ho

def Cop.op : Cop → CmpOp
  | .eq => .Eq | .ne => .NotEq | .lt => .Lt | .le => .LtE | .gt => .Gt | .ge => .GtE | .isN => .Is | .notN => .IsNot | .mem => .In | .nmem => .NotIn
def rCmp (K : PySem.W.Frag) (op : Cop) : R2 := fun x z H Q => ∃ y g d e b, Good K y H g ∧ RepT K y H d x ∧ RepT K y H e z ∧ cmpop op d e = some b ∧ Q (.bl b) H
theorem nonV {K : PySem.W.Frag} {y : Gh} {H : Hp} {d : D} {v : V} (h : RepT K y H d v) : decide (v = .non) = d.isNon := by
  cases d with
  | non => rw [rt_non h]; rfl
  | bl b => rw [rt_bl h]; rfl
  | int b => rw [rt_int h]; rfl
  | str b => rw [rt_str h]; rfl
  | lst ds => obtain ⟨a, vs, rfl, _⟩ := rt_lst h; rfl
  | tup ds => obtain ⟨a, vs, rfl, _⟩ := rt_tup h; rfl
  | dct ks ds => obtain ⟨a, vs, rfl, _⟩ := h; rfl
  | ref n =>
    simp only [RepT, Rep] at h
    obtain ⟨a, _, rfl⟩ := h; rfl
  | scr n =>
    simp only [RepT, Rep] at h
    obtain ⟨a, rfl, _⟩ := h; rfl
theorem op_cmp (hr : X.A.units + 64 < cLine) (op : Cop) : OpR X (compareOp op.op) (rCmp X.K op) := by
  intro pins s σ H x z v u Q I rx rz h
  obtain ⟨y, g, d, e, b, G, h1, h2, ho, q⟩ := h
  have memb : ∀ {xs : List D} {ws : List V}, Reps X.K y H xs ws → (flat d && xs.all flat) = true → flatV x = true ∧ ws.all flatV = true ∧ (xs.any fun z => eqF z d) = inV x ws := fun {xs ws} hr hf => by
    rw [Bool.and_eq_true] at hf
    have hd := rt_flat h1 hf.1
    obtain ⟨q1, q2⟩ := reps_flat hd hf.1 hr hf.2
    exact ⟨(rep_flat hd hf.1).1, q1, q2.symm⟩
  cases op with
  | eq =>
    have gen : (shp 60 d && shp 60 e) = true → b = eqD d e → wpAny (model X.prog X.w) X.A (compareOp .Eq v u) (EP X pins σ Q) X.xe s := fun hs eb => by
      rw [Bool.and_eq_true] at hs
      refine op_eqD hr pins s σ H x z v u Q I rx rz ⟨_, _, dp_t h1 hs.1, dp_t h2 hs.2, shp_shaped hs.1, shp_shaped hs.2, ?_⟩
      rw [← eqD_py d e 60 60 hs.1 hs.2, ← eb]; exact q
    unfold cmpop at ho
    split at ho <;> first
      | (rename_i x1 y1 _
         simp only [Option.some.injEq] at ho
         refine op_eq pins s σ H x z v u Q I rx rz ⟨by rw [rt_str h1, rt_str h2]; rfl, ?_⟩
         rw [rt_str h1, rt_str h2, dec_str, ho]; exact q)
      | (split at ho
         · rename_i hs
           exact gen hs (Option.some.inj ho).symm
         · cases ho)
      | (rename_i hh; cases hh)
      | (rename_i hh _; cases hh)
      | (rename_i hh _ _; cases hh)
      | (cases ho)
  | ne =>
    have gen : (shp 60 d && shp 60 e) = true → b = (!eqD d e) → wpAny (model X.prog X.w) X.A (compareOp .NotEq v u) (EP X pins σ Q) X.xe s := fun hs eb => by
      rw [Bool.and_eq_true] at hs
      refine op_neD hr pins s σ H x z v u Q I rx rz ⟨_, _, dp_t h1 hs.1, dp_t h2 hs.2, shp_shaped hs.1, shp_shaped hs.2, ?_⟩
      rw [← eqD_py d e 60 60 hs.1 hs.2, ← eb]; exact q
    unfold cmpop at ho
    split at ho <;> first
      | (rename_i x1 y1 _
         simp only [Option.some.injEq] at ho
         refine op_ne pins s σ H x z v u Q I rx rz ⟨by rw [rt_str h1, rt_str h2]; rfl, ?_⟩
         rw [rt_str h1, rt_str h2, dec_str, ho]; exact q)
      | (split at ho
         · rename_i hs
           exact gen hs (Option.some.inj ho).symm
         · cases ho)
      | (rename_i hh; cases hh)
      | (rename_i hh _; cases hh)
      | (rename_i hh _ _; cases hh)
      | (cases ho)
  | lt =>
    cases d with
    | int i =>
      cases e with
      | int j =>
        simp only [cmpop, Option.some.injEq] at ho; subst ho
        exact op_lt pins s σ H x z v u Q I rx rz ⟨i, j, rt_int h1, rt_int h2, q⟩
      | _ => simp [cmpop] at ho
    | _ => simp [cmpop] at ho
  | le =>
    cases d with
    | int i =>
      cases e with
      | int j =>
        simp only [cmpop, Option.some.injEq] at ho; subst ho
        exact op_le pins s σ H x z v u Q I rx rz ⟨i, j, rt_int h1, rt_int h2, q⟩
      | _ => simp [cmpop] at ho
    | _ => simp [cmpop] at ho
  | gt =>
    cases d with
    | int i =>
      cases e with
      | int j =>
        simp only [cmpop, Option.some.injEq] at ho; subst ho
        exact op_gt pins s σ H x z v u Q I rx rz ⟨i, j, rt_int h1, rt_int h2, q⟩
      | _ => simp [cmpop] at ho
    | _ => simp [cmpop] at ho
  | ge =>
    cases d with
    | int i =>
      cases e with
      | int j =>
        simp only [cmpop, Option.some.injEq] at ho; subst ho
        exact op_ge pins s σ H x z v u Q I rx rz ⟨i, j, rt_int h1, rt_int h2, q⟩
      | _ => simp [cmpop] at ho
    | _ => simp [cmpop] at ho
  | isN =>
    cases e with
    | non =>
      simp only [cmpop, Option.some.injEq] at ho
      refine op_isN pins s σ H x z v u Q I rx rz ⟨rt_non h2, ?_⟩
      rw [nonV h1, ho]; exact q
    | _ => simp [cmpop] at ho
  | notN =>
    cases e with
    | non =>
      simp only [cmpop, Option.some.injEq] at ho
      refine op_notN pins s σ H x z v u Q I rx rz ⟨rt_non h2, ?_⟩
      rw [nonV h1, ho]; exact q
    | _ => simp [cmpop] at ho
  | mem =>
    cases e with
    | lst xs =>
      simp only [cmpop] at ho
      split at ho
      · rename_i hf
        simp only [Option.some.injEq] at ho
        obtain ⟨p, ws, e1, t1, q1⟩ := rt_lst h2
        obtain ⟨f1, f2, f3⟩ := memb q1 hf
        exact op_in_seq pins s σ H x z v u Q I rx rz ⟨p, ws, e1, .inl (.inl (.inl t1)), f1, f2, by show Q (.bl (inV x ws)) H; rw [← f3, ho]; exact q⟩
      · cases ho
    | tup xs =>
      simp only [cmpop] at ho
      split at ho
      · rename_i hf
        simp only [Option.some.injEq] at ho
        obtain ⟨p, ws, e1, t1, q1⟩ := rt_tup h2
        obtain ⟨f1, f2, f3⟩ := memb q1 hf
        exact op_in_seq pins s σ H x z v u Q I rx rz ⟨p, ws, e1, .inr t1, f1, f2, by show Q (.bl (inV x ws)) H; rw [← f3, ho]; exact q⟩
      · cases ho
    | _ => simp [cmpop] at ho
  | nmem =>
    cases e with
    | lst xs =>
      simp only [cmpop] at ho
      split at ho
      · rename_i hf
        simp only [Option.some.injEq] at ho
        obtain ⟨p, ws, e1, t1, q1⟩ := rt_lst h2
        obtain ⟨f1, f2, f3⟩ := memb q1 hf
        exact op_notIn_seq pins s σ H x z v u Q I rx rz ⟨p, ws, e1, .inl (.inl (.inl t1)), f1, f2, by show Q (.bl (!inV x ws)) H; rw [← f3, ho]; exact q⟩
      · cases ho
    | tup xs =>
      simp only [cmpop] at ho
      split at ho
      · rename_i hf
        simp only [Option.some.injEq] at ho
        obtain ⟨p, ws, e1, t1, q1⟩ := rt_tup h2
        obtain ⟨f1, f2, f3⟩ := memb q1 hf
        exact op_notIn_seq pins s σ H x z v u Q I rx rz ⟨p, ws, e1, .inr t1, f1, f2, by show Q (.bl (!inV x ws)) H; rw [← f3, ho]; exact q⟩
      · cases ho
    | _ => simp [cmpop] at ho
end
end Bk
end
section
set_option Elab.async false
set_option linter.all false
set_option maxRecDepth 100000
set_option maxHeartbeats 4000000
namespace Bk
open PySem PySem.Spec PyProof.Rows L2

/-! ## items, slices -/
def rIxB (K : PySem.W.Frag) : R2 := fun x z H Q => ∃ y g d e o, Good K y H g ∧ RepT K y H d x ∧ RepT K y H e z ∧ ixD (deref g d) e = some o ∧ Ans K y H Q o g
section
variable {K : PySem.W.Frag} {y : Gh} {H : Hp} {g : List O}
theorem at_rep {ds : List D} {vs : List V} {i : Int} {d : D} (r : Reps K y H ds vs) (h : atI ds i = some d) : ∃ v, atI vs i = some v ∧ Rep K y H d v := by
  unfold atI at h ⊢
  rw [← r.length]
  cases e : ixN ds.length i with
  | none => rw [e] at h; cases h
  | some j =>
    rw [e] at h
    obtain ⟨v, h1, h2⟩ := r.at (i := j) h
    exact ⟨v, h1, h2⟩
theorem rt_deref {d : D} {v : V} (G : Good K y H g) (h : RepT K y H d v) : (∃ ds, deref g d = .lst ds ∧ ∃ a vs, v = .ref a ∧ H a = some (.lst vs) ∧ Reps K y H ds vs) ∨ deref g d = d := by
  cases d with
  | lst ds => exact .inl ⟨ds, rfl, rt_lst h⟩
  | ref n =>
    simp only [RepT, Rep] at h
    obtain ⟨a, h1, rfl⟩ := h
    simp only [deref]
    cases e : g[n]? with
    | none => exact .inr rfl
    | some o =>
      cases o with
      | lst ds =>
        obtain ⟨vs, h2, h3⟩ := G.objs n a _ h1 e
        exact .inl ⟨ds, rfl, a, vs, rfl, h2, h3⟩
  | _ => exact .inr rfl
theorem Reps.cut {ds : List D} {vs : List V} (r : Reps K y H ds vs) (lo hi : Option Int) : Reps K y H (cut ds lo hi) (cutV vs lo hi) := by
  unfold Bk.cut cutV
  rw [r.length]
  exact (r.drop _).take _
end
section
variable {X : Cx}
theorem ix_B : IxR X (rIxB X.K) := by
  intro value slice pins s σ H x z v u Q I rx rz h hs
  obtain ⟨y, g, d, e, o, G, h1, h2, ho, a⟩ := h
  rcases rt_deref G h1 with ⟨ds, e1, p, vs, rfl, hp, r⟩ | e1
  · rw [e1] at ho
    cases e with
    | int i =>
      simp only [ixD] at ho
      obtain ⟨w, h3, h4⟩ := at_rep r ho
      exact ix_list value slice pins s σ H _ z v u Q I rx rz ⟨p, vs, i, w, rfl, rt_int h2, .inl (.inl hp), h3, a.val G h4⟩ hs
    | _ => simp [ixD] at ho
  · rw [e1] at ho
    cases d with
    | tup ds =>
      cases e with
      | int i =>
        simp only [ixD] at ho
        obtain ⟨p, vs, rfl, hp, r⟩ := rt_tup h1
        obtain ⟨w, h3, h4⟩ := at_rep r ho
        exact ix_tup value slice pins s σ H _ z v u Q I rx rz ⟨p, vs, i, w, rfl, rt_int h2, hp, h3, a.val G h4⟩ hs
      | _ => simp [ixD] at ho
    | lst ds =>
      cases e with
      | int i =>
        simp only [ixD] at ho
        obtain ⟨p, vs, rfl, hp, r⟩ := rt_lst h1
        obtain ⟨w, h3, h4⟩ := at_rep r ho
        exact ix_list value slice pins s σ H _ z v u Q I rx rz ⟨p, vs, i, w, rfl, rt_int h2, .inl (.inl hp), h3, a.val G h4⟩ hs
      | _ => simp [ixD] at ho
    | _ => simp [ixD] at ho
def rSlB (K : PySem.W.Frag) : V → Option Int → Option Int → Hp → VK → Prop := fun x lo hi H Q => ∃ y g d o, Good K y H g ∧ RepT K y H d x ∧ sliceD d lo hi = some o ∧ An K y H Q o g
theorem sl_B : SlR X (rSlB X.K) := by
  intro pins s σ H x v vl vu lo hi sl Q I rx hs pl pu h
  obtain ⟨y, g, d, o, G, h1, ho, a⟩ := h
  cases d with
  | lst ds =>
    simp only [sliceD, Option.some.injEq] at ho; subst ho
    obtain ⟨p, vs, rfl, hp, r⟩ := rt_lst h1
    exact sl_list pins s σ H _ v vl vu lo hi sl Q I rx hs pl pu ⟨p, vs, rfl, .inl (.inl hp), fun q hq => a.newL G (r.cut lo hi) q hq⟩
  | tup ds =>
    simp only [sliceD, Option.some.injEq] at ho; subst ho
    have r0 : Rep X.K y H (.tup ds) x := h1
    obtain ⟨p, vs, rfl, hp, r⟩ := rt_tup h1
    refine sl_tupA pins s σ H _ v vl vu lo hi sl Q I rx hs pl pu ⟨p, vs, rfl, hp, fun e => ?_, fun _ q hq => a.newT G (r.cut lo hi) q hq⟩
    refine a.tupV G ?_
    have e2 : cut ds lo hi = ds := by
      unfold Bk.cut
      rw [r.length, e.1, e.2, List.drop_zero, Nat.sub_zero, ← r.length, List.take_length]
    rw [e2]; exact r0
  | scr ns =>
    simp only [sliceD, Option.some.injEq] at ho; subst ho
    obtain ⟨p, rfl, hp⟩ : ∃ p, x = .ref p ∧ ScrAt X.K y H p (ns.map V.int) := by simpa only [RepT, Rep] using h1
    refine sl_list pins s σ H _ v vl vu lo hi sl Q I rx hs pl pu ⟨p, _, rfl, hp.sq, fun q hq => ?_⟩
    have e : cutV (ns.map V.int) lo hi = (cut ns lo hi).map V.int := by
      unfold Bk.cut cutV
      rw [List.length_map, List.map_take, List.map_drop]
    rw [e]
    exact a.newL G Reps.ints q hq
  | _ => simp [sliceD] at ho

/-! ## built-in functions -/
def Bi.val : Bi → Value
  | .len => .builtin "len" | .abs => .builtin "abs" | .sum => .builtin "sum" | .tuple => .type "tuple" | .list => .type "list" | .sorted => .builtin "sorted"
  | .int => .type "int" | .str => .type "str" | .repr => .builtin "repr" | .max => .builtin "max" | .min => .builtin "min" | .all => .builtin "all"
def rBi (K : PySem.W.Frag) (f : Bi) : List V → Hp → VK → Prop := fun xs H Q => ∃ y g ds o, Good K y H g ∧ RepsX K true y H ds xs ∧ biG g f ds = some o ∧ An K y H Q o g
theorem insI_perm (x : Int) : ∀ l : List Int, (insI x l).Perm (x :: l)
  | [] => .refl _
  | y :: r => by
    unfold insI
    split
    · exact .refl _
    · exact ((insI_perm x r).cons y).trans (.swap x y r)
theorem insI_pw (x : Int) : ∀ l : List Int, l.Pairwise (· ≤ ·) → (insI x l).Pairwise (· ≤ ·)
  | [], _ => by simp [insI]
  | y :: r, h => by
    obtain ⟨h1, h2⟩ := List.pairwise_cons.mp h
    unfold insI
    split
    · rename_i hx
      refine List.pairwise_cons.mpr ⟨fun z hz => ?_, h⟩
      rcases List.mem_cons.mp hz with rfl | hz
      · exact hx
      · exact Int.le_trans hx (h1 z hz)
    · rename_i hx
      refine List.pairwise_cons.mpr ⟨fun z hz => ?_, insI_pw x r h2⟩
      rcases List.mem_cons.mp ((insI_perm x r).mem_iff.mp hz) with rfl | hz
      · omega
      · exact h1 z hz
theorem sortI_perm : ∀ l : List Int, (sortI l).Perm l
  | [] => .refl _
  | x :: r => (insI_perm x (sortI r)).trans ((sortI_perm r).cons x)
theorem sortI_pw : ∀ l : List Int, (sortI l).Pairwise (· ≤ ·)
  | [] => .nil
  | x :: r => insI_pw x _ (sortI_pw r)
theorem pw_unique : ∀ {l m : List Int}, l.Perm m → l.Pairwise (· ≤ ·) → m.Pairwise (· ≤ ·) → l = m := fun {l m} p h1 h2 =>
  List.Perm.eq_of_pairwise (fun a b _ _ h h' => Int.le_antisymm h h') h1 h2 p
theorem sorted_is {l m : List Int} (p : m.Perm l) (h : m.Pairwise (· ≤ ·)) : m = sortI l := pw_unique (p.trans (sortI_perm l).symm) h (sortI_pw l)

theorem tup_sum (ok : X.calm = true) {pins : List (Addr × Obj)} {s : Shared} {σ : L2.St} {H : Hp} {a : Addr} {ns : List Int} {Q : VK} (I : Inv X pins σ H s) (ht : SqT X.K H a (ns.map V.int)) (q : Q (.int ns.sum) H) :
    wpAny (model X.prog X.w) X.A (call (.builtin "sum") [.ref a]) (EP X pins σ Q) X.xe s := by
  obtain ⟨its, rv, p, _⟩ := I.tuple ht
  obtain ⟨xs, e⟩ := rv.ints.allInts.items
  have hn : numsOf (intItems xs).toList = ns := by rw [← e]; exact rv.ints.numsOf
  rw [nums_intItems] at hn
  have p' : s.heap.IsTuple a (intItems xs) := by rw [← e]; exact p
  refine PySem.W.ktm_sumG (I.ok.hd ok) p' fun h' tk t' hk => ?_
  rw [preSum_eq, List.take_of_length_le (by simp), hn]
  exact ⟨.int _, H, I.kept hk, ⟨_, rfl⟩, q⟩
theorem tup_sorted {pins : List (Addr × Obj)} {s : Shared} {σ : L2.St} {H : Hp} {a : Addr} {ns : List Int} {Q : VK} (I : Inv X pins σ H s) (ht : SqT X.K H a (ns.map V.int))
    (q : ∀ (ns' : List Int) (p : Addr), ns'.Perm ns → ns'.Pairwise (· ≤ ·) → H p = none → Q (.ref p) (upd H p (.lst (ns'.map V.int)))) :
    wpAny (model X.prog X.w) X.A (call (.builtin "sorted") [.ref a]) (EP X pins σ Q) X.xe s := by
  obtain ⟨its, rv, ⟨o, ho, hc, n, hd⟩, hz⟩ := I.tuple ht
  have hsz : its.length ≤ sizeLine := by rw [← rv.length]; exact hz
  refine Calls.call_function_entry PyProof.Rows.kind_sorted PyProof.Rows.plain_sorted PyProof.Rows.entry_sorted (PyProof.Rows.args_sorted1 _) ?_
  unfold Builtin.«sorted»
  refine wpAny_bind (m := checkCount "sorted" 1 1 _) (wpAny_pure ?_)
  refine wpAny_bind (wpAny_collect_seq a (.inr rfl) ho hc hd (fun h' hk => ?_) (by rw [List.size_toArray]; exact hsz))
  refine wpAny_bind (wpAny_newList ?_)
  have hob : (h'.push (seqObj "list" its.toArray 0)).get? h'.objs.size = some (seqObj "list" its.toArray 0) := Heap.get?_push_size _ rfl
  refine wpAny_bind (wpAny_holding (wpAny_call_entry PyProof.Rows.slot_list_sort ⟨_, hob, rfl⟩ PyProof.Rows.entry_list_sort
    (SrtO.list_sort_ord SrtO.swo_int hob hsz (fun h2 => SrtO.ints_sortable rv.ints h2) fun out h1 h2 => ⟨.none, rfl, ?_⟩) (PyProof.Rows.args_list_sort _)))
  refine wpAny_pure ⟨_, rfl, ?_⟩
  obtain ⟨k1, k2, k3⟩ := SrtO.ints_out rv.ints h1 h2
  obtain ⟨ep, he'⟩ := PyProof.Rows.sortedHeap_at (vs := its) (out := out.toArray) hob
  have I1 : Inv X pins σ H { s with heap := h' } := I.kept (t' := s.toks) hk
  have hlen : ((out.map SrtO.iv).map V.int).length ≤ sizeLine := by
    rw [List.length_map, k2.length_eq]
    rw [List.length_map] at hz
    exact hz
  refine ⟨.ref h'.objs.size, upd H h'.objs.size (.lst ((out.map SrtO.iv).map V.int)), I1.laid (t' := s.toks) (fun b u hb => ?_) (Nat.le_refl _) ⟨hlen, out, ep, vals_of_ints k1, he'⟩, rfl, q _ _ k2 k3 (I1.hok.fresh (Nat.le_refl _))⟩
  have hlt : b < h'.objs.size := Heap.lt_size hb
  rw [PyProof.Rows.sortedHeap_old (Nat.ne_of_lt hlt) (Heap.lt_size (Heap.get?_push_of_some _ hb))]
  exact Heap.get?_push_of_some _ hb
end
end Bk
end
section
set_option Elab.async false
set_option linter.all false
set_option maxRecDepth 100000
set_option maxHeartbeats 4000000
namespace Bk
open PySem PySem.Spec PyProof.Rows L2
theorem log_of {n : Nat} (h : n < 2 ^ 1900) : n.log2 < 1920 := by
  by_cases h0 : n = 0
  · subst h0; decide
  · have := (Nat.log2_lt h0 (k := 1900)).mpr h
    omega
section
variable {X : Cx} {pins : List (Addr × Obj)} {σ : L2.St} {H : Hp} {s : Shared} {y : Gh}
theorem rkeys : ∀ {es : List DictEntry} {kvs : List (Key × Value)} {ks : List Key}, Pairs (mixKind X.prog X.w) es kvs → kvs.map (·.1) = ks → ks.all keyS = true → (∀ t ∈ PyData.shownAll (ks.map keyP), t.length ≤ sizeLine) →
    (∃ as, ReadsAll s.heap (es.map (·.key)) (ks.map keyP) as) ∧ ∃ bs, ReadAtMost s.heap (PyData.depthAll (ks.map keyP)) bs ∧ ReprAllK X.prog X.w bs s.heap (PyData.depthAll (ks.map keyP)) (es.map (·.key)) (PyData.shownAll (ks.map keyP))
  | _, _, _, .nil, rfl, _, _ => ⟨⟨[], .nil⟩, [], (fun _ h => nomatch h), by simp only [List.map_nil, PyData.shownAll]; exact .nil⟩
  | _, _, _, .cons (e := e) (kv := kv) (kvs := kv2) h1 _ t, rfl, hk, hz => by
    simp only [List.map_cons, List.all_cons, Bool.and_eq_true] at hk
    have hz2 : ∀ t ∈ PyData.shownAll ((kv2.map (·.1)).map keyP), t.length ≤ sizeLine := fun t ht => hz t (by simp only [List.map_cons, PyData.shownAll]; exact List.mem_cons_of_mem _ ht)
    obtain ⟨⟨as, r⟩, bs, rb, rr⟩ := rkeys t rfl hk.2 hz2
    have hz1 := hz (keyP kv.1).shown (by simp only [List.map_cons, PyData.shownAll]; exact List.mem_cons_self)
    have one : Reads s.heap e.key (keyP kv.1) [] ∧ ReprIs X.prog X.w e.key (keyP kv.1).shown := by
      rcases keyIs_shape (show keyIs kv.1 e.key = true from h1) with ⟨i, tk, e1, e2⟩ | ⟨x, tk, e1, e2⟩
      · rw [e1, e2]
        rw [e1] at hk
        exact ⟨.int i tk, by simp only [keyP, PyData.shown]; exact ReprIs.int tk (log_of (of_decide_eq_true hk.1))⟩
      · rw [e1, e2]
        rw [e1] at hz1
        exact ⟨.str x tk, by simp only [keyP, PyData.shown] at hz1 ⊢; exact ReprIs.str x tk hz1⟩
    refine ⟨⟨[] ++ as, by simp only [List.map_cons]; exact .cons one.1 r⟩, bs, fun b hb => ?_, ?_⟩
    · obtain ⟨d, as', r', hd⟩ := rb b hb
      exact ⟨d, as', r', Nat.le_trans hd (by simp only [List.map_cons, PyData.depthAll]; exact Nat.le_max_right _ _)⟩
    · simp only [List.map_cons, PyData.shownAll, PyData.depthAll]
      exact .cons (.of_is one.2 _ _ _) (rr.more_le (fun b hb => hb) (Nat.le_max_right _ _))
theorem kv_fst {κ : Type} : ∀ {l : List (κ × V)} {m : List (κ × Value)}, KV l m → l.map (·.1) = m.map (·.1) ∧ Vals (l.map (·.2)) (m.map (·.2))
  | _, _, .nil => ⟨rfl, .nil⟩
  | _, _, .cons r t => by
    obtain ⟨h1, h2⟩ := kv_fst t
    exact ⟨by simp only [List.map_cons, r.1, h1], .cons r.2 h2⟩
theorem pairs_val : ∀ {es : List DictEntry} {kvs : List (Key × Value)}, Pairs (mixKind X.prog X.w) es kvs → es.map (·.val) = kvs.map (·.2)
  | _, _, .nil => rfl
  | _, _, .cons _ h t => by simp only [List.map_cons, h, pairs_val t]
mutual
theorem rk (I : Inv X pins σ H s) : ∀ (d : D) (n : Nat) (v : V) (u : Value), Rep X.K y H d v → RelV v u → shw n d = true → (pyd d).shown.length ≤ sizeLine →
    (∃ as, Reads s.heap u (pyd d) as) ∧ ∃ bs, ReadAtMost s.heap (pyd d).depth bs ∧ ReprK X.prog X.w bs s.heap (pyd d).depth u (pyd d).shown
  | .non, _, _, _, h, r, _, _ => by
    simp only [Rep] at h; subst h; cases r
    exact ⟨⟨[], by simp only [pyd]; exact .none⟩, [], (fun _ h => nomatch h), by simp only [pyd, PyData.shown]; exact .of_is ReprIs.none _ _ _⟩
  | .bl b, _, _, _, h, r, _, _ => by
    simp only [Rep] at h; subst h; cases r
    exact ⟨⟨[], by simp only [pyd]; exact .bool b⟩, [], (fun _ h => nomatch h), by simp only [pyd, PyData.shown]; exact .of_is (ReprIs.bool b) _ _ _⟩
  | .int i, n, _, _, h, r, hs, _ => by
    simp only [Rep] at h; subst h; obtain ⟨t, rfl⟩ := r
    have hs : i.natAbs < 2 ^ 1900 := by cases n <;> simpa [shw] using hs
    exact ⟨⟨[], by simp only [pyd]; exact .int i t⟩, [], (fun _ h => nomatch h), by simp only [pyd, PyData.shown]; exact .of_is (ReprIs.int t (log_of hs)) _ _ _⟩
  | .str x, _, _, _, h, r, _, hz => by
    simp only [Rep] at h; subst h; obtain ⟨t, rfl⟩ := r
    exact ⟨⟨[], by simp only [pyd]; exact .str x t⟩, [], (fun _ h => nomatch h), by simp only [pyd, PyData.shown] at hz ⊢; exact .of_is (ReprIs.str x t hz) _ _ _⟩
  | .tup ds, 0, _, _, _, _, hs, _ => by simp [shw] at hs
  | .tup ds, n + 1, _, _, h, r, hs, hz => by
    simp only [Rep] at h; simp only [shw] at hs
    obtain ⟨a, vs, rfl, h1, h2⟩ := h
    cases r
    obtain ⟨its, rv, ⟨o, e1, e2, m, e3⟩, _⟩ := I.tuple h1.sq
    have hz' : (tupleText (PyData.shownAll (pyds ds))).length ≤ sizeLine := by simpa only [pyd, PyData.shown] using hz
    obtain ⟨⟨as, ra⟩, bs, hb, hk⟩ := rks I ds n vs its h2 rv hs fun t ht => Nat.le_trans (tupleText_mem_le ht) hz'
    have r0 : Reads s.heap (.ref a) (.tuple (pyds ds)) as := .tuple e1 e2 e3 (by simpa using ra)
    have hna : a ∉ bs := not_mem_of_deeper r0 (by simp only [PyData.depth]; omega) hb
    simp only [pyd]
    refine ⟨⟨as, r0⟩, a :: bs, ReadAtMost.cons r0 (by simp only [PyData.depth]; omega) hb, ?_⟩
    simp only [PyData.depth, PyData.shown]
    exact ReprK.tuple e1 e2 e3 hna (by simpa using hk)
  | .lst ds, 0, _, _, _, _, hs, _ => by simp [shw] at hs
  | .lst ds, n + 1, _, _, h, r, hs, hz => by
    simp only [Rep] at h; simp only [shw] at hs
    obtain ⟨a, vs, rfl, _, h1, h2⟩ := h
    cases r
    obtain ⟨_, its, m, rv, e1⟩ := I.hok a _ h1
    have hz' : (listText (PyData.shownAll (pyds ds))).length ≤ sizeLine := by simpa only [pyd, PyData.shown] using hz
    obtain ⟨⟨as, ra⟩, bs, hb, hk⟩ := rks I ds n vs its h2 rv hs fun t ht => Nat.le_trans (listText_mem_le ht) hz'
    have r0 : Reads s.heap (.ref a) (.list (pyds ds)) (a :: as) := .list e1 rfl rfl (by simpa using ra)
    have hna : a ∉ bs := not_mem_of_deeper r0 (by simp only [PyData.depth]; omega) hb
    simp only [pyd]
    refine ⟨⟨_, r0⟩, a :: bs, ReadAtMost.cons r0 (by simp only [PyData.depth]; omega) hb, ?_⟩
    simp only [PyData.depth, PyData.shown]
    cases its with
    | nil =>
      have e0 : pyds ds = [] := by
        generalize pyds ds = l at ra
        cases ra
        rfl
      rw [e0]
      simp only [PyData.shownAll, listText_nil]
      exact ReprK.listEmpty e1 rfl rfl
    | cons x l => exact ReprK.list e1 rfl rfl hna (by simpa using hk.length_eq) (fun i z e => hk.item i z (by simpa using e))
  | .dct ks ds, 0, _, _, _, _, hs, _ => by simp [shw] at hs
  | .dct ks ds, n + 1, _, _, h, r, hs, hz => by
    simp only [Rep] at h; simp only [shw, Bool.and_eq_true, decide_eq_true_eq] at hs
    obtain ⟨a, vs, rfl, _, h1, hl, h2⟩ := h
    cases r
    obtain ⟨_, hsys, ws, rkv, o, es, ep, e1, e2, e3, _, hp, _⟩ := I.hok a _ h1
    obtain ⟨f1, f2⟩ := kv_fst rkv
    have lv : ks.length = vs.length := hl.trans h2.length
    rw [List.map_fst_zip (by omega)] at f1
    rw [List.map_snd_zip (by omega)] at f2
    have lp : (ks.map keyP).length = (pyds ds).length := by
      rw [List.length_map, hl]
      clear hl h1 h2 hs hz
      induction ds with
      | nil => rfl
      | cons d ds ih => simp only [pyds, List.length_cons, ih]
    generalize hkv : (ks.map keyP).zip (pyds ds) = kvs at hz ⊢
    have m1 : kvs.map (·.1) = ks.map keyP := by rw [← hkv]; exact List.map_fst_zip (by omega)
    have m2 : kvs.map (·.2) = pyds ds := by rw [← hkv]; exact List.map_snd_zip (by omega)
    have ed : pyd (.dct ks ds) = .dict kvs := by simp only [pyd]; rw [hkv]
    rw [ed] at hz ⊢
    have hz' : (dictText (PyData.shownKv kvs)).length ≤ sizeLine := by simpa only [PyData.shown] using hz
    obtain ⟨⟨as1, r1⟩, b1, hb1, k1⟩ := rkeys (s := s) hp f1.symm hs.2 (fun t ht => let ⟨p, hp, hl⟩ := PyData.shownKv_key_le kvs t (by rw [m1]; exact ht); Nat.le_trans hl (Nat.le_trans (dictText_mem_le hp) hz'))
    obtain ⟨⟨as2, r2⟩, b2, hb2, k2⟩ := rks I ds n vs (ws.map (·.2)) h2 f2 hs.1.1 (fun t ht => let ⟨p, hp, hl⟩ := PyData.shownKv_val_le kvs t (by rw [m2]; exact ht); Nat.le_trans hl (Nat.le_trans (dictText_mem_le hp) hz'))
    rw [← pairs_val hp] at r2 k2
    rw [← m1] at r1 hb1 k1
    rw [← m2] at r2 hb2 k2
    have r0 : Reads s.heap (.ref a) (.dict kvs) _ := .dict e1 e2.1 e3 r1 r2
    have hb : ReadAtMost s.heap (PyData.depthKv kvs) (b1 ++ b2) := (hb1.mono (PyData.depthAll_keys_le kvs)).append (hb2.mono (PyData.depthAll_vals_le kvs))
    have hna : a ∉ b1 ++ b2 := not_mem_of_deeper r0 (by simp only [PyData.depth]; omega) hb
    refine ⟨⟨_, r0⟩, a :: (b1 ++ b2), ReadAtMost.cons r0 (by simp only [PyData.depth]; omega) hb, ?_⟩
    simp only [PyData.depth, PyData.shown, PyData.shownKv_eq]
    exact ReprK.dict e1 e2.1 e3 hsys hna (ReprEntriesK.of_two es.toList _ _ (k1.more_le (fun b hb => List.mem_append_left _ hb) (PyData.depthAll_keys_le kvs)) (k2.more_le (fun b hb => List.mem_append_right _ hb) (PyData.depthAll_vals_le kvs)))
  | .ref _, _, _, _, _, _, hs, _ => by simp [shw] at hs
  | .scr _, _, _, _, _, _, hs, _ => by simp [shw] at hs
theorem rks (I : Inv X pins σ H s) : ∀ (ds : List D) (n : Nat) (vs : List V) (us : List Value), Reps X.K y H ds vs → Vals vs us → shws n ds = true → (∀ t ∈ PyData.shownAll (pyds ds), t.length ≤ sizeLine) →
    (∃ as, ReadsAll s.heap us (pyds ds) as) ∧ ∃ bs, ReadAtMost s.heap (PyData.depthAll (pyds ds)) bs ∧ ReprAllK X.prog X.w bs s.heap (PyData.depthAll (pyds ds)) us (PyData.shownAll (pyds ds))
  | [], _, _, _, h, r, _, _ => by
    simp only [Reps] at h; subst h; cases r
    exact ⟨⟨[], by simp only [pyds]; exact .nil⟩, [], (fun _ h => nomatch h), by simp only [pyds, PyData.shownAll]; exact .nil⟩
  | d :: ds, n, _, _, h, r, hs, hz => by
    simp only [Reps] at h; simp only [shws, Bool.and_eq_true] at hs
    obtain ⟨v, ws, rfl, h1, h2⟩ := h
    cases r with
    | cons r1 r2 =>
      simp only [pyds] at hz ⊢
      obtain ⟨⟨a1, ra1⟩, b1, hb1, k1⟩ := rk I d n v _ h1 r1 hs.1 (hz _ (by simp only [PyData.shownAll]; exact List.mem_cons_self))
      obtain ⟨⟨a2, ra2⟩, b2, hb2, k2⟩ := rks I ds n ws _ h2 r2 hs.2 (fun t ht => hz t (by simp only [PyData.shownAll]; exact List.mem_cons_of_mem _ ht))
      refine ⟨⟨_, .cons ra1 ra2⟩, b1 ++ b2, ?_, ?_⟩
      · simp only [PyData.depthAll]
        exact (hb1.mono (Nat.le_max_left _ _)).append (hb2.mono (Nat.le_max_right _ _))
      · simp only [PyData.depthAll, PyData.shownAll]
        exact .cons ((k1.more fun b hb => List.mem_append_left _ hb).level_le (Nat.le_max_left _ _)) (k2.more_le (fun b hb => List.mem_append_right _ hb) (Nat.le_max_right _ _))
end
end
end Bk
end
section
set_option Elab.async false
set_option linter.all false
set_option maxRecDepth 100000
set_option maxHeartbeats 4000000
namespace Bk
open PySem PySem.Spec PyProof.Rows L2
section
variable {K : PySem.W.Frag} {y : Gh} {H : Hp} {g : List O}
theorem rx1 {d : D} {xs : List V} (h : RepsX K true y H [d] xs) : ∃ x, xs = [x] ∧ RepT K y H d x := by
  obtain ⟨x, ws, rfl, h1, h2⟩ := h
  have h2 : ws = [] := h2
  subst h2
  exact ⟨x, rfl, h1⟩
theorem rx2 {d e : D} {xs : List V} (h : RepsX K true y H [d, e] xs) : ∃ x z, xs = [x, z] ∧ RepT K y H d x ∧ RepT K y H e z := by
  obtain ⟨x, ws, rfl, h1, h2⟩ := h
  obtain ⟨z, rfl, h3⟩ := rx1 (K := K) (y := y) (H := H) (d := e) (xs := ws) h2
  exact ⟨x, z, rfl, h1, h3⟩
end
theorem pyds_len : ∀ ds : List D, (pyds ds).length = ds.length
  | [] => rfl
  | d :: ds => by simp only [pyds, List.length_cons, pyds_len ds]
mutual
theorem shw_dep : ∀ (d : D) (n : Nat), shw n d = true → (pyd d).depth ≤ n
  | .non, _, _ => by simp [pyd, PyData.depth]
  | .bl _, _, _ => by simp [pyd, PyData.depth]
  | .int _, _, _ => by simp [pyd, PyData.depth]
  | .str _, _, _ => by simp [pyd, PyData.depth]
  | .tup ds, 0, h => by simp [shw] at h
  | .tup ds, n + 1, h => by
    simp only [shw] at h
    have := shw_deps ds n h
    simp only [pyd, PyData.depth]
    omega
  | .lst ds, 0, h => by simp [shw] at h
  | .lst ds, n + 1, h => by
    simp only [shw] at h
    have := shw_deps ds n h
    simp only [pyd, PyData.depth]
    omega
  | .dct ks ds, 0, h => by simp [shw] at h
  | .dct ks ds, n + 1, h => by
    simp only [shw, Bool.and_eq_true] at h
    have := shw_deps ds n h.1.1
    simp only [pyd, PyData.depth]
    have go : ∀ (ks : List Key) (es : List PyData), PyData.depthKv ((ks.map keyP).zip es) ≤ PyData.depthAll es := by
      intro ks
      induction ks with
      | nil => intro es; simp [PyData.depthKv]
      | cons k ks ih =>
        intro es
        cases es with
        | nil => simp [PyData.depthKv]
        | cons e es =>
          have := ih es
          have hk : (keyP k).depth = 0 := by cases k <;> simp [keyP, PyData.depth]
          simp only [List.map_cons, List.zip_cons_cons, PyData.depthKv, PyData.depthAll, hk]
          omega
    have := go ks (pyds ds)
    omega
  | .ref _, _, h => by simp [shw] at h
  | .scr _, _, h => by simp [shw] at h
theorem shw_deps : ∀ (ds : List D) (n : Nat), shws n ds = true → PyData.depthAll (pyds ds) ≤ n
  | [], _, _ => by simp [pyds, PyData.depthAll]
  | d :: ds, n, h => by
    simp only [shws, Bool.and_eq_true] at h
    have := shw_dep d n h.1
    have := shw_deps ds n h.2
    simp only [pyds, PyData.depthAll]
    omega
end
section
variable {X : Cx}
theorem call_repr (hc : X.calm = true) (hg : X.A.guards = some []) (hu : X.A.units + 200 < cLine) {pins : List (Addr × Obj)} {s : Shared} {σ : L2.St} {H : Hp} {y : Gh} {d : D} {x : V} {u : Value} {Q : VK} (I : Inv X pins σ H s)
    (h : RepT X.K y H d x) (rx : RelV x u) (hs : shw 60 d = true) (hl : (shown d).length ≤ 16000000) (q : Q (.str (shown d)) H) :
    wpAny (model X.prog X.w) X.A (call (.builtin "repr") [u]) (EP X pins σ Q) X.xe s := by
  have hz : (pyd d).shown.length ≤ sizeLine := Nat.le_trans hl (by decide)
  have qq : ∀ h' t tk, (∀ b o, s.heap.get? b = some o → h'.get? b = some o) → EP X pins σ Q (.str (pyd d).shown t) { s with heap := h', toks := tk } := fun h' t tk hk => ⟨.str _, H, I.kept hk, ⟨t, rfl⟩, q⟩
  have hcu : X.A.units + 1 < cLine := by omega
  cases d with
  | non =>
    rw [rt_non h] at rx; cases rx
    exact P.repr_of_none (by have := qq s.heap s.toks (s.toks + 1) fun _ _ e => e; simpa only [pyd, PyData.shown] using this)
  | bl b =>
    rw [rt_bl h] at rx; cases rx
    exact P.repr_of_bool (by have := qq s.heap s.toks (s.toks + 1) fun _ _ e => e; simpa only [pyd, PyData.shown] using this)
  | int i =>
    rw [rt_int h] at rx; obtain ⟨t, rfl⟩ := rx
    exact P.repr_of_int (log_of (by simpa [shw] using hs)) (by have := qq s.heap s.toks (s.toks + 1) fun _ _ e => e; simpa only [pyd, PyData.shown] using this)
  | str z =>
    rw [rt_str h] at rx; obtain ⟨t, rfl⟩ := rx
    exact P.repr_of_str (by have := qq s.heap s.toks (s.toks + 1) fun _ _ e => e; simpa only [pyd, PyData.shown] using this) (by simpa only [pyd, PyData.shown] using hz)
  | tup ds =>
    have h0 : Rep X.K y H (.tup ds) x := h
    simp only [Rep] at h0
    obtain ⟨a, vs, rfl, h1, h2⟩ := h0
    cases rx
    simp only [shw] at hs
    obtain ⟨its, rv, ⟨o, e1, e2, m, e3⟩, _⟩ := I.tuple h1.sq
    have hz' : (tupleText (PyData.shownAll (pyds ds))).length ≤ sizeLine := by simpa only [pyd, PyData.shown] using hz
    obtain ⟨⟨as, ra⟩, bs, hb, hk⟩ := rks I ds 59 vs its h2 rv hs fun t ht => Nat.le_trans (tupleText_mem_le ht) hz'
    have r0 : Reads s.heap (.ref a) (.tuple (pyds ds)) as := .tuple e1 e2 e3 (by simpa using ra)
    have hna : a ∉ bs := not_mem_of_deeper r0 (by simp only [PyData.depth]; omega) hb
    have hd := shw_deps ds 59 hs
    refine call_repr_slot hcu ⟨o, e1, e2⟩ F.slot_tuple_repr (call_tuple_reprK e1 e2 e3 hna (by simpa using hk) (show X.A.in1.guards = some [] from hg) (fun b _ => Clear.nil b) (by show X.A.units + 1 + (PyData.depthAll (pyds ds) + 1) < cLine; omega) (fun _ _ e => e) (fun h' u tk hk => ⟨_, _, rfl, ?_⟩) hz')
    have := qq h' u tk hk
    simpa only [pyd, PyData.shown] using this
  | lst ds =>
    obtain ⟨a, vs, rfl, h1, h2⟩ := rt_lst h
    cases rx
    simp only [shw] at hs
    obtain ⟨_, its, m, rv, e1⟩ := I.hok a _ h1
    have hz' : (listText (PyData.shownAll (pyds ds))).length ≤ sizeLine := by simpa only [pyd, PyData.shown] using hz
    obtain ⟨⟨as, ra⟩, bs, hb, hk⟩ := rks I ds 59 vs its h2 rv hs fun t ht => Nat.le_trans (listText_mem_le ht) hz'
    have r0 : Reads s.heap (.ref a) (.list (pyds ds)) (a :: as) := .list e1 rfl rfl (by simpa using ra)
    have hna : a ∉ bs := not_mem_of_deeper r0 (by simp only [PyData.depth]; omega) hb
    have hd := shw_deps ds 59 hs
    cases its with
    | nil =>
      have e0 : pyds ds = [] := by
        generalize pyds ds = l at ra
        cases ra
        rfl
      refine call_repr_slot hcu ⟨_, e1, rfl⟩ F.slot_list_repr.toG (call_list_repr_empty ⟨_, e1, rfl⟩ e1 rfl ⟨_, _, rfl, ?_⟩)
      have := qq s.heap s.toks (s.toks + 1) fun _ _ e => e
      simpa only [pyd, PyData.shown, e0, PyData.shownAll, listText_nil] using this
    | cons z l =>
      refine call_repr_slot hcu ⟨_, e1, rfl⟩ F.slot_list_repr.toG (call_list_reprK e1 rfl rfl hna (by simpa using hk.length_eq) (fun i w e => hk.item i w (by simpa using e)) (show X.A.in1.guards = some [] from hg) (fun b _ => Clear.nil b) (by show X.A.units + 1 + (PyData.depthAll (pyds ds) + 1) < cLine; omega) (fun _ _ e => e) (fun h' u tk hk => ⟨_, _, rfl, ?_⟩) hz')
      have := qq h' u tk hk
      simpa only [pyd, PyData.shown] using this
  | dct ks ds =>
    obtain ⟨a, vs, rfl, _, h1, hkl, h2⟩ := h
    cases rx
    have hsd := shw_dep (.dct ks ds) 60 hs
    simp only [shw, Bool.and_eq_true, decide_eq_true_eq] at hs
    obtain ⟨_, hsys, ws, rkv, o, es, ep, e1, e2, e3, _, hp, _⟩ := I.hok a _ h1
    obtain ⟨f1, f2⟩ := kv_fst rkv
    have lv : ks.length = vs.length := hkl.trans h2.length
    rw [List.map_fst_zip (by omega)] at f1
    rw [List.map_snd_zip (by omega)] at f2
    have lp : (ks.map keyP).length = (pyds ds).length := by rw [List.length_map, hkl, pyds_len]
    generalize hkv : (ks.map keyP).zip (pyds ds) = kvs
    have m1 : kvs.map (·.1) = ks.map keyP := by rw [← hkv]; exact List.map_fst_zip (by omega)
    have m2 : kvs.map (·.2) = pyds ds := by rw [← hkv]; exact List.map_snd_zip (by omega)
    have ed : pyd (.dct ks ds) = .dict kvs := by simp only [pyd]; rw [hkv]
    rw [ed] at hz qq hsd
    have hz' : (dictText (PyData.shownKv kvs)).length ≤ sizeLine := by simpa only [PyData.shown] using hz
    obtain ⟨⟨as1, r1⟩, b1, hb1, k1⟩ := rkeys (s := s) hp f1.symm hs.2 (fun t ht => let ⟨p, hp, hl⟩ := PyData.shownKv_key_le kvs t (by rw [m1]; exact ht); Nat.le_trans hl (Nat.le_trans (dictText_mem_le hp) hz'))
    obtain ⟨⟨as2, r2⟩, b2, hb2, k2⟩ := rks I ds 59 vs (ws.map (·.2)) h2 f2 hs.1.1 (fun t ht => let ⟨p, hp, hl⟩ := PyData.shownKv_val_le kvs t (by rw [m2]; exact ht); Nat.le_trans hl (Nat.le_trans (dictText_mem_le hp) hz'))
    rw [← pairs_val hp] at r2 k2
    rw [← m1] at r1 hb1 k1
    rw [← m2] at r2 hb2 k2
    have r0 : Reads s.heap (.ref a) (.dict kvs) _ := .dict e1 e2.1 e3 r1 r2
    have hb : ReadAtMost s.heap (PyData.depthKv kvs) (b1 ++ b2) := (hb1.mono (PyData.depthAll_keys_le kvs)).append (hb2.mono (PyData.depthAll_vals_le kvs))
    have hna : a ∉ b1 ++ b2 := not_mem_of_deeper r0 (by simp only [PyData.depth]; omega) hb
    simp only [PyData.depth] at hsd
    refine call_repr_slot hcu ⟨o, e1, e2.1⟩ F.slot_dict_repr (call_dict_reprK e1 e2.1 e3 hsys hna (ReprEntriesK.of_two es.toList _ _ (k1.more_le (fun b hb => List.mem_append_left _ hb) (PyData.depthAll_keys_le kvs)) (k2.more_le (fun b hb => List.mem_append_right _ hb) (PyData.depthAll_vals_le kvs)))
      (show X.A.in1.guards = some [] from hg) (fun b _ => Clear.nil b) (by show X.A.units + 1 + (PyData.depthKv kvs + 1) < cLine; omega) (fun _ _ e => e) (fun h' u tk hk => ⟨_, _, rfl, ?_⟩) (by rw [← PyData.shownKv_eq]; exact hz'))
    have := qq h' u tk hk
    rw [← PyData.shownKv_eq]
    simpa only [PyData.shown] using this
  | ref n => simp [shw] at hs
  | scr n => simp [shw] at hs
theorem cr_bi (hc : X.calm = true) (hg : X.A.guards = some []) (hu : X.A.units + 200 < cLine) (f : Bi) : CallR X f.val (rBi X.K f) := by
  intro pins s σ H xs us Q I rxs h
  obtain ⟨y, g, ds, o, G, h1, ho, a⟩ := h
  by_cases hsp : ∃ n, f = .len ∧ ds = [.ref n]
  · obtain ⟨n, rfl, rfl⟩ := hsp
    obtain ⟨x, rfl, h2⟩ := rx1 h1
    obtain ⟨p, hp, rfl⟩ : ∃ p, y.al[n]? = some p ∧ x = .ref p := by simpa only [RepT, Rep] using h2
    simp only [biG] at ho
    cases hg : g[n]? with
    | none => rw [hg] at ho; cases ho
    | some ob =>
      cases ob with
      | lst xs =>
        rw [hg] at ho
        simp only [Option.some.injEq] at ho
        subst ho
        obtain ⟨vs, q1, q2⟩ := G.objs n p _ hp hg
        exact call_len_seq pins s σ H _ us Q I rxs ⟨p, vs, rfl, .inl (.inl (.inl q1)), by rw [← q2.length]; exact a.int G⟩
  have ho : biD f ds = some o := by
    unfold biG at ho
    split at ho
    · exact absurd ⟨_, rfl, rfl⟩ hsp
    · exact ho
  cases f with
  | len =>
    match ds, ho with
    | [.lst ds], ho =>
      simp only [biD, Option.some.injEq] at ho; subst ho
      obtain ⟨x, rfl, h2⟩ := rx1 h1
      obtain ⟨p, vs, rfl, hp, r⟩ := rt_lst h2
      exact call_len_seq pins s σ H _ us Q I rxs ⟨p, vs, rfl, .inl (.inl (.inl hp)), by rw [← r.length]; exact a.int G⟩
    | [.tup ds], ho =>
      simp only [biD, Option.some.injEq] at ho; subst ho
      obtain ⟨x, rfl, h2⟩ := rx1 h1
      obtain ⟨p, vs, rfl, hp, r⟩ := rt_tup h2
      exact call_len_seq pins s σ H _ us Q I rxs ⟨p, vs, rfl, .inr hp, by rw [← r.length]; exact a.int G⟩
    | [.scr ns], ho =>
      simp only [biD, Option.some.injEq] at ho; subst ho
      obtain ⟨x, rfl, h2⟩ := rx1 h1
      obtain ⟨p, rfl, hp⟩ : ∃ p, x = .ref p ∧ ScrAt X.K y H p (ns.map V.int) := by simpa only [RepT, Rep] using h2
      have ha := a.int G
      exact call_len_seq pins s σ H _ us Q I rxs ⟨p, _, rfl, .inl hp.sq, by rw [List.length_map]; exact ha⟩
    | [.str z], ho =>
      simp only [biD] at ho
      split at ho
      · rename_i hz
        simp only [Option.some.injEq] at ho; subst ho
        obtain ⟨x, rfl, h2⟩ := rx1 h1
        exact call_len_str pins s σ H _ us Q I rxs ⟨z, by rw [rt_str h2], lim_size hz, a.int G⟩
      · cases ho
  | abs =>
    match ds, ho with
    | [.int i], ho =>
      simp only [biD, Option.some.injEq] at ho; subst ho
      obtain ⟨x, rfl, h2⟩ := rx1 h1
      refine call_abs pins s σ H _ us Q I rxs ⟨i, by rw [rt_int h2], ?_⟩
      have e : (if i < 0 then -i else i) = ((i.natAbs : Nat) : Int) := by split <;> omega
      rw [e]; exact a.int G
  | sum =>
    match ds, ho with
    | [.lst ds], ho =>
      simp only [biD] at ho
      cases e : ints? ds with
      | none => rw [e] at ho; cases ho
      | some ns =>
        rw [e] at ho
        simp only [Option.map_some, Option.some.injEq] at ho; subst ho
        obtain ⟨x, rfl, h2⟩ := rx1 h1
        obtain ⟨p, vs, rfl, hp, r⟩ := rt_lst h2
        obtain ⟨_, ev⟩ := ints_rep r e
        subst ev
        exact cr_sum hc pins s σ H _ us Q I rxs ⟨p, ns, rfl, .inl (.inl hp), a.int G⟩
    | [.tup ds], ho =>
      simp only [biD] at ho
      cases e : ints? ds with
      | none => rw [e] at ho; cases ho
      | some ns =>
        rw [e] at ho
        simp only [Option.map_some, Option.some.injEq] at ho; subst ho
        obtain ⟨x, rfl, h2⟩ := rx1 h1
        obtain ⟨p, vs, rfl, hp, r⟩ := rt_tup h2
        obtain ⟨_, ev⟩ := ints_rep r e
        subst ev
        rw [Vals.ref1 rxs]
        exact tup_sum hc I hp (a.int G)
  | tuple =>
    match ds, ho with
    | [.lst ds], ho =>
      simp only [biD, Option.some.injEq] at ho; subst ho
      obtain ⟨x, rfl, h2⟩ := rx1 h1
      obtain ⟨p, vs, rfl, hp, r⟩ := rt_lst h2
      exact call_tuple_of pins s σ H _ us Q I rxs ⟨p, vs, rfl, .inl ⟨.inl (.inl hp), fun l hl => a.newT G r l hl⟩⟩
    | [.tup ds], ho =>
      simp only [biD, Option.some.injEq] at ho; subst ho
      obtain ⟨x, rfl, h2⟩ := rx1 h1
      have h3 : Rep X.K y H (.tup ds) x := h2
      obtain ⟨p, vs, rfl, hp, r⟩ := rt_tup h2
      exact call_tuple_of pins s σ H _ us Q I rxs ⟨p, vs, rfl, .inr ⟨hp, a.tupV G h3⟩⟩
  | list =>
    match ds, ho with
    | [.lst ds], ho =>
      simp only [biD, Option.some.injEq] at ho; subst ho
      obtain ⟨x, rfl, h2⟩ := rx1 h1
      obtain ⟨p, vs, rfl, hp, r⟩ := rt_lst h2
      exact call_list_of pins s σ H _ us Q I rxs ⟨p, vs, rfl, .inl (.inl (.inl hp)), fun l hl => a.newL G r l hl⟩
    | [.tup ds], ho =>
      simp only [biD, Option.some.injEq] at ho; subst ho
      obtain ⟨x, rfl, h2⟩ := rx1 h1
      obtain ⟨p, vs, rfl, hp, r⟩ := rt_tup h2
      exact call_list_of pins s σ H _ us Q I rxs ⟨p, vs, rfl, .inr hp, fun l hl => a.newL G r l hl⟩
  | sorted =>
    match ds, ho with
    | [.lst ds], ho =>
      simp only [biD] at ho
      cases e : ints? ds with
      | none => rw [e] at ho; cases ho
      | some ns =>
        rw [e] at ho
        simp only [Option.map_some, Option.some.injEq] at ho; subst ho
        obtain ⟨x, rfl, h2⟩ := rx1 h1
        obtain ⟨p, vs, rfl, hp, r⟩ := rt_lst h2
        obtain ⟨_, ev⟩ := ints_rep r e
        subst ev
        refine cr_sortedI pins s σ H _ us Q I rxs ⟨p, ns, rfl, .inl (.inl hp), fun ns' l hp' hw hl => ?_⟩
        rw [sorted_is hp' hw]
        exact a.newL G Reps.ints l hl
    | [.tup ds], ho =>
      simp only [biD] at ho
      cases e : ints? ds with
      | none => rw [e] at ho; cases ho
      | some ns =>
        rw [e] at ho
        simp only [Option.map_some, Option.some.injEq] at ho; subst ho
        obtain ⟨x, rfl, h2⟩ := rx1 h1
        obtain ⟨p, vs, rfl, hp, r⟩ := rt_tup h2
        obtain ⟨_, ev⟩ := ints_rep r e
        subst ev
        rw [Vals.ref1 rxs]
        refine tup_sorted I hp fun ns' l hp' hw hl => ?_
        rw [sorted_is hp' hw]
        exact a.newL G Reps.ints l hl
  | int =>
    match ds, ho with
    | [.int i], ho =>
      simp only [biD, Option.some.injEq] at ho; subst ho
      obtain ⟨x, rfl, h2⟩ := rx1 h1
      exact call_int1 pins s σ H _ us Q I rxs (.inl ⟨i, by rw [rt_int h2], a.int G⟩)
    | [.bl i], ho =>
      simp only [biD, Option.some.injEq] at ho; subst ho
      obtain ⟨x, rfl, h2⟩ := rx1 h1
      exact call_int1 pins s σ H _ us Q I rxs (.inr ⟨i, by rw [rt_bl h2], a.int G⟩)
  | str =>
    match ds, ho with
    | [.int i], ho =>
      simp only [biD] at ho
      split at ho
      · rename_i hi
        simp only [Option.some.injEq] at ho; subst ho
        obtain ⟨x, rfl, h2⟩ := rx1 h1
        exact call_str_int pins s σ H _ us Q I rxs ⟨i, by rw [rt_int h2], log_of hi, a.str G⟩
      · cases ho
  | repr =>
    match ds, ho with
    | [d], ho =>
      simp only [biD] at ho
      split at ho
      · rename_i hi
        simp only [Option.some.injEq] at ho; subst ho
        rw [Bool.and_eq_true, decide_eq_true_eq] at hi
        obtain ⟨x, rfl, h2⟩ := rx1 h1
        cases rxs with
        | cons r rr =>
          cases rr
          exact call_repr hc hg hu I h2 r hi.1 hi.2 (a.str G)
      · cases ho
    | [], ho => simp [biD] at ho
    | _ :: _ :: _, ho => simp [biD] at ho
  | max =>
    match ds, ho with
    | [.int i, .int j], ho =>
      simp only [biD, Option.some.injEq] at ho; subst ho
      obtain ⟨x, z, rfl, h2, h3⟩ := rx2 h1
      exact call_max2 hc pins s σ H _ us Q I rxs ⟨i, j, by rw [rt_int h2, rt_int h3], a.int G⟩
  | min =>
    match ds, ho with
    | [.int i, .int j], ho =>
      simp only [biD, Option.some.injEq] at ho; subst ho
      obtain ⟨x, z, rfl, h2, h3⟩ := rx2 h1
      exact call_min2 hc pins s σ H _ us Q I rxs ⟨i, j, by rw [rt_int h2, rt_int h3], a.int G⟩
  | all =>
    match ds, ho with
    | [.lst ds], ho =>
      simp only [biD] at ho
      cases e : bools? ds with
      | none => rw [e] at ho; cases ho
      | some ns =>
        rw [e] at ho
        simp only [Option.map_some, Option.some.injEq] at ho; subst ho
        obtain ⟨x, rfl, h2⟩ := rx1 h1
        obtain ⟨p, vs, rfl, hp, r⟩ := rt_lst h2
        have ev := bools_rep r e
        subst ev
        exact cr_all hc pins s σ H _ us Q I rxs ⟨p, ns, rfl, .inl (.inl hp), a.bl G⟩

/-! ## isinstance -/
def Ty.nm : Ty → String
  | .int => "int" | .bool => "bool" | .tuple => "tuple" | .list => "list" | .str => "str" | .dict => "dict"
def rIsiB (K : PySem.W.Frag) (t : Ty) : List V → Hp → VK → Prop := fun xs H Q => ∃ y g d b x, Good K y H g ∧ RepT K y H d x ∧ xs = [x, .ty t.nm] ∧ isTy d t = some b ∧ Q (.bl b) H
theorem tyx_of {K : PySem.W.Frag} {y : Gh} {H : Hp} {d : D} {v : V} {t : Ty} {b : Bool} (h : RepT K y H d v) (e : isTy d t = some b) : ∃ T : String, TyX K H v (.type T) ∧ PySem.W.kitOne K (.type T) (.type t.nm) = some b := by
  cases d with
  | non => rw [rt_non h]; refine ⟨"NoneType", .base .non, ?_⟩; simp only [isTy, Option.some.injEq] at e; subst e; cases t <;> rfl
  | bl b => rw [rt_bl h]; refine ⟨"bool", .base (.bl _), ?_⟩; simp only [isTy, Option.some.injEq] at e; subst e; cases t <;> rfl
  | int b => rw [rt_int h]; refine ⟨"int", .base (.int _), ?_⟩; simp only [isTy, Option.some.injEq] at e; subst e; cases t <;> rfl
  | str b => rw [rt_str h]; refine ⟨"str", .base (.str _), ?_⟩; simp only [isTy, Option.some.injEq] at e; subst e; cases t <;> rfl
  | lst ds => obtain ⟨p, vs, rfl, hp, _⟩ := rt_lst h; refine ⟨"list", .base (.lst hp), ?_⟩; simp only [isTy, Option.some.injEq] at e; subst e; cases t <;> rfl
  | dct ks ds => obtain ⟨p, vs, rfl, _, hp, _⟩ := h; refine ⟨"dict", .base (.dK hp), ?_⟩; simp only [isTy, Option.some.injEq] at e; subst e; cases t <;> rfl
  | tup ds =>
    obtain ⟨p, vs, rfl, hp, _⟩ := rt_tup h
    have e2 : PySem.W.kitOne K (.type "tuple") (.type t.nm) = some b := by
      simp only [isTy, Option.some.injEq] at e; subst e; cases t <;> rfl
    rcases hp with (hp | ⟨o, hp⟩) | ⟨o, its, n, hk, hc, _⟩
    · exact ⟨"tuple", .base (.tup hp), e2⟩
    · exact ⟨"tuple", .fTuple hp, e2⟩
    · exact ⟨"tuple", .kTuple hk hc, e2⟩
  | ref n => simp [isTy] at e
  | scr n => simp [isTy] at e
theorem call_isiB (t : Ty) : CallR X (.builtin "isinstance") (rIsiB X.K t) := by
  intro pins s σ H xs us Q I r h
  obtain ⟨y, g, d, b, x, G, h1, e1, e2, q⟩ := h
  obtain ⟨T, k1, k2⟩ := tyx_of h1 e2
  exact call_isi pins s σ H xs us Q I r ⟨x, .ty t.nm, .type T, .type t.nm, b, e1, .ty _, k1, k2, q⟩
end
end Bk
end
section
set_option Elab.async false
set_option linter.all false
set_option maxRecDepth 100000
set_option maxHeartbeats 4000000
namespace Bk
open PySem PySem.Spec PyProof.Rows L2 RZ

/-! ## enumerate over a tuple -/
def IteT (K : PySem.W.Frag) (a : Addr) : It :=
  ⟨fun i H => ∃ (xs : List V) (x : V), SqT K H a xs ∧ xs[i]? = some x, fun i H v H' => ∃ T x, v = .ref T ∧ H T = none ∧ H' = upd H T (.tup [.int (i : Nat), x]) ∧ ∀ xs, SqT K H a xs → xs[i]? = some x, fun i H => ∃ xs : List V, SqT K H a xs ∧ xs.length ≤ i⟩
theorem apart_ti {h : Heap} {a it : Addr} {its : Array Value} {i : Nat} (t : h.IsTuple a its) (q : h.IsTupleIter it a i) : a ≠ it := fun e => by
  subst e
  obtain ⟨o, e1, _, n, d1⟩ := t
  obtain ⟨o', e2, _, d2⟩ := q
  rw [e1] at e2; cases e2
  rw [d1] at d2; cases d2
theorem turn_enumT {P : Program} {w : World} {K : PySem.W.Frag} {elts : List Expr} {kk : Nat} {tpos : Pos} (a e it : Addr) :
    Turn P w K (.Tuple elts kk tpos) (IteT K a) [e, it] e (fun i h => (∃ old, IsEnum h e it ((i : Nat) : Int) old) ∧ h.IsTupleIter it a i ∧ e ≠ it ∧ e ≠ a) where
  mem := by simp
  obj := fun i h st b hb => by
    obtain ⟨⟨old, he⟩, ⟨o, ho, hc, hd⟩, _⟩ := st
    have e' : b = e ∨ b = it := by simpa using hb
    rcases e' with z | z
    · rw [z]; exact ⟨_, he, fun v q => nomatch q⟩
    · rw [z]; exact ⟨o, ho, fun v q => by rw [hd] at q; cases q⟩
  keep := fun i h h' st k => let ⟨⟨old, he⟩, hi, hne, hea⟩ := st; ⟨⟨old, k e (by simp) _ he⟩, hi.at fun o q => k it (by simp) o q, hne, hea⟩
  item := by
    intro X hP hw hK hc i pins s σ H E I hf st hg
    subst hP hw hK
    obtain ⟨⟨old, he⟩, hit, hne, hea⟩ := st
    obtain ⟨xs, x, hq, hx⟩ := hg
    obtain ⟨its, rv, p, hz⟩ := I.tuple hq
    obtain ⟨u, hu, ru⟩ := rv.get hx
    have p : s.heap.IsTuple a its.toArray := p
    have hel : e < s.heap.objs.size := Heap.lt_size he
    have hil : it < s.heap.objs.size := by obtain ⟨_, q, _⟩ := hit; exact Heap.lt_size q
    have hai := apart_ti p hit
    have D := Draws.tuple (prog := X.prog) (w := X.w) (A := X.A.in1) (I.ok.hd hc) it a hai its.toArray
    have hl : i < its.toArray.size := by
      have := (List.getElem?_eq_some_iff.mp hu).1
      simpa using this
    refine wpAny_pyNext_enum_itemC D he ⟨hit, p⟩ hl hne (by simp [hne, hea]) fun v h' tk hP ho hst' hT hsz hk => ?_
    have ev : v = u := by
      have hP' : its.toArray[i]? = some v := hP
      have hu' : its.toArray[i]? = some u := by simpa using hu
      rw [hu'] at hP'; cases hP'; rfl
    subst ev
    refine ⟨_, rfl, wpAny_letOwnedTupleGo_enum (s := { s with heap := h', toks := tk + 1 }) ho fun h'' he' sb => ?_⟩
    have hT2 : h''.get? s.heap.objs.size = some { cls := .type "tuple", data := .seq #[.int i tk, v] } := (sb.2 _ (Nat.ne_of_gt hel)).trans hT
    have new : ObjOk X.prog X.w (upd H s.heap.objs.size (.tup [.int (i : Nat), x])) h'' s.heap.objs.size (.tup [.int (i : Nat), x]) :=
      ⟨by show 2 ≤ sizeLine; decide, [.int i tk, v], .cons ⟨_, rfl⟩ (.cons ru .nil), ⟨_, hT2, rfl, _, rfl⟩⟩
    have I1 : Inv X pins σ (upd H s.heap.objs.size (.tup [.int (i : Nat), x])) { s with heap := h'', toks := tk + 1 } :=
      I.turnedNew (ch := [e, it]) (fun b ob hb q => (sb.2 b (fun z => hb (by simp [z]))).trans (hk b ob (fun z => hb (by simp [z])) (fun z => hb (by simp [z])) q)) hf (Nat.le_refl _) new
    refine ⟨.ref s.heap.objs.size, _, I1, rfl, ⟨_, x, rfl, I.hok.fresh (Nat.le_refl _), rfl, fun ys hy => by rw [I.tuple_inj hy hq]; exact hx⟩, ⟨⟨v, ?_⟩, hst'.1.at fun o q => (sb.2 it (Ne.symm hne)).trans q, hne, hea⟩, fun b hb => ?_⟩
    · have e1 : ((i + 1 : Nat) : Int) = (i : Int) + 1 := by omega
      rw [e1]; exact he'
    · have hb' : b < s.heap.objs.size := by
        have e' : b = e ∨ b = it := by simpa using hb
        rcases e' with z | z
        · rw [z]; exact hel
        · rw [z]; exact hil
      rw [upd_ne (Nat.ne_of_lt hb')]
      exact (hf b hb).1
  done := by
    intro X hP hw hK hc i pins s σ H E I hf st hg
    subst hP hw hK
    obtain ⟨⟨old, he⟩, hit, hne, hea⟩ := st
    obtain ⟨xs, hq, hx⟩ := hg
    obtain ⟨its, rv, p, hz⟩ := I.tuple hq
    have p : s.heap.IsTuple a its.toArray := p
    have hl := rv.length
    have hT : s.TypeIs (.ref e) "enumerate" := ⟨_, he, rfl⟩
    unfold pyNext
    refine wpAny_bind (wpAny_attempt (wpAny_callSpecial?_slot (name := Str.ofString "__next__") hT F.slot_enumerate_next
      (wpAny_call_entry F.slot_enumerate_next hT F.entry_enumerate_next ?_ (F.args_enumerate_next_1 _))))
    show wpAny _ _ (field (.ref e) 2 >>= _) _ _ _
    refine wpAny_bind (wpAny_field he rfl (x := .ref it) rfl ?_)
    refine wpAny_bind (wpAny_nextOf_tuple_end (I.ok.hd hc) hit p (by simp; omega) fun h' x he' hx' => ?_)
    obtain ⟨o, ho, hc'⟩ := hx'
    refine wpAny_bind (wpAny_isInstance (T := "StopIteration") (b := true) ⟨o, ho, hc'⟩ isSubtype_stop ?_)
    obtain ⟨f0, f1, f2, f3, f4, f5⟩ := hf it (by simp)
    exact wpAny_pure ⟨rfl, I.turned (t' := s.toks) (fun b o hb q => he' b o hb q) f0 f1 f3 f4 f5⟩
  self := fun A i s Q E st h => let ⟨⟨_, he⟩, _⟩ := st; wpAny_pyIter_enum he h

theorem meets_enumB1 {v : Value} {o : Obj} {H : Heap → Prop} (B : Begins v o H) :
    Meets (Builtin.«enumerate.__new__» ⟨[.type "enumerate", v], []⟩) (fun _ R s => H s.heap ∧
      R (.ok (.ret (.ref (s.heap.push o).objs.size))) { s with heap := (s.heap.push o).push { cls := .type "enumerate", data := .fields #[.none, .bool false, .ref s.heap.objs.size, rawInt 0, .none, .none] } }) :=
  .of_wp fun prog w A R s h => by
    obtain ⟨hp, g, d, tk, os⟩ := s; obtain ⟨h1, h⟩ := h
    have hsub := sub_enumerate
    have q1 : ∀ {A' : Around} {E : Value → Shared → Prop} {Q : Value → Shared → Prop}, Q (.ref hp.objs.size) ⟨hp.push o, g, d, tk, os⟩ → wpAny (model prog w) A' (pyIter v) Q E ⟨hp, g, d, tk, os⟩ :=
      fun q => B.iter prog w _ _ ⟨hp, g, d, tk, os⟩ _ h1 q
    wp_walk using q1
    refine wpAny_stack_any fun st => wpAny_pure ?_
    split
    · rename_i c _ _ _ _ _
      cases (c == Value.type "enumerate")
      · wp_walk using q1
        exact ⟨_, rfl, h⟩
      · wp_walk using q1
        exact ⟨_, rfl, h⟩
    · wp_walk using q1
      exact ⟨_, rfl, h⟩
theorem call_enumT {prog : Program} {w : World} {A : Around} {E : Value → Shared → Prop} {s : Shared} {a : Addr} {its : Array Value} {Q : Value → Shared → Prop} (h1 : s.heap.IsTuple a its)
    (h : ∀ h', IsEnum h' (s.heap.objs.size + 1) s.heap.objs.size 0 .none → h'.IsTupleIter s.heap.objs.size a 0 →
      (∀ b o, s.heap.get? b = some o → h'.get? b = some o) → Q (.ref (s.heap.objs.size + 1)) { s with heap := h' }) :
    wpAny (model prog w) A (call (.type "enumerate") [.ref a]) Q E s := by
  have B := begins_tuple a its
  refine callType_new F.called_enumerate (by decide) (F.typeCall_enumerate_1 _) (F.newCall_enumerate_1 _) (fun obj => F.args_object_init_2 obj _) F.entry_enumerate_new
    (meets_enumB1 B) ⟨h1, ?_⟩
  generalize ho : ({ cls := .type "tuple_iterator", data := .fields #[.ref a, .int 0 0] } : Obj) = o
  have hf : o.isFreed = false := by rw [← ho]; rfl
  have hz : (s.heap.push o).objs.size = s.heap.objs.size + 1 := Heap.size_push ..
  show _ ∧ _
  rw [hz]
  have he : IsEnum ((s.heap.push o).push { cls := .type "enumerate", data := .fields #[.none, .bool false, .ref s.heap.objs.size, rawInt 0, .none, .none] }) (s.heap.objs.size + 1) s.heap.objs.size 0 .none := by
    have := Heap.get?_push_size (s.heap.push o) (o := { cls := .type "enumerate", data := .fields #[.none, .bool false, .ref s.heap.objs.size, rawInt 0, .none, .none] }) rfl
    rw [hz] at this; exact this
  refine ⟨⟨_, he, rfl⟩, h _ he ⟨o, Heap.get?_push_of_some _ (Heap.get?_push_size _ hf), by rw [← ho], by rw [← ho]; rfl⟩ fun b o x => Heap.get?_push_of_some _ (Heap.get?_push_of_some _ x)⟩

/-! ## what is walked -/
section
variable (K : PySem.W.Frag)
/-- J gives the values xs, from (y, H) on, in all states that R reaches -/
def WOf (R : Gh → Hp → Prop) (J : It) (xs : List D) : Prop := ∃ (G : Hp → Prop) (Y : Nat → Hp → V → Hp → Prop), Walk J xs.length G Y ∧ (∀ y2 H2, R y2 H2 → G H2) ∧
  ∀ y2 H2 g2 i x H3, R y2 H2 → Good K y2 H2 g2 → i < xs.length → Y i H2 x H3 → Ext y2 H2 y2 H3 ∧ Good K y2 H3 g2 ∧ ∃ d, xs[i]? = some d ∧ Rep K y2 H3 d x
/-- what a comprehension may reach; what a for may -/
def RchX (t : Bool) (y : Gh) (H : Hp) (y2 : Gh) (H2 : Hp) : Prop := if t then Ext y H y2 H2 else Evo y H y2 H2
end
section
variable {K : PySem.W.Frag} {y : Gh} {H : Hp} {t : Bool}
theorem RchX.reps {y2 : Gh} {H2 : Hp} (r : RchX t y H y2 H2) {ds : List D} {vs : List V} (h : Reps K y H ds vs) : Reps K y2 H2 ds vs := by
  cases t
  · exact Reps.monoS (show Evo y H y2 H2 from r) ds vs h
  · exact Reps.mono (show Ext y H y2 H2 from r) ds vs h
theorem RchX.refl : RchX t y H y H := by
  cases t
  · exact Evo.refl y H
  · exact Ext.refl y H
theorem lstAt {ds : List D} {v : V} (h : RepX K t y H (.lst ds) v) : ∃ a vs, v = .ref a ∧ Reps K y H ds vs ∧ ∀ y2 H2, RchX t y H y2 H2 → SqL K H2 a vs := by
  cases t
  · have h : Rep K y H (.lst ds) v := h
    simp only [Rep] at h
    obtain ⟨a, vs, e, n, h1, h2⟩ := h
    exact ⟨a, vs, e, h2, fun y2 H2 r => .inl (.inl ((show Evo y H y2 H2 from r).at n h1).2)⟩
  · obtain ⟨a, vs, e, n, h1, h2⟩ := (h : RepT K y H (.lst ds) v)
    exact ⟨a, vs, e, h2, fun y2 H2 r => .inl (.inl ((show Ext y H y2 H2 from r).keep _ _ h1 n))⟩
theorem tupAt {ds : List D} {v : V} (h : RepX K t y H (.tup ds) v) : ∃ a vs, v = .ref a ∧ Reps K y H ds vs ∧ ∀ y2 H2, RchX t y H y2 H2 → SqT K H2 a vs := by
  have h : Rep K y H (.tup ds) v := by cases t <;> exact h
  simp only [Rep] at h
  obtain ⟨a, vs, e, h1, h2⟩ := h
  refine ⟨a, vs, e, h2, fun y2 H2 r => ?_⟩
  cases t
  · exact ((show Evo y H y2 H2 from r).tup h1).sq
  · exact ((show Ext y H y2 H2 from r).tup h1).sq
theorem seqAt {d : D} {xs : List D} {v : V} (hd : items d = some xs) (h : RepX K t y H d v) : ∃ a vs, v = .ref a ∧ Reps K y H xs vs ∧
    ((∀ y2 H2, RchX t y H y2 H2 → SqL K H2 a vs) ∨ ∀ y2 H2, RchX t y H y2 H2 → SqT K H2 a vs) := by
  cases d with
  | lst ds =>
    simp only [items, Option.some.injEq] at hd; subst hd
    obtain ⟨a, vs, e, h1, h2⟩ := lstAt h
    exact ⟨a, vs, e, h1, .inl h2⟩
  | tup ds =>
    simp only [items, Option.some.injEq] at hd; subst hd
    obtain ⟨a, vs, e, h1, h2⟩ := tupAt h
    exact ⟨a, vs, e, h1, .inr h2⟩
  | _ => simp [items] at hd
/-- the ghost itself, or one more address owned that is free yet -/
def OffOf (y : Gh) (H : Hp) (y0 : Gh) : Prop := y0 = y ∨ ∃ p, H p = none ∧ y0 = y.off p
theorem OffOf.reps {y0 : Gh} (o : OffOf y H y0) {ds : List D} {vs : List V} (h : Reps K y H ds vs) : Reps K y0 H ds vs := by
  rcases o with rfl | ⟨p, hp, rfl⟩
  · exact h
  · exact Reps.off0 hp _ _ h
theorem OffOf.rch {y0 y2 : Gh} {H2 : Hp} (o : OffOf y H y0) (h : RchX t y0 H y2 H2) : ∃ y3, RchX t y H y3 H2 := by
  rcases o with rfl | ⟨p, hp, rfl⟩
  · exact ⟨y2, h⟩
  · cases t
    · have h : Evo (y.off p) H y2 H2 := h
      refine ⟨y2.back y.W, (⟨h.eA, h.pre, fun a u h1 h2 h3 => h.keep a u h1 h2 fun z => ?_, h.dom, fun a w => .inl w⟩ : Evo y H (y2.back y.W) H2)⟩
      rcases z with z | z
      · exact h3 z
      · exact ne_of_none h1 hp z
    · have h : Ext (y.off p) H y2 H2 := h
      exact ⟨y2.back y.W, (⟨h.eA, rfl, h.pre, h.keep, h.dom⟩ : Ext y H (y2.back y.W) H2)⟩
def WOf2 (K : PySem.W.Frag) (t : Bool) (y : Gh) (H : Hp) (J : It) (xs : List D) : Prop := ∀ y0, OffOf y H y0 → WOf K (RchX t y0 H) J xs
theorem wof_at {J : It} {xs : List D} {vs : List V} (h : Reps K y H xs vs) {G : Hp → Prop} (w : Walk J vs.length G (YAt vs)) (hG : ∀ y2 H2, RchX t y H y2 H2 → G H2) : WOf2 K t y H J xs := by
  intro y0 o
  have h := o.reps h
  refine ⟨G, YAt vs, by rw [h.length]; exact w, fun y2 H2 r => (o.rch r).elim fun y3 r => hG y3 H2 r, fun y2 H2 g2 i x H3 r G2 hi hy => ?_⟩
  obtain ⟨e, ex⟩ := hy
  subst e
  obtain ⟨d, h1, h2⟩ := (r.reps h).get ex
  exact ⟨Ext.refl _ _, G2, d, h1, h2⟩
theorem pair_ext {y2 : Gh} {H2 : Hp} {g2 : List O} {T : Addr} {x z : V} {d e : D} (G2 : Good K y2 H2 g2) (hT : H2 T = none) (h1 : Rep K y2 H2 d x) (h2 : Rep K y2 H2 e z) :
    Ext y2 H2 y2 (upd H2 T (.tup [x, z])) ∧ Good K y2 (upd H2 T (.tup [x, z])) g2 ∧ Rep K y2 (upd H2 T (.tup [x, z])) (.tup [d, e]) (.ref T) := by
  refine ⟨ext_new hT, G2.new hT, ?_⟩
  simp only [Rep]
  exact ⟨T, [x, z], rfl, .inl ⟨G2.free hT, upd_same⟩, Reps.mono (ext_new hT) _ _ (.cons h1 (.cons h2 .nil))⟩
theorem wof_pair {J : It} {xs es : List D} {vs ws : List V} {n : Nat} (h : Reps K y H xs vs) (h' : Reps K y H es ws) (hn : n = min vs.length ws.length) {G : Hp → Prop} (w : Walk J n G (YPair (fun i => vs[i]?) fun i => ws[i]?)) (hG : ∀ y2 H2, RchX t y H y2 H2 → G H2) :
    WOf2 K t y H J ((xs.zip es).map fun p => .tup [p.1, p.2]) := by
  intro y0 o
  have h := o.reps h
  have h' := o.reps h'
  refine ⟨G, _, by rw [List.length_map, List.length_zip, h.length, h'.length, ← hn]; exact w, fun y2 H2 r => (o.rch r).elim fun y3 r => hG y3 H2 r, fun y2 H2 g2 i x H3 r G2 hi hy => ?_⟩
  obtain ⟨T, x1, x2, e1, e2, e3, e4, e5⟩ := hy
  subst e1 e3
  obtain ⟨d, h1, h2⟩ := (r.reps h).get e4
  obtain ⟨d', h1', h2'⟩ := (r.reps h').get e5
  obtain ⟨q1, q2, q3⟩ := pair_ext G2 e2 h2 h2'
  exact ⟨q1, q2, _, by rw [List.getElem?_map, List.getElem?_zip_eq_some (z := (d, d')) |>.mpr ⟨h1, h1'⟩]; rfl, q3⟩
theorem wof_enum {J : It} {xs : List D} {vs : List V} (h : Reps K y H xs vs) {G : Hp → Prop} (w : Walk J vs.length G (YPair (fun i => some (.int (i : Nat))) fun i => vs[i]?)) (hG : ∀ y2 H2, RchX t y H y2 H2 → G H2) :
    WOf2 K t y H J (xs.zipIdx.map fun p => .tup [.int (p.2 : Nat), p.1]) := by
  intro y0 o
  have h := o.reps h
  refine ⟨G, _, by rw [List.length_map, List.length_zipIdx, h.length]; exact w, fun y2 H2 r => (o.rch r).elim fun y3 r => hG y3 H2 r, fun y2 H2 g2 i x H3 r G2 hi hy => ?_⟩
  obtain ⟨T, x1, x2, e1, e2, e3, e4, e5⟩ := hy
  subst e1 e3
  cases e4
  obtain ⟨d, h1, h2⟩ := (r.reps h).get e5
  obtain ⟨q1, q2, q3⟩ := pair_ext (d := .int (i : Nat)) (x := .int (i : Nat)) G2 e2 (by simp only [Rep]) h2
  refine ⟨q1, q2, _, ?_, q3⟩
  rw [List.getElem?_map, List.getElem?_zipIdx, h1]
  simp
theorem wof_fn {J : It} {n : Nat} {f : Nat → Int} (w : Walk J n (fun _ => True) (YFn fun i => .int (f i))) : WOf2 K t y H J ((List.range n).map fun i => .int (f i)) := by
  intro y0 o
  refine ⟨_, _, by rw [List.length_map, List.length_range]; exact w, fun _ _ _ => trivial, fun y2 H2 g2 i x H3 r G2 hi hy => ?_⟩
  obtain ⟨e1, e2⟩ := hy
  subst e1 e2
  rw [List.length_map, List.length_range] at hi
  exact ⟨Ext.refl _ _, G2, .int (f i), by rw [List.getElem?_map, List.getElem?_range hi]; rfl, by simp only [Rep]⟩
end

/-! ## the readings of iterables -/
section
variable (K : PySem.W.Frag) (mg : Str → Option Value) (W : WX)
abbrev tI (t : Bool) (F : List Slot → List O → Res (List D)) : TI := tG K mg W (fun y H xs J => WOf2 K t y H J xs) F
end
theorem lift_get {α : Type} {K : PySem.W.Frag} {mg : Str → Option Value} {W : WX} {β : Type} {P : Gh → Hp → α → β → Prop} {y : Gh} {σ : L2.St} {H : Hp} {Q : β → Hp → Prop} {o : Option α} {g : List O} (h : PostG K mg W P y σ H Q (lift o g)) :
    ∃ a, o = some a ∧ PostG K mg W P y σ H Q (.ok a g) := by
  cases o with
  | none => exact h.elim
  | some a => exact ⟨a, rfl, h⟩
section
variable {X : Cx} {W : WX} {t : Bool} {tg : Expr}
theorem walk_enumT {K : PySem.W.Frag} {a : Addr} {xs : List V} : Walk (IteT K a) xs.length (fun H => SqT K H a xs) (YPair (fun i => some (.int (i : Nat))) (fun i => xs[i]?)) := by
  refine ⟨fun i _ hi q => ⟨xs, xs[i], q, by simp [hi]⟩, fun _ q => ⟨xs, q, Nat.le_refl _⟩, fun i H v H' _ q y => ?_⟩
  obtain ⟨T, x, h1, h2, h3, h4⟩ := y
  exact ⟨T, .int (i : Nat), x, h1, h2, h3, rfl, h4 xs q⟩
theorem walk_zipT {K : PySem.W.Frag} {a b : Addr} {xs ys : List V} {n : Nat} (hn : n = min xs.length ys.length) : Walk (ItzT K a b) n (fun H => SqT K H a xs ∧ SqT K H b ys) (YPair (fun i => xs[i]?) (fun i => ys[i]?)) := by
  subst hn
  refine ⟨fun i _ hi q => ?_, fun _ q => ⟨xs, ys, q.1, q.2, by omega⟩, fun i H v H' _ q y => ?_⟩
  · have h1 : i < xs.length := by omega
    have h2 : i < ys.length := by omega
    exact ⟨xs, ys, xs[i], ys[i], q.1, q.2, by simp [h1], by simp [h2]⟩
  · obtain ⟨T, x, z, h1, h2, h3, h4, h5⟩ := y
    exact ⟨T, x, z, h1, h2, h3, h4 xs q.1, h5 ys q.2⟩
theorem pi_seqB {e : Expr} {Fe : List Slot → List O → Res D} (he : PE X e (tE X.K X.mg W t Fe)) : PI X tg e (tI X.K X.mg W t fun r g => (Fe r g).bind fun d g => lift (iterD .seq [d]) g) := by
  refine ⟨fun pins s σ H R I h => ?_⟩
  have h2 : (tE X.K X.mg W t Fe) σ H (fun x H1 => ∃ a vs, x = V.ref a ∧ ((SqL X.K H1 a vs ∧ R (Itl X.K a) H1) ∨ (SqT X.K H1 a vs ∧ R (Itt X.K a) H1))) := tG.bind h fun y r d g v H1 _ G p q => by
    obtain ⟨xs, e1, q⟩ := lift_get q
    obtain ⟨a, vs, rfl, h1, h2⟩ := seqAt e1 p
    rcases h2 with h2 | h2
    · exact ⟨a, vs, rfl, .inl ⟨h2 _ _ RchX.refl, q y H1 _ (Ext.refl _ _) G (wof_at h1 walk_list h2)⟩⟩
    · exact ⟨a, vs, rfl, .inr ⟨h2 _ _ RchX.refl, q y H1 _ (Ext.refl _ _) G (wof_at h1 walk_tup h2)⟩⟩
  refine thn (he.run pins s σ H _ I h2) fun v s1 ⟨x, H1, I1, r1, a, vs, e1, q⟩ => ?_
  subst e1
  cases r1
  have fp : ∀ b ∈ [s1.heap.objs.size], FpOk X pins H1 b := fun b hb => by
    have e : b = s1.heap.objs.size := by simpa using hb
    subst e
    exact I1.fpOk (Nat.le_refl _) (I1.hok.fresh (Nat.le_refl _))
  rcases q with ⟨q1, q⟩ | ⟨q1, q⟩
  · obtain ⟨its, rv, p, hz⟩ := I1.list q1
    exact wpAny_pyIter_list p.isList ⟨s1.heap.objs.size, [s1.heap.objs.size], _, _, H1, rfl, I1.kept (t' := s1.toks) fun b o e => Heap.get?_push_of_some _ e, turn_list a _, ⟨_, Heap.get?_push_size _ rfl, rfl, rfl⟩, fp, q⟩
  · obtain ⟨its, rv, p, hz⟩ := I1.tuple q1
    exact wpAny_pyIter_tuple (show s1.heap.IsTuple a its.toArray from p) ⟨s1.heap.objs.size, [s1.heap.objs.size], _, _, H1, rfl, I1.kept (t' := s1.toks) fun b o e => Heap.get?_push_of_some _ e, turn_tuple a _, ⟨_, Heap.get?_push_size _ rfl, rfl, rfl⟩, fp, q⟩
theorem rx_int1 {K : PySem.W.Frag} {y : Gh} {H : Hp} {j : Int} {vs : List V} (h : RepsX K t y H [.int j] vs) : vs = [.int j] := by
  obtain ⟨v, ws, rfl, h1, h2⟩ := h
  have h2 : ws = [] := h2
  subst h2
  have e : v = .int j := by cases t <;> simpa only [RepX, RepT, Rep, if_true, Bool.false_eq_true, if_false] using h1
  rw [e]
theorem rx_one {K : PySem.W.Frag} {y : Gh} {H : Hp} {d : D} {vs : List V} (h : RepsX K t y H [d] vs) : ∃ v, vs = [v] ∧ RepX K t y H d v := by
  obtain ⟨v, ws, rfl, h1, h2⟩ := h
  have h2 : ws = [] := h2
  subst h2
  exact ⟨v, rfl, h1⟩
theorem rx_two {K : PySem.W.Frag} {y : Gh} {H : Hp} {d e : D} {vs : List V} (h : RepsX K t y H [d, e] vs) : ∃ v w, vs = [v, w] ∧ RepX K t y H d v ∧ RepX K t y H e w := by
  obtain ⟨v, ws, rfl, h1, h2⟩ := h
  obtain ⟨w, rfl, h3⟩ := rx_one h2
  exact ⟨v, w, rfl, h1, h3⟩
theorem rx_intv {K : PySem.W.Frag} {y : Gh} {H : Hp} {j : Int} {v : V} (h1 : RepX K t y H (.int j) v) : v = .int j := by
  cases t <;> simpa only [RepX, RepT, Rep, if_true, Bool.false_eq_true, if_false] using h1
theorem pi_rangeB {a : Expr} {Fa : List Slot → List O → Res (List D)} {p pos : Pos} (hg : Gl X "range") (hm : X.mg "range" = none) (ha : PA X [a] (tA X.K X.mg W t Fa)) (hs : starEach [a] X.env = [(false, eval a X.env)]) :
    PI X tg (.Call (.Name "range" p) [a] [] pos) (tI X.K X.mg W t fun r g => (Fa r g).bind fun ds g => lift (iterD .range ds) g) := by
  refine ⟨fun pins s σ H R I h => (pi_range1 hg hm ha hs).run pins s σ H R I ?_⟩
  refine tG.bind h fun y r ds g vs H1 _ G p q => ?_
  obtain ⟨xs, e1, q⟩ := lift_get q
  match ds, e1 with
  | [.int j], e1 =>
    simp only [iterD] at e1
    split at e1
    · rename_i hj
      cases e1
      rw [rx_int1 p]
      refine ⟨j, rfl, by omega, by omega, q y H1 _ (Ext.refl _ _) G ?_⟩
      exact wof_fn (f := fun i => ((i : Nat) : Int)) ((walk_range (lo := 0)).mono (fun _ h => h) fun i H x H' _ _ y => ⟨y.1, by rw [y.2]; simp⟩)
    · cases e1
theorem pi_range2B {a b : Expr} {Fa : List Slot → List O → Res (List D)} {p pos : Pos} (hg : Gl X "range") (hm : X.mg "range" = none) (ha : PA X [a, b] (tA X.K X.mg W t Fa)) (hs : starEach [a, b] X.env = [(false, eval a X.env), (false, eval b X.env)]) (hs2 : starEach [b] X.env = [(false, eval b X.env)]) :
    PI X tg (.Call (.Name "range" p) [a, b] [] pos) (tI X.K X.mg W t fun r g => (Fa r g).bind fun ds g => lift (iterD .range2 ds) g) := by
  refine ⟨fun pins s σ H R I h => (pi_range2 hg hm ha hs hs2).run pins s σ H R I ?_⟩
  refine tG.bind h fun y r ds g vs H1 _ G p q => ?_
  obtain ⟨xs, e1, q⟩ := lift_get q
  match ds, e1 with
  | [.int i, .int j], e1 =>
    simp only [iterD] at e1
    split at e1
    · rename_i hj
      cases e1
      obtain ⟨v, w, rfl, p1, p2⟩ := rx_two p
      rw [rx_intv p1, rx_intv p2]
      exact ⟨i, j, rfl, by omega, q y H1 _ (Ext.refl _ _) G (wof_fn (f := fun k => i + ((k : Nat) : Int)) walk_range)⟩
    · cases e1
theorem pi_enumB {e : Expr} {Fa : List Slot → List O → Res (List D)} {p pos tpos : Pos} {elts : List Expr} {kk : Nat} (hg : Gl X "enumerate") (hm : X.mg "enumerate" = none) (ha : PA X [e] (tA X.K X.mg W t Fa)) (hs : starEach [e] X.env = [(false, eval e X.env)]) :
    PI X (.Tuple elts kk tpos) (.Call (.Name "enumerate" p) [e] [] pos) (tI X.K X.mg W t fun r g => (Fa r g).bind fun ds g => lift (iterD .enum ds) g) := by
  refine ⟨fun pins s σ H R I h => ?_⟩
  have h2 : (tA X.K X.mg W t Fa) σ H (fun vs H1 => ∃ a xs, vs = [V.ref a] ∧ ((SqL X.K H1 a xs ∧ R (Ite X.K a) H1) ∨ (SqT X.K H1 a xs ∧ R (IteT X.K a) H1))) := tG.bind h fun y r ds g vs H1 _ G p q => by
    obtain ⟨xs, e1, q⟩ := lift_get q
    match ds, e1 with
    | [d], e1 =>
      simp only [iterD] at e1
      cases hd : items d with
      | none => rw [hd] at e1; cases e1
      | some zs =>
        rw [hd] at e1
        simp only [Option.map_some, Option.some.injEq] at e1
        subst e1
        obtain ⟨v, rfl, p1⟩ := rx_one p
        obtain ⟨a, vs, rfl, h1, h2⟩ := seqAt hd p1
        rcases h2 with h2 | h2
        · exact ⟨a, vs, rfl, .inl ⟨h2 _ _ RchX.refl, q y H1 _ (Ext.refl _ _) G (wof_enum h1 walk_enum h2)⟩⟩
        · exact ⟨a, vs, rfl, .inr ⟨h2 _ _ RchX.refl, q y H1 _ (Ext.refl _ _) G (wof_enum h1 walk_enumT h2)⟩⟩
    | [], e1 => simp [iterD] at e1
    | _ :: _ :: _, e1 => simp [iterD] at e1
  refine Call_ (ld_blt I hg hm boot_enumerate (PyProof.Rows.callWith_type1 (thn (ha.run pos pins s σ H _ I h2) fun us s1 ⟨vs, H1, I1, r1, q1⟩ => ?_) hs rfl))
  obtain ⟨a, xs, ex, q1⟩ := q1
  subst ex
  cases r1 with
  | cons r rr =>
    cases rr
    cases r
    have fp : ∀ b ∈ [s1.heap.objs.size + 1, s1.heap.objs.size], FpOk X pins H1 b := fun b hb => by
      have e' : b = s1.heap.objs.size + 1 ∨ b = s1.heap.objs.size := by simpa using hb
      have hle : s1.heap.objs.size ≤ b := by
        rcases e' with z | z
        · rw [z]; exact Nat.le_add_right _ _
        · rw [z]; exact Nat.le_refl _
      exact I1.fpOk hle (I1.hok.fresh hle)
    rcases q1 with ⟨hq, q⟩ | ⟨hq, q⟩
    · obtain ⟨its, rv, p', hz⟩ := I1.list hq
      refine call_enumerate_list p'.isList fun h' he hit hsz hk => wpAny_pyIter_enum he ?_
      have I2 : Inv X pins σ H1 { s1 with heap := h' } := I1.kept (t' := s1.toks) hk
      exact ⟨s1.heap.objs.size + 1, [s1.heap.objs.size + 1, s1.heap.objs.size], _, _, H1, rfl, I2, turn_enum a (s1.heap.objs.size + 1) s1.heap.objs.size, ⟨⟨.none, he⟩, hit, Nat.succ_ne_self _⟩, fp, q⟩
    · obtain ⟨its, rv, p', hz⟩ := I1.tuple hq
      have p' : s1.heap.IsTuple a its.toArray := p'
      have la : a < s1.heap.objs.size := by obtain ⟨o, e, _⟩ := p'; exact Heap.lt_size e
      refine call_enumT p' fun h' he hit hk => wpAny_pyIter_enum he ?_
      have I2 : Inv X pins σ H1 { s1 with heap := h' } := I1.kept (t' := s1.toks) hk
      exact ⟨s1.heap.objs.size + 1, [s1.heap.objs.size + 1, s1.heap.objs.size], _, _, H1, rfl, I2, turn_enumT a (s1.heap.objs.size + 1) s1.heap.objs.size, ⟨⟨.none, he⟩, hit, Nat.succ_ne_self _, Nat.ne_of_gt (Nat.lt_succ_of_lt la)⟩, fp, q⟩
theorem pi_zipB {e e2 : Expr} {Fa : List Slot → List O → Res (List D)} {p pos tpos : Pos} {elts : List Expr} {kk : Nat} (hg : Gl X "zip") (hm : X.mg "zip" = none) (ha : PA X [e, e2] (tA X.K X.mg W t Fa))
    (hs : starEach [e, e2] X.env = (false, eval e X.env) :: starEach [e2] X.env) (hpl : (backTo pos (starEach [e2] X.env)).any (·.1) = false) :
    PI X (.Tuple elts kk tpos) (.Call (.Name "zip" p) [e, e2] [] pos) (tI X.K X.mg W t fun r g => (Fa r g).bind fun ds g => lift (iterD .zip ds) g) := by
  refine ⟨fun pins s σ H R I h => (pi_zipA hg hm ha hs hpl).run pins s σ H R I ?_⟩
  refine tG.bind h fun y r ds g vs H1 _ G p q => ?_
  obtain ⟨xs, e1, q⟩ := lift_get q
  match ds, e1 with
  | [.lst d, .lst d2], e1 =>
    simp only [iterD, Option.some.injEq] at e1
    subst e1
    obtain ⟨v, w, rfl, p1, p2⟩ := rx_two p
    obtain ⟨a, vs, rfl, h1, h2⟩ := lstAt p1
    obtain ⟨a', vs', rfl, h1', h2'⟩ := lstAt p2
    exact ⟨a, a', vs, vs', rfl, .inl ⟨h2 _ _ RchX.refl, h2' _ _ RchX.refl, q y H1 _ (Ext.refl _ _) G (wof_pair h1 h1' rfl (walk_zip rfl) fun y2 H2 r => ⟨h2 _ _ r, h2' _ _ r⟩)⟩⟩
  | [.tup d, .tup d2], e1 =>
    simp only [iterD, Option.some.injEq] at e1
    subst e1
    obtain ⟨v, w, rfl, p1, p2⟩ := rx_two p
    obtain ⟨a, vs, rfl, h1, h2⟩ := tupAt p1
    obtain ⟨a', vs', rfl, h1', h2'⟩ := tupAt p2
    exact ⟨a, a', vs, vs', rfl, .inr ⟨h2 _ _ RchX.refl, h2' _ _ RchX.refl, q y H1 _ (Ext.refl _ _) G (wof_pair h1 h1' rfl (walk_zipT rfl) fun y2 H2 r => ⟨h2 _ _ r, h2' _ _ r⟩)⟩⟩
end
end Bk
end
section
set_option Elab.async false
set_option linter.all false
set_option maxRecDepth 100000
set_option maxHeartbeats 4000000
namespace Bk
open PySem PySem.Spec PyProof.Rows L2 RZ

/-! ## own syntax against the program's -/
structure MT where
  N : List Str     -- the names by slot
  fs : List Str    -- the functions by number
  gs : List Str    -- the constants by number
def visB (sc : Scope) (x : Str) : Bool := match sc.names.lookup x with
  | some .local => true | some .cell => true | some .free => true | _ => false
def locB (sc : Scope) (x : Str) : Bool := match sc.names.lookup x with
  | some .local => true | some .cell => true | _ => false
def glB (sc : Scope) (x : Str) : Bool := match sc.names.lookup x with
  | some .globalImplicit => true | _ => false
def nmB (x : Str) : Bool := !(x == Str.ofString "__debug__") && !(x == Str.ofString "__classdict__") && !(x == Str.ofString "__name__")
def notStar : Expr → Bool
  | .Starred _ _ => false
  | _ => true
def notSet : Expr → Bool
  | .Set _ _ _ => false
  | _ => true
def notSl : Expr → Bool
  | .Slice _ _ _ _ => false
  | _ => true
def notTup : Expr → Bool
  | .Tuple _ _ _ => false
  | _ => true
def notLc : Expr → Bool
  | .ListComp _ _ _ _ => false | .SetComp _ _ _ _ => false | .DictComp _ _ _ _ _ => false
  | _ => true
/-- a test is asked by its value -/
def plainT : Expr → Bool
  | .UnaryOp .Not _ _ => false | .BoolOp _ _ _ => false | .IfExp _ _ _ _ => false | .Compare _ _ _ _ => false
  | _ => true
def rdB (T : MT) (sc : Scope) (i : Nat) (x : Str) : Bool := decide (T.N[i]? = some x) && visB sc x && nmB x
def bnB (sc : Scope) (s : String) (x : Str) : Bool := (x == Str.ofString s) && glB sc x
def Bi.nm : Bi → String
  | .len => "len" | .abs => "abs" | .sum => "sum" | .tuple => "tuple" | .list => "list" | .sorted => "sorted" | .int => "int" | .str => "str" | .repr => "repr" | .max => "max" | .min => "min" | .all => "all"
def bnames : List String := ["len", "abs", "sum", "tuple", "list", "sorted", "int", "str", "repr", "max", "min", "all", "range", "enumerate", "zip", "isinstance", "set", "bool", "dict"]
/-- the parts of an iterable -/
def call1 : Expr → Option (Str × Expr)
  | .Call (.Name f _) [a] [] _ => some (f, a)
  | _ => none
def call2 : Expr → Option (Str × Expr × Expr)
  | .Call (.Name f _) [a, b] [] _ => some (f, a, b)
  | _ => none
def itX (sc : Scope) (ik : IK) (e : Expr) : Option (List Expr) := match ik with
  | .seq => if notSet e then some [e] else none
  | .range => (call1 e).bind fun p => if bnB sc "range" p.1 then some [p.2] else none
  | .range2 => (call2 e).bind fun p => if bnB sc "range" p.1 then some [p.2.1, p.2.2] else none
  | .enum => (call1 e).bind fun p => if bnB sc "enumerate" p.1 then some [p.2] else none
  | .zip => (call2 e).bind fun p => if bnB sc "zip" p.1 then some [p.2.1, p.2.2] else none
theorem call1_inv {e : Expr} {f : Str} {a : Expr} (h : call1 e = some (f, a)) : ∃ p p2, e = .Call (.Name f p) [a] [] p2 := by
  unfold call1 at h
  split at h
  · cases h; exact ⟨_, _, rfl⟩
  · cases h
theorem call2_inv {e : Expr} {f : Str} {a b : Expr} (h : call2 e = some (f, a, b)) : ∃ p p2, e = .Call (.Name f p) [a, b] [] p2 := by
  unfold call2 at h
  split at h
  · cases h; exact ⟨_, _, rfl⟩
  · cases h
theorem it1_inv {sc : Scope} {e : Expr} {s : String} {xs : List Expr} (h : ((call1 e).bind fun p => if bnB sc s p.1 then some [p.2] else none) = some xs) : ∃ f p a p2, e = .Call (.Name f p) [a] [] p2 ∧ bnB sc s f = true ∧ xs = [a] := by
  cases q : call1 e with
  | none => rw [q] at h; cases h
  | some z =>
    obtain ⟨f, a⟩ := z
    obtain ⟨p, p2, rfl⟩ := call1_inv q
    rw [q] at h
    by_cases hb : bnB sc s f = true
    · simp [hb] at h
      exact ⟨f, p, a, p2, rfl, hb, h.symm⟩
    · simp [hb] at h
theorem it2_inv {sc : Scope} {e : Expr} {s : String} {xs : List Expr} (h : ((call2 e).bind fun p => if bnB sc s p.1 then some [p.2.1, p.2.2] else none) = some xs) : ∃ f p a b p2, e = .Call (.Name f p) [a, b] [] p2 ∧ bnB sc s f = true ∧ xs = [a, b] := by
  cases q : call2 e with
  | none => rw [q] at h; cases h
  | some z =>
    obtain ⟨f, a, b⟩ := z
    obtain ⟨p, p2, rfl⟩ := call2_inv q
    rw [q] at h
    by_cases hb : bnB sc s f = true
    · simp [hb] at h
      exact ⟨f, p, a, b, p2, rfl, hb, h.symm⟩
    · simp [hb] at h
def mNs (N : List Str) (sc : Scope) : List Nat → List Expr → Bool
  | [], [] => true
  | i :: is, .Name x _ :: xs => decide (N[i]? = some x) && locB sc x && mNs N sc is xs
  | _, _ => false
def mTg (N : List Str) (sc : Scope) : Tg → Expr → Bool
  | .nm i, .Name x _ => decide (N[i]? = some x) && locB sc x
  | .tp is, .Tuple xs _ _ => mNs N sc is xs
  | _, _ => false
/-- pairs go to pairs of names -/
def ikOk : IK → Tg → Bool
  | .enum, .nm _ => false | .zip, .nm _ => false
  | _, _ => true
def ownB (N : List Str) (tg : Tg) : List (Str × Nat) := tg.slots.map fun i => (N.getD i ⟨#[]⟩, i)
def plainOps : CmpOp → Expr → Bool := fun o e => !behindInMarks o e
/-- what is new when it comes -/
def fresh : E → Bool
  | .lst _ => true | .seqS false _ _ => true | .dct0 => true | .dct1 _ _ => true | .bin _ _ _ => true | .bi _ _ => true | .sset _ => true | .slice _ _ _ => true | .rev _ => true | .comp _ _ _ _ _ => true
  | _ => false

mutual
def mE (T : MT) : E → Scope → Expr → Bool
  | .var i, sc, .Name x _ => rdB T sc i x
  | .own i, sc, .Name x _ => rdB T sc i x
  | .glob i, sc, .Name x _ => decide (T.gs[i]? = some x) && glB sc x && nmB x
  | .int k, _, .Constant (.int j) _ _ => k == j
  | .bl k, _, .Constant (.bool j) _ _ => k == j
  | .non, _, .Constant .none _ _ => true
  | .str s, _, .Constant (.str x) _ _ => x == Str.ofString s
  | .tup es, sc, .Tuple xs _ _ => mEs T es sc xs
  | .lst es, sc, .List xs _ => mEs T es sc xs
  | .seqS true st es, sc, .Tuple xs _ _ => mS T es st sc xs
  | .seqS false st es, sc, .List xs _ => mS T es st sc xs
  | .bin op a b, sc, .BinOp x o z _ => decide (op.op = o) && mE T a sc x && mE T b sc z
  | .neg a, sc, .UnaryOp .USub x _ => mE T a sc x
  | .not a, sc, .UnaryOp .Not x _ => mE T a sc x
  | .cmp op a b, sc, .Compare x [o] [z] _ => decide (op.op = o) && plainOps o z && mE T a sc x && mE T b sc z
  | .chain op op2 a b c, sc, .Compare x [o, o2] [z, u] _ => decide (op.op = o) && decide (op2.op = o2) && plainOps o2 u && mE T a sc x && mE T b sc z && mE T c sc u
  | .band es, sc, .BoolOp .And xs _ => !es.isEmpty && mEs T es sc xs
  | .bor es, sc, .BoolOp .Or xs _ => !es.isEmpty && mEs T es sc xs
  | .ife c a b, sc, .IfExp x z u _ => mE T c sc x && mE T a sc z && mE T b sc u
  | .call f es, sc, .Call (.Name x _) xs [] _ => decide (T.fs[f]? = some x) && glB sc x && nmB x && mEs T es sc xs
  | .bi f es, sc, .Call (.Name x _) xs [] _ => bnB sc f.nm x && !es.isEmpty && mEs T es sc xs
  | .isi e t, sc, .Call (.Name x _) [z, .Name y _] [] _ => bnB sc "isinstance" x && bnB sc t.nm y && notStar z && mE T e sc z
  | .sset _, _, _ => false
  | .ix a b, sc, .Subscript x z _ => notSl z && mE T a sc x && mE T b sc z
  | .slice a lo hi, sc, .Subscript x (.Slice l u none _) _ => mE T a sc x && mO T lo sc l && mO T hi sc u
  | .rev _, _, _ => false
  | .comp elt tg ik its ifs, sc, .ListComp x [⟨tx, ix, fx, n⟩] scope _ => n == 0 && (match itX sc ik ix with
      | some xs => mEs T its sc xs
      | none => false) && ikOk ik tg && mTg T.N scope tg tx && blkC T.N sc scope (ownB T.N tg) && decide (ifs.length ≤ 1) && mEs T ifs (relS scope sc) fx && mE T elt (relS scope sc) x
  | .mk e, sc, x => fresh e && plainT x && mE T e sc x
  | .dct0, _, .Dict [] [] _ => true
  | .dct1 k e, sc, .Dict [some (.Constant (.str x) _ _)] [v] _ => x == Str.ofString k && mE T e sc v
  | _, _, _ => false
def mEs (T : MT) : List E → Scope → List Expr → Bool
  | [], _, [] => true
  | e :: es, sc, x :: xs => notStar x && mE T e sc x && mEs T es sc xs
  | _, _, _ => false
def mS (T : MT) : List E → List Bool → Scope → List Expr → Bool
  | [], [], _, [] => true
  | e :: es, true :: st, sc, .Starred x _ :: xs => mE T e sc x && mS T es st sc xs
  | e :: es, false :: st, sc, x :: xs => notStar x && mE T e sc x && mS T es st sc xs
  | _, _, _, _ => false
def mO (T : MT) : List E → Scope → Option Expr → Bool
  | [], _, none => true
  | [e], sc, some x => mE T e sc x
  | _, _, _ => false
end
/-! ## functions -/
section
variable (K : PySem.W.Frag) (mg : Str → Option Value)
/-- what a function with the meaning F promises -/
def spB (n : Nat) (F : List D → List O → Res D) : Sp := fun vs H Q E => ∃ y g ds, vs.length = n ∧ Reps K y H ds vs ∧ Good K y H g ∧ match F ds g with
  | .ok d g' => ∀ y' H' v, Ext y H y' H' → Good K y' H' g' → Rep K y' H' d v → Q v H'
  | .exc x g' => ∀ y' H' c od, Ext y H y' H' → Good K y' H' g' → XRep K mg y' H' x c od → E c od H'
  | .bad => False
end
structure GFn (P : Program) (w : World) (K : PySem.W.Frag) (mg : Str → Option Value) (base : Heap) (k : Nat) (f : Addr) (fd : FuncData) (ps : List Str) (sp : Sp) : Prop where
  len : ∀ vs H Q E, sp vs H Q E → vs.length = ps.length
  run : ∀ (A : Around) (outer : List Env) (s : Shared) (H : Hp) (args : Args) (us : List Value) (vs : List V) (Q : VK) (E : XK), Room k A → A.guards = some [] → Env0 P w K mg base A outer s H → BindsTo s fd args (ps.zip us) → Vals vs us → sp vs H Q E →
    codeAny (model P w) A (.call (.ref f) args) (CR (L2.CX P w) outer P w H s Q E) s
/-- all that stands around an expression -/
structure HX (gl : Nat → Option D) (cl : Nat → List D → List O → Res D) (T : MT) (X : Cx) (W : WX) : Prop where
  N : X.N = T.N
  nd : X.N.Nodup
  calm : X.calm = true
  units : X.A.units + 200 < cLine
  guards : X.A.guards = some []
  bn : ∀ s ∈ bnames, X.mg (Str.ofString s) = none
  gls : ∀ i d, gl i = some d → ∃ x u v, T.gs[i]? = some x ∧ X.mg x = some u ∧ RelV v u ∧ ∀ y H, Rep X.K y H d v
  fns : ∀ i x, T.fs[i]? = some x → ∃ fa fd ps, X.mg x = some (.ref fa) ∧ PySem.W.keepIn X.K (.ref fa) = true ∧ Binds X.K fd ps [] ∧ (∀ ds g, ds.length ≠ ps.length → cl i ds g = .bad) ∧
    ((∀ ds g, cl i ds g = .bad) ∨ ∃ k, Room k X.A ∧ GFn X.prog X.w X.K X.mg X.base k fa fd ps (spB X.K X.mg ps.length (cl i)))
  tk : Takes X W
theorem HX.blk {gl : Nat → Option D} {cl : Nat → List D → List O → Res D} {T : MT} {X : Cx} {W : WX} (h : HX gl cl T X W) (s : Shared) (H : Hp) (scope : Scope) (ce : Env) (fp : List Addr) : HX gl cl T (X.blk s H scope ce fp) (fun _ _ _ _ => False) :=
  ⟨h.N, h.nd, h.calm, h.units, h.guards, h.bn, h.gls, h.fns, takes0⟩

/-! ## small lemmas -/
theorem peI {X : Cx} {e : Expr} {t t' : TE} (h : PE X e t) (k : ∀ σ H Q, t' σ H Q → t σ H Q) : PE X e t' := ⟨fun pins s σ H Q I q => h.run pins s σ H Q I (k σ H Q q)⟩
theorem ptI {X : Cx} {e : Expr} {t t' : TT} (h : PT X e t) (k : ∀ σ H Q, t' σ H Q → t σ H Q) : PT X e t' := ⟨fun pins s σ H Q I q => h.run pins s σ H Q I (k σ H Q q)⟩
theorem pwI {X : Cx} {e : Expr} {t t' : TT} (h : PW X e t) (k : ∀ σ H Q, t' σ H Q → t σ H Q) : PW X e t' := ⟨fun wh pins s σ H Q I q => h.run wh pins s σ H Q I (k σ H Q q)⟩
theorem paI {X : Cx} {e : List Expr} {t t' : TA} (h : PA X e t) (k : ∀ σ H Q, t' σ H Q → t σ H Q) : PA X e t' := ⟨fun pos pins s σ H Q I q => h.run pos pins s σ H Q I (k σ H Q q)⟩
theorem vis_of {sc : Scope} {x : Str} (h : visB sc x = true) : Vis sc x := by
  unfold visB at h
  unfold Vis
  split at h <;> first | exact .inl (by assumption) | exact .inr (.inl (by assumption)) | exact .inr (.inr (by assumption)) | cases h
theorem loc_of {sc : Scope} {x : Str} (h : locB sc x = true) : L2.Loc sc x := by
  unfold locB at h
  unfold L2.Loc
  split at h <;> first | exact .inl (by assumption) | exact .inr (by assumption) | cases h
theorem gl_of {X : Cx} {x : Str} (h : glB X.env.scope x = true) : Gl X x := by
  unfold glB at h
  show X.env.scope.names.lookup x = some .globalImplicit
  split at h
  · assumption
  · cases h
theorem nm_of {x : Str} (h : nmB x = true) : (x == Str.ofString "__debug__") = false ∧ (x == Str.ofString "__classdict__") = false ∧ x ≠ Str.ofString "__name__" := by
  unfold nmB at h
  simp only [Bool.and_eq_true, Bool.not_eq_true'] at h
  exact ⟨h.1.1, h.1.2, fun e => by rw [e] at h; simp at h⟩
theorem bn_of {X : Cx} {s : String} {x : Str} (h : bnB X.env.scope s x = true) : x = Str.ofString s ∧ Gl X x := by
  unfold bnB at h
  simp only [Bool.and_eq_true, beq_iff_eq] at h
  exact ⟨h.1, gl_of h.2⟩
theorem star_cons {e : Expr} {es : List Expr} {env : Env} (h : notStar e = true) : starEach (e :: es) env = (false, eval e env) :: starEach es env := by
  cases e <;> first | rfl | cases h
theorem star_all {env : Env} {pos : Pos} : ∀ {es : List Expr}, (∀ e ∈ es, notStar e = true) → (backTo pos (starEach es env)).any (·.1) = false
  | [], _ => rfl
  | e :: es, h => by
    rw [star_cons (h e List.mem_cons_self)]
    show (false || (backTo pos (starEach es env)).any (·.1)) = false
    rw [star_all fun x hx => h x (List.mem_cons_of_mem _ hx)]
    rfl
theorem mEs_star {T : MT} {sc : Scope} : ∀ {es : List E} {xs : List Expr}, mEs T es sc xs = true → ∀ x ∈ xs, notStar x = true
  | [], [], _, x, hx => by cases hx
  | e :: es, z :: zs, h, x, hx => by
    simp only [mEs, Bool.and_eq_true] at h
    rcases List.mem_cons.mp hx with rfl | hx
    · exact h.1.1
    · exact mEs_star h.2 x hx
  | [], _ :: _, h, _, _ => by simp [mEs] at h
  | _ :: _, [], h, _, _ => by simp [mEs] at h
theorem plain_of {e : Expr} {env : Env} (h : plainT e = true) : ∀ whole, isTrue e env whole = (do let v ← whole; standAt e.pos; holding [v] (truthy v)) := by
  intro w
  cases e with
  | UnaryOp op x p => cases op <;> first | rfl | exact absurd (show false = true from h) Bool.false_ne_true
  | _ => first | rfl | exact absurd (show false = true from h) Bool.false_ne_true
end Bk
end
section
set_option Elab.async false
set_option linter.all false
set_option maxRecDepth 100000
set_option maxHeartbeats 4000000
namespace Bk
open PySem PySem.Spec PyProof.Rows L2 RZ

abbrev EV := List Slot → List O → Res D
abbrev EA := List Slot → List O → Res (List D)
abbrev EB := List Slot → List O → Res Bool
section
variable {X : Cx} {W : WX} {gl : Nat → Option D} {cl : Nat → List D → List O → Res D} {T : MT} {m : Mode} {pos : Pos}
theorem PostX.use {m : Mode} {K : PySem.W.Frag} {mg : Str → Option Value} {y : Gh} {σ : L2.St} {H : Hp} {Q : VK} {d : D} {g : List O} (hm : m ≠ .f) (h : PostX K mg W m y σ H Q (.ok d g)) (G : Good K y H g) {v : V} (r : RepX K m.b y H d v) : Q v H := by
  cases m with
  | v => exact h y H v (Ext.refl _ _) G r
  | t => exact h y H v (Ext.refl _ _) G r
  | f => exact absurd rfl hm
theorem PostX.flat {m : Mode} {K : PySem.W.Frag} {mg : Str → Option Value} {y : Gh} {σ : L2.St} {H : Hp} {Q : VK} {d : D} {g : List O} (h : PostX K mg W m y σ H Q (.ok d g)) (G : Good K y H g) {v : V} (r : Rep K y H d v) (hd : ∀ ds, d ≠ .lst ds) (hd' : ∀ ks ds, d ≠ .dct ks ds) : Q v H := by
  have a := PostX.an h y H (Ext.refl _ _) G
  cases d with
  | lst ds => exact absurd rfl (hd ds)
  | dct ks ds => exact absurd rfl (hd' ks ds)
  | _ => exact a v r
theorem PostX.stepG {m : Mode} {K : PySem.W.Frag} {mg : Str → Option Value} {y y1 : Gh} {σ : L2.St} {H H1 : Hp} {Q : VK} {R : Res D} (e : Ext y H y1 H1) (h : PostX K mg W m y σ H Q R) : PostX K mg W m y1 σ H1 Q R := IsPost.x.step e h
theorem PostX.bl {m : Mode} {K : PySem.W.Frag} {mg : Str → Option Value} {y : Gh} {σ : L2.St} {H : Hp} {Q : VK} {b : Bool} {g : List O} (h : PostX K mg W m y σ H Q (.ok (.bl b) g)) (G : Good K y H g) : Q (.bl b) H :=
  h.flat G (by simp only [Rep]) (fun _ e => nomatch e) fun _ _ e => nomatch e
theorem tst_bl {K : PySem.W.Frag} {y : Gh} {H : Hp} {d : D} {v : V} {g : List O} (h : RepX K true y H d v) : (∃ b, v = .bl b ∧ asB d g = .ok b g) ∨ asB d g = .bad := by
  cases d with
  | bl b => exact .inl ⟨b, rt_bl (K := K) (y := y) (H := H) h, rfl⟩
  | _ => exact .inr rfl
/-- an expression as a test, by its value -/
theorem pt_of {x : Expr} {F : EV} (h : PE X x (tX X.K X.mg W .t F)) (hp : plainT x = true) : PT X x (tT X.K X.mg W fun r g => (F r g).bind asB) := by
  refine ptI (pt_val h (plain_of hp)) fun σ H Q ⟨y, r, g, S, G, p⟩ => ?_
  refine bindP IsPost.gp S G p fun y1 d g1 v H1 S1 G1 pd e1 p1 => ?_
  rcases tst_bl (g := g1) pd with ⟨b, rfl, e⟩ | e
  · rw [e] at p1
    exact ⟨b, rfl, p1 y1 H1 b (Ext.refl _ _) G1 rfl⟩
  · rw [e] at p1; exact p1.elim
/-! ### leaves -/
theorem pe_varB {i : Nat} {x : Str} (hN : X.N = T.N) (h : rdB T X.env.scope i x = true) (hm : m ≠ .f) : PE X (.Name x pos) (tX X.K X.mg W m fun r g => match r[i]? with
    | some (.fz d) => .ok d g
    | _ => .bad) := by
  unfold rdB at h
  simp only [Bool.and_eq_true, decide_eq_true_eq] at h
  obtain ⟨n1, n2, _⟩ := nm_of h.2
  refine peI (pe_var (i := i) (by rw [hN]; exact h.1.1) (vis_of h.1.2) n1 n2) fun σ H Q ⟨y, r, g, S, G, p⟩ => ?_
  dsimp only at p
  cases e : r[i]? with
  | none => rw [e] at p; exact (IsPost.x.bad p).elim
  | some s =>
    rw [e] at p
    cases s with
    | fz d =>
      obtain ⟨o, e1, v, e2, rv⟩ := S.at_ i _ e
      exact ⟨v, by rw [e1, e2], PostX.use hm p G rv.x⟩
    | _ => exact (IsPost.x.bad p).elim
theorem pe_ownB {i : Nat} {x : Str} (hN : X.N = T.N) (h : rdB T X.env.scope i x = true) (hm : m ≠ .f) : PE X (.Name x pos) (tX X.K X.mg W m fun r g => if m.b then (match r[i]? with
    | some (.own ds) => .ok (.lst ds) g
    | some (.ownK ks ds) => .ok (.dct ks ds) g
    | _ => .bad) else .bad) := by
  unfold rdB at h
  simp only [Bool.and_eq_true, decide_eq_true_eq] at h
  obtain ⟨n1, n2, _⟩ := nm_of h.2
  refine peI (pe_var (i := i) (by rw [hN]; exact h.1.1) (vis_of h.1.2) n1 n2) fun σ H Q ⟨y, r, g, S, G, p⟩ => ?_
  cases m with
  | f => exact absurd rfl hm
  | v => exact p.elim
  | t =>
    dsimp only [Mode.b, if_true] at p
    cases e : r[i]? with
    | none => rw [e] at p; exact (IsPost.x.bad p).elim
    | some s =>
      rw [e] at p
      obtain ⟨o, e1, q⟩ := S.at_ i _ e
      cases s with
      | own ds =>
        obtain ⟨b, vs, e2, w, hb, rr⟩ := q
        exact ⟨.ref b, by rw [e1, e2], PostX.use hm p G (show RepT X.K y H (.lst ds) (.ref b) from ⟨b, vs, rfl, fun z => (G.disj b z).2 w, hb, rr⟩)⟩
      | ownK ks ds =>
        obtain ⟨b, vs, e2, w, hb, hl, rr⟩ := q
        exact ⟨.ref b, by rw [e1, e2], PostX.use hm p G (show RepT X.K y H (.dct ks ds) (.ref b) from ⟨b, vs, rfl, fun z => (G.disj b z).2 w, hb, hl, rr⟩)⟩
      | _ => exact (IsPost.x.bad p).elim
theorem pe_globB (h : HX gl cl T X W) {i : Nat} {x : Str} (h1 : T.gs[i]? = some x) (h2 : glB X.env.scope x = true) (h3 : nmB x = true) (hm : m ≠ .f) : PE X (.Name x pos) (tX X.K X.mg W m fun r g => lift (gl i) g) := by
  obtain ⟨n1, n2, _⟩ := nm_of h3
  cases e : gl i with
  | none => 
    refine ⟨fun pins s σ H Q I ⟨y, r, g, S, G, p⟩ => (IsPost.x.bad p).elim⟩
  | some d =>
    obtain ⟨z, u, v, e1, e2, rv, rp⟩ := h.gls i d e
    rw [h1] at e1; cases e1
    exact peI (pe_glob (gl_of h2) e2 rv n1) fun σ H Q ⟨y, r, g, S, G, p⟩ => PostX.use hm p G (rp y H).x
theorem pe_constB {d : D} {v : V} {x : Expr} (h : PE X x (tC v)) (hr : ∀ y H, Rep X.K y H d v) (hm : m ≠ .f) : PE X x (tX X.K X.mg W m fun _ g => .ok d g) :=
  peI h fun σ H Q ⟨y, r, g, S, G, p⟩ => PostX.use hm p G (hr y H).x
/-! ### lists of expressions -/
theorem pa_nilB {t : Bool} : PA X [] (tA X.K X.mg W t fun _ g => .ok [] g) := paI pa_nil fun σ H Q ⟨y, r, g, S, G, p⟩ => p y H [] (Ext.refl _ _) G rfl
theorem pa_consB {e : Expr} {es : List Expr} {F : EV} {Fs : EA} {m : Mode} (hm : m ≠ .f) (hs : notStar e = true) (h1 : PE X e (tX X.K X.mg W m F)) (h2 : PA X es (tA X.K X.mg W m.b Fs)) : PA X (e :: es) (tA X.K X.mg W m.b fun r g => (F r g).bind fun d g => (Fs r g).bind fun ds g => .ok (d :: ds) g) := by
  have h1' : PE X e (tE X.K X.mg W m.b F) := by
    cases m with
    | v => exact h1
    | t => exact h1
    | f => exact absurd rfl hm
  refine paI (pa_cons h1' h2 (star_cons hs)) fun σ H Q ⟨y, r, g, S, G, p⟩ => ?_
  refine bindP IsPost.gp S G p fun y1 d g1 v H1 S1 G1 pd e1 p1 => ?_
  refine bindP IsPost.gp S1 G1 p1 fun y2 ds g2 vs H2 S2 G2 pds e2 p2 => ?_
  exact p2 y2 H2 (v :: vs) (Ext.refl _ _) G2 ⟨v, vs, rfl, pd.mono e2, pds⟩
/-! ### operators -/
theorem pe_tupB {es : List Expr} {Fs : EA} {k : Nat} (h : PA X es (tA X.K X.mg W false Fs)) : PE X (.Tuple es k pos) (tX X.K X.mg W m fun r g => (Fs r g).bind fun ds g => lift (mkT ds) g) := by
  refine peI (pe_tup h) fun σ H Q ⟨y, r, g, S, G, p⟩ => ?_
  refine bindP IsPost.x S G p fun y1 ds g1 vs H1 S1 G1 pd e1 p1 => ?_
  obtain ⟨o, ho, p2⟩ := lift_post IsPost.x p1
  unfold mkT at ho
  split at ho
  · rename_i hl
    cases ho
    have pd := RepsX.f pd
    exact ⟨by rw [← pd.length]; exact lim_size hl, fun p hp => (PostX.an p2).newT G1 pd p hp⟩
  · cases ho
theorem pe_lstB {es : List Expr} {Fs : EA} (h : PA X es (tA X.K X.mg W false Fs)) : PE X (.List es pos) (tX X.K X.mg W m fun r g => (Fs r g).bind fun ds g => lift (mkL ds) g) := by
  refine peI (pe_lst h) fun σ H Q ⟨y, r, g, S, G, p⟩ => ?_
  refine bindP IsPost.x S G p fun y1 ds g1 vs H1 S1 G1 pd e1 p1 => ?_
  obtain ⟨o, ho, p2⟩ := lift_post IsPost.x p1
  unfold mkL at ho
  split at ho
  · rename_i hl
    cases ho
    have pd := RepsX.f pd
    exact ⟨by rw [← pd.length]; exact lim_size hl, fun p hp => (PostX.an p2).newL G1 pd p hp⟩
  · cases ho
theorem pe_binB {op : Bop} {a b : Expr} {Fa Fb : EV} (hu : X.A.units + 200 < cLine) (ha : PE X a (tX X.K X.mg W .t Fa)) (hb : PE X b (tX X.K X.mg W .t Fb)) :
    PE X (.BinOp a op.op b pos) (tX X.K X.mg W m fun r g => (Fa r g).bind fun x g => (Fb r g).bind fun y g => lift (binop op x y) g) := by
  refine peI (pe_op (op_bin (by omega) op) ha hb) fun σ H Q ⟨y, r, g, S, G, p⟩ => ?_
  refine bindP IsPost.x S G p fun y1 d g1 v H1 S1 G1 pd e1 p1 => ?_
  refine bindP IsPost.x S1 G1 p1 fun y2 e g2 w H2 S2 G2 pe e2 p2 => ?_
  obtain ⟨o, ho, p3⟩ := lift_post IsPost.x p2
  exact ⟨y2, g2, d, e, o, G2, pd.mono e2, pe, ho, PostX.an p3⟩
theorem pe_negB {a : Expr} {Fa : EV} (ha : PE X a (tX X.K X.mg W .t Fa)) : PE X (.UnaryOp .USub a pos) (tX X.K X.mg W m fun r g => (Fa r g).bind fun x g => match x with
    | .int i => .ok (.int (-i)) g
    | _ => .bad) := by
  refine peI (pe_un un_neg ha) fun σ H Q ⟨y, r, g, S, G, p⟩ => ?_
  refine bindP IsPost.x S G p fun y1 d g1 v H1 S1 G1 pd e1 p1 => ?_
  cases d with
  | int i => exact ⟨i, rt_int (show RepT X.K y1 H1 (.int i) v from pd), (PostX.an p1).int G1⟩
  | _ => exact (IsPost.x.bad p1).elim
theorem pe_notB {a : Expr} {Fa : EV} (ha : PE X a (tX X.K X.mg W .t Fa)) : PE X (.UnaryOp .Not a pos) (tX X.K X.mg W m fun r g => ((Fa r g).bind asB).bind fun b g => .ok (.bl (!b)) g) := by
  refine peI (pe_not ha) fun σ H Q ⟨y, r, g, S, G, p⟩ => ?_
  have p : PostX X.K X.mg W m y σ H Q ((Fa r g).bind fun d g => (asB d g).bind fun b g => .ok (.bl (!b)) g) := by
    dsimp only at p
    rw [Res.assoc] at p
    exact p
  refine bindP IsPost.x S G p fun y1 d g1 v H1 S1 G1 pd e1 p1 => ?_
  rcases tst_bl (g := g1) pd with ⟨b, rfl, e⟩ | e
  · rw [e] at p1
    exact ⟨b, rfl, PostX.bl p1 G1⟩
  · rw [e] at p1; exact (IsPost.x.bad p1).elim
theorem pt_notB {a : Expr} {Fa : EB} (ha : PT X a (tT X.K X.mg W Fa)) : PT X (.UnaryOp .Not a pos) (tT X.K X.mg W fun r g => ((Fa r g).bind fun b g => .ok (.bl (!b)) g).bind asB) := by
  refine ptI (pt_not ha) fun σ H Q ⟨y, r, g, S, G, p⟩ => ?_
  have p : PostG X.K X.mg W (fun _ _ (b c : Bool) => b = c) y σ H Q ((Fa r g).bind fun b g => .ok (!b) g) := by
    dsimp only at p
    rw [Res.assoc] at p
    exact p
  refine bindP IsPost.gp S G p fun y1 d g1 v H1 S1 G1 pd e1 p1 => ?_
  subst pd
  exact p1 y1 H1 _ (Ext.refl _ _) G1 rfl
theorem pe_cmpB {op : Cop} {a b : Expr} {Fa Fb : EV} (hu : X.A.units + 200 < cLine) (ha : PE X a (tX X.K X.mg W .t Fa)) (hb : PE X b (tX X.K X.mg W .t Fb)) (hm : behindInMarks op.op b = false) :
    PE X (.Compare a [op.op] [b] pos) (tX X.K X.mg W m fun r g => (Fa r g).bind fun x g => (Fb r g).bind fun y g => (lift (cmpop op x y) g).bind fun b g => .ok (.bl b) g) := by
  refine peI (pe_cmpR (op_cmp (by omega) op) ha hb hm) fun σ H Q ⟨y, r, g, S, G, p⟩ => ?_
  refine bindP IsPost.x S G p fun y1 d g1 v H1 S1 G1 pd e1 p1 => ?_
  refine bindP IsPost.x S1 G1 p1 fun y2 e g2 w H2 S2 G2 pe e2 p2 => ?_
  cases ho : cmpop op d e with
  | none => rw [ho] at p2; exact (IsPost.x.bad p2).elim
  | some c =>
    rw [ho] at p2
    exact ⟨y2, g2, d, e, c, G2, pd.mono e2, pe, ho, PostX.bl p2 G2⟩
theorem pt_cmpB {op : Cop} {a b : Expr} {Fa Fb : EV} (hu : X.A.units + 200 < cLine) (ha : PE X a (tX X.K X.mg W .t Fa)) (hb : PE X b (tX X.K X.mg W .t Fb)) (hm : behindInMarks op.op b = false) :
    PT X (.Compare a [op.op] [b] pos) (tT X.K X.mg W fun r g => ((Fa r g).bind fun x g => (Fb r g).bind fun y g => (lift (cmpop op x y) g).bind fun b g => .ok (.bl b) g).bind asB) := by
  refine ptI (pt_cmpR (op_cmp (by omega) op) ha hb hm) fun σ H Q ⟨y, r, g, S, G, p⟩ => ?_
  have p : PostG X.K X.mg W (fun _ _ (b c : Bool) => b = c) y σ H Q ((Fa r g).bind fun x g => (Fb r g).bind fun y g => lift (cmpop op x y) g) := by
    dsimp only at p
    have e : ∀ x z g, ((lift (cmpop op x z) g).bind fun b g => Res.ok (D.bl b) g).bind asB = lift (cmpop op x z) g := fun x z g => by cases cmpop op x z <;> rfl
    simp only [Res.assoc] at p e
    simp only [e] at p
    exact p
  refine bindP IsPost.gp S G p fun y1 d g1 v H1 S1 G1 pd e1 p1 => ?_
  refine bindP IsPost.gp S1 G1 p1 fun y2 e g2 w H2 S2 G2 pe e2 p2 => ?_
  obtain ⟨c, ho, p3⟩ := lift_post IsPost.gp p2
  exact ⟨y2, g2, d, e, c, G2, pd.mono e2, pe, ho, c, rfl, p3 y2 H2 c (Ext.refl _ _) G2 rfl⟩
end
end Bk
end
section
set_option Elab.async false
set_option linter.all false
set_option maxRecDepth 100000
set_option maxHeartbeats 4000000
namespace Bk
open PySem PySem.Spec PyProof.Rows L2 RZ
section
variable {X : Cx} {W : WX} {gl : Nat → Option D} {cl : Nat → List D → List O → Res D} {T : MT} {m : Mode} {pos : Pos}
theorem pe_chainB {op op2 : Cop} {a b c : Expr} {Fa Fb Fc : EV} (hu : X.A.units + 200 < cLine) (ha : PE X a (tX X.K X.mg W .t Fa)) (hb : PE X b (tX X.K X.mg W .t Fb)) (hc : PE X c (tX X.K X.mg W .t Fc)) (hm : lastMarks [op.op, op2.op] [b, c] = false) :
    PE X (.Compare a [op.op, op2.op] [b, c] pos) (tX X.K X.mg W m fun r g => (Fa r g).bind fun x g => (Fb r g).bind fun y g => (lift (cmpop op x y) g).bind fun k g =>
      if k then (Fc r g).bind fun z g => (lift (cmpop op2 y z) g).bind fun b g => .ok (.bl b) g else .ok (.bl false) g) := by
  refine peI (pe_chain (op_cmp (by omega) op) (op_cmp (by omega) op2) ha hb hc hm) fun σ H Q ⟨y, r, g, S, G, p⟩ => ?_
  refine bindP IsPost.x S G p fun y1 d g1 v H1 S1 G1 pd e1 p1 => ?_
  refine bindP IsPost.x S1 G1 p1 fun y2 e g2 w H2 S2 G2 pe e2 p2 => ?_
  cases ho : cmpop op d e with
  | none => rw [ho] at p2; exact (IsPost.x.bad p2).elim
  | some k =>
    rw [ho] at p2
    simp only [lift_some, Res.bind_ok] at p2
    refine ⟨y2, g2, d, e, k, G2, pd.mono e2, pe, ho, k, rfl, ?_⟩
    cases k with
    | false => exact PostX.bl p2 G2
    | true =>
      simp only [if_true] at p2 ⊢
      refine bindP IsPost.x S2 G2 p2 fun y3 f g3 u H3 S3 G3 pf e3 p3 => ?_
      cases ho2 : cmpop op2 e f with
      | none => rw [ho2] at p3; exact (IsPost.x.bad p3).elim
      | some k2 =>
        rw [ho2] at p3
        exact ⟨y3, g3, e, f, k2, G3, RepT.mono e3 pe, pf, ho2, PostX.bl p3 G3⟩
theorem pt_chainB {op op2 : Cop} {a b c : Expr} {Fa Fb Fc : EV} (hu : X.A.units + 200 < cLine) (ha : PE X a (tX X.K X.mg W .t Fa)) (hb : PE X b (tX X.K X.mg W .t Fb)) (hc : PE X c (tX X.K X.mg W .t Fc)) (hm : lastMarks [op.op, op2.op] [b, c] = false) :
    PT X (.Compare a [op.op, op2.op] [b, c] pos) (tT X.K X.mg W fun r g => ((Fa r g).bind fun x g => (Fb r g).bind fun y g => (lift (cmpop op x y) g).bind fun k g =>
      if k then (Fc r g).bind fun z g => (lift (cmpop op2 y z) g).bind fun b g => .ok (.bl b) g else .ok (.bl false) g).bind asB) := by
  refine ptI (pt_chain (op_cmp (by omega) op) (op_cmp (by omega) op2) ha hb hc hm) fun σ H Q ⟨y, r, g, S, G, p⟩ => ?_
  have p := (by
    dsimp only at p
    simp only [Res.assoc] at p
    exact p : PostG X.K X.mg W (fun _ _ (b c : Bool) => b = c) y σ H Q ((Fa r g).bind fun x g => (Fb r g).bind fun y g => (lift (cmpop op x y) g).bind fun k g =>
      (if k then (Fc r g).bind fun z g => (lift (cmpop op2 y z) g).bind fun b g => .ok (.bl b) g else .ok (.bl false) g).bind asB))
  refine bindP IsPost.gp S G p fun y1 d g1 v H1 S1 G1 pd e1 p1 => ?_
  refine bindP IsPost.gp S1 G1 p1 fun y2 e g2 w H2 S2 G2 pe e2 p2 => ?_
  cases ho : cmpop op d e with
  | none => rw [ho] at p2; exact (IsPost.gp.bad p2).elim
  | some k =>
    rw [ho] at p2
    simp only [lift_some, Res.bind_ok] at p2
    refine ⟨y2, g2, d, e, k, G2, pd.mono e2, pe, ho, k, rfl, ?_⟩
    cases k with
    | false => exact ⟨false, rfl, p2 y2 H2 false (Ext.refl _ _) G2 rfl⟩
    | true =>
      simp only [if_true] at p2 ⊢
      rw [Res.assoc] at p2
      refine bindP IsPost.gp S2 G2 p2 fun y3 f g3 u H3 S3 G3 pf e3 p3 => ?_
      cases ho2 : cmpop op2 e f with
      | none => rw [ho2] at p3; exact (IsPost.gp.bad p3).elim
      | some k2 =>
        rw [ho2] at p3
        exact ⟨y3, g3, e, f, k2, G3, RepT.mono e3 pe, pf, ho2, k2, rfl, p3 y3 H3 k2 (Ext.refl _ _) G3 rfl⟩
/-! ### and, or, if else -/
theorem pe_oneB {op : BoolOp} {a : Expr} {Fa : EV} (ha : PE X a (tX X.K X.mg W .t Fa)) : PE X (.BoolOp op [a] pos) (tX X.K X.mg W m fun r g => ((Fa r g).bind asB).bind fun b g => .ok (.bl b) g) := by
  refine peI (pe_one ha) fun σ H Q ⟨y, r, g, S, G, p⟩ => ?_
  have p : PostX X.K X.mg W m y σ H Q ((Fa r g).bind fun d g => (asB d g).bind fun b g => .ok (.bl b) g) := by
    dsimp only at p
    rw [Res.assoc] at p
    exact p
  refine bindP IsPost.x S G p fun y1 d g1 v H1 S1 G1 pd e1 p1 => ?_
  rcases tst_bl (g := g1) pd with ⟨b, rfl, e⟩ | e
  · rw [e] at p1
    exact PostX.bl p1 G1
  · rw [e] at p1; exact (IsPost.x.bad p1).elim
theorem bool_id {R : Res D} : ((R.bind asB).bind fun b g => Res.ok (D.bl b) g).bind asB = R.bind asB := by
  cases R with
  | ok d g => cases d <;> rfl
  | exc x g => rfl
  | bad => rfl
theorem pw_oneB {c : Bool} {a : Expr} {Fa : EV} (ha : PT X a (tT X.K X.mg W fun r g => (Fa r g).bind asB)) : PW X (.BoolOp (if c then .And else .Or) [a] pos) (tT X.K X.mg W fun r g => (((Fa r g).bind asB).bind fun b g => .ok (.bl b) g).bind asB) := by
  have e : (fun (r : List Slot) (g : List O) => (((Fa r g).bind asB).bind fun b g => Res.ok (D.bl b) g).bind asB) = fun r g => (Fa r g).bind asB := by
    funext r g
    exact bool_id
  rw [e]
  cases c
  · exact pw_or1 ha
  · exact pw_and1 ha
theorem pe_boolB {c : Bool} {a b : Expr} {rest : List Expr} {Fa Fb : EV} (ha : PE X a (tX X.K X.mg W .t Fa)) (hb : PE X (.BoolOp (if c then .And else .Or) (b :: rest) pos) (tX X.K X.mg W m Fb)) :
    PE X (.BoolOp (if c then .And else .Or) (a :: b :: rest) pos) (tX X.K X.mg W m fun r g => ((Fa r g).bind asB).bind fun b g => if b = c then Fb r g else .ok (.bl b) g) := by
  have key : ∀ σ H Q, (tX X.K X.mg W m fun r g => ((Fa r g).bind asB).bind fun b g => if b = c then Fb r g else .ok (.bl b) g) σ H Q →
      tX X.K X.mg W .t Fa σ H fun x H1 => ∃ k, x = .bl k ∧ if k = c then tX X.K X.mg W m Fb σ H1 Q else Q (.bl k) H1 := fun σ H Q ⟨y, r, g, S, G, p⟩ => by
    have p : PostX X.K X.mg W m y σ H Q ((Fa r g).bind fun d g => (asB d g).bind fun b g => if b = c then Fb r g else .ok (.bl b) g) := by
      dsimp only at p
      rw [Res.assoc] at p
      exact p
    refine bindP IsPost.x S G p fun y1 d g1 v H1 S1 G1 pd e1 p1 => ?_
    rcases tst_bl (g := g1) pd with ⟨b, rfl, e⟩ | e
    · rw [e] at p1
      refine ⟨b, rfl, ?_⟩
      simp only [Res.bind_ok] at p1
      by_cases hb : b = c
      · rw [if_pos hb] at p1 ⊢
        exact ⟨y1, r, g1, S1, G1, p1⟩
      · rw [if_neg hb] at p1 ⊢
        exact PostX.bl p1 G1
    · rw [e] at p1; exact (IsPost.x.bad p1).elim
  cases c with
  | true =>
    refine peI (pe_and ha hb) fun σ H Q q => ?_
    obtain ⟨y, r, g, S, G, p⟩ := key σ H Q q
    refine ⟨y, r, g, S, G, ?_⟩
    have mono : ∀ (R : Res D) (Q Q' : VK), (∀ v H, Q v H → Q' v H) → PostG X.K X.mg W (RepX X.K true) y σ H Q R → PostG X.K X.mg W (RepX X.K true) y σ H Q' R := fun R Q Q' hq h => by
      cases R with
      | ok d g => exact fun y' H' v e G r => hq v H' (h y' H' v e G r)
      | exc x g => exact h
      | bad => exact h
    refine mono _ _ _ (fun v H1 ⟨k, ek, q⟩ => ⟨k, ek, ?_⟩) p
    cases k
    · simpa using q
    · simpa using q
  | false =>
    refine peI (pe_or ha hb) fun σ H Q q => ?_
    obtain ⟨y, r, g, S, G, p⟩ := key σ H Q q
    refine ⟨y, r, g, S, G, ?_⟩
    have mono : ∀ (R : Res D) (Q Q' : VK), (∀ v H, Q v H → Q' v H) → PostG X.K X.mg W (RepX X.K true) y σ H Q R → PostG X.K X.mg W (RepX X.K true) y σ H Q' R := fun R Q Q' hq h => by
      cases R with
      | ok d g => exact fun y' H' v e G r => hq v H' (h y' H' v e G r)
      | exc x g => exact h
      | bad => exact h
    refine mono _ _ _ (fun v H1 ⟨k, ek, q⟩ => ⟨k, ek, ?_⟩) p
    cases k
    · simpa using q
    · simpa using q
theorem pw_boolB {c : Bool} {a b : Expr} {rest : List Expr} {Fa Fb : EV} (ha : PT X a (tT X.K X.mg W fun r g => (Fa r g).bind asB)) (hb : PW X (.BoolOp (if c then .And else .Or) (b :: rest) pos) (tT X.K X.mg W fun r g => (Fb r g).bind asB)) :
    PW X (.BoolOp (if c then .And else .Or) (a :: b :: rest) pos) (tT X.K X.mg W fun r g => (((Fa r g).bind asB).bind fun b g => if b = c then Fb r g else .ok (.bl b) g).bind asB) := by
  have key : ∀ σ H Q, (tT X.K X.mg W fun r g => (((Fa r g).bind asB).bind fun b g => if b = c then Fb r g else .ok (.bl b) g).bind asB) σ H Q →
      (tT X.K X.mg W fun r g => (Fa r g).bind asB) σ H fun k H1 => if k = c then (tT X.K X.mg W fun r g => (Fb r g).bind asB) σ H1 Q else Q k H1 := fun σ H Q ⟨y, r, g, S, G, p⟩ => by
    have p : PostG X.K X.mg W (fun _ _ (b c : Bool) => b = c) y σ H Q (((Fa r g).bind asB).bind fun b g => (if b = c then Fb r g else .ok (.bl b) g).bind asB) := by
      dsimp only at p
      rw [Res.assoc] at p
      exact p
    refine bindP (F := fun r g => (Fa r g).bind asB) IsPost.gp S G p fun y1 b g1 v H1 S1 G1 pd e1 p1 => ?_
    subst pd
    by_cases hb : b = c
    · rw [if_pos hb] at p1 ⊢
      exact ⟨y1, r, g1, S1, G1, p1⟩
    · rw [if_neg hb] at p1 ⊢
      exact p1 y1 H1 b (Ext.refl _ _) G1 rfl
  have mono : ∀ {y : Gh} {σ : L2.St} {H : Hp} (R : Res Bool) (Q Q' : Bool → Hp → Prop), (∀ v H, Q v H → Q' v H) → PostG X.K X.mg W (fun _ _ (b c : Bool) => b = c) y σ H Q R → PostG X.K X.mg W (fun _ _ (b c : Bool) => b = c) y σ H Q' R := fun R Q Q' hq h => by
    cases R with
    | ok d g => exact fun y' H' v e G r => hq v H' (h y' H' v e G r)
    | exc x g => exact h
    | bad => exact h
  cases c with
  | true =>
    refine pwI (pw_and ha hb) fun σ H Q q => ?_
    obtain ⟨y, r, g, S, G, p⟩ := key σ H Q q
    refine ⟨y, r, g, S, G, mono _ _ _ (fun k H1 q => ?_) p⟩
    cases k
    · simpa using q
    · simpa using q
  | false =>
    refine pwI (pw_or ha hb) fun σ H Q q => ?_
    obtain ⟨y, r, g, S, G, p⟩ := key σ H Q q
    refine ⟨y, r, g, S, G, mono _ _ _ (fun k H1 q => ?_) p⟩
    cases k
    · simpa using q
    · simpa using q
theorem pe_ifB {c a b : Expr} {Fc Fa Fb : EV} (hc : PT X c (tT X.K X.mg W fun r g => (Fc r g).bind asB)) (ha : PE X a (tX X.K X.mg W m Fa)) (hb : PE X b (tX X.K X.mg W m Fb)) :
    PE X (.IfExp c a b pos) (tX X.K X.mg W m fun r g => ((Fc r g).bind asB).bind fun x g => if x = true then Fa r g else Fb r g) := by
  refine peI (pe_ifExp hc ha hb) fun σ H Q ⟨y, r, g, S, G, p⟩ => ?_
  refine bindP (F := fun r g => (Fc r g).bind asB) IsPost.x S G p fun y1 b g1 v H1 S1 G1 pd e1 p1 => ?_
  subst pd
  cases b with
  | true => exact ⟨y1, r, g1, S1, G1, by simpa using p1⟩
  | false => exact ⟨y1, r, g1, S1, G1, by simpa using p1⟩
theorem pt_ifExp {c a b : Expr} {tc ta tb : TT} (hc : PT X c tc) (ha : PT X a ta) (hb : PT X b tb) : PT X (.IfExp c a b pos) (fun σ H Q => tc σ H fun k H1 => if k = true then ta σ H1 Q else tb σ H1 Q) := by
  refine ⟨fun pins s σ H Q I h => ?_⟩
  show wpAny (model X.prog X.w) X.A (do if ← PySem.isTrue c X.env (eval c X.env) then PySem.isTrue a X.env (eval a X.env) else PySem.isTrue b X.env (eval b X.env)) _ _ _
  refine wpAny_bind (thn (hc.run pins s σ H _ I h) fun k s1 ⟨H1, I1, q⟩ => ?_)
  cases k with
  | true => exact ha.run pins s1 σ H1 Q I1 (by simpa using q)
  | false => exact hb.run pins s1 σ H1 Q I1 (by simpa using q)
theorem pt_ifB {c a b : Expr} {Fc Fa Fb : EV} (hc : PT X c (tT X.K X.mg W fun r g => (Fc r g).bind asB)) (ha : PT X a (tT X.K X.mg W fun r g => (Fa r g).bind asB)) (hb : PT X b (tT X.K X.mg W fun r g => (Fb r g).bind asB)) :
    PT X (.IfExp c a b pos) (tT X.K X.mg W fun r g => (((Fc r g).bind asB).bind fun x g => if x = true then Fa r g else Fb r g).bind asB) := by
  refine ptI (pt_ifExp hc ha hb) fun σ H Q ⟨y, r, g, S, G, p⟩ => ?_
  have p : PostG X.K X.mg W (fun _ _ (b c : Bool) => b = c) y σ H Q (((Fc r g).bind asB).bind fun x g => (if x = true then Fa r g else Fb r g).bind asB) := by
    dsimp only at p
    rw [Res.assoc] at p
    exact p
  refine bindP (F := fun r g => (Fc r g).bind asB) IsPost.gp S G p fun y1 b g1 v H1 S1 G1 pd e1 p1 => ?_
  subst pd
  cases b with
  | true => exact ⟨y1, r, g1, S1, G1, by simpa using p1⟩
  | false => exact ⟨y1, r, g1, S1, G1, by simpa using p1⟩
end
end Bk
end
section
set_option Elab.async false
set_option linter.all false
set_option maxRecDepth 100000
set_option maxHeartbeats 4000000
namespace Bk
open PySem PySem.Spec PyProof.Rows L2 RZ
section
variable {X : Cx} {W : WX} {gl : Nat → Option D} {cl : Nat → List D → List O → Res D} {T : MT} {m : Mode} {pos : Pos}
/-! ### calls -/
theorem run_g {k : Nat} {f : Addr} {fd : FuncData} {ps : List Str} {sp : Sp} {pins : List (Addr × Obj)} {σ : L2.St} {H : Hp} {s : Shared} {Q : VK} {us : List Value} {vs : List V} (F : GFn X.prog X.w X.K X.mg X.base k f fd ps sp) (hr : Room k X.A) (hgd : X.A.guards = some []) (hb : Binds X.K fd ps []) (tk : Takes X W)
    (I : Inv X pins σ H s) (r : Vals vs us) (h : sp vs H Q (WE W σ)) : wpAny (model X.prog X.w) X.A (call (.ref f) us) (EP X pins σ Q) X.xe s := by
  have hl : (us ++ []).length = ps.length := by rw [List.append_nil, ← r.length]; exact F.len _ _ _ _ h
  have b := hb s us I.kIn hl
  rw [List.append_nil] at b
  refine wpAny_call (codeAny_mono (F.run X.A X.stack s H ⟨us, []⟩ us vs Q (WE W σ) hr hgd I.env0 b r h) fun r s' hq => ?_)
  match r, hq with
  | .error e, hq => exact passAt tk σ pins H s e s' I hq
  | .ok (.ret u), hq => exact I.after hq
  | .ok .next, hq => exact False.elim hq
  | .ok .brk, hq => exact False.elim hq
  | .ok .cont, hq => exact False.elim hq
theorem pe_callB1 (h : HX gl cl T X W) {i : Nat} {x : Str} {p : Pos} {es : List Expr} {Fs : EA} (hi : T.fs[i]? = some x) (hg : glB X.env.scope x = true) (hn : nmB x = true) (hs : ∀ e ∈ es, notStar e = true) (h0 : es = [] → Fs = fun _ g => .ok [] g) (ha : PA X es (tA X.K X.mg W false Fs)) (hm : m ≠ .f) :
    PE X (.Call (.Name x p) es [] pos) (tX X.K X.mg W m fun r g => (Fs r g).bind fun ds g => cl i ds g) := by
  obtain ⟨n1, n2, _⟩ := nm_of hn
  obtain ⟨fa, fd, ps, h2, h3, h4, h6, h7⟩ := h.fns i x hi
  have key : ∀ σ H Q, (tX X.K X.mg W m fun r g => (Fs r g).bind fun ds g => cl i ds g) σ H Q → (tA X.K X.mg W false Fs) σ H fun vs H1 => spB X.K X.mg ps.length (cl i) vs H1 Q (WE W σ) := fun σ H Q ⟨y, r, g, S, G, p⟩ => by
    refine bindP IsPost.x S G p fun y1 ds g1 vs H1 S1 G1 pd e1 p1 => ?_
    have hl : ds.length = ps.length := by
      by_cases e : ds.length = ps.length
      · exact e
      · rw [h6 ds g1 e] at p1; exact (IsPost.x.bad p1).elim
    refine ⟨y1, g1, ds, by rw [← (RepsX.f pd).length, hl], RepsX.f pd, G1, ?_⟩
    cases hr : cl i ds g1 with
    | bad => rw [hr] at p1; exact (IsPost.x.bad p1).elim
    | exc c g2 => rw [hr] at p1; exact IsPost.x.exc p1
    | ok d g2 =>
      rw [hr] at p1
      cases m with
      | v => exact fun y' H' v e G r => p1 y' H' v e G r
      | t => exact fun y' H' v e G r => p1 y' H' v e G r.t
      | f => exact absurd rfl hm
  have fin : ∀ {pins : List (Addr × Obj)} {s : Shared} {σ : L2.St} {H : Hp} {Q : VK} {us : List Value} {vs : List V}, Inv X pins σ H s → Vals vs us → spB X.K X.mg ps.length (cl i) vs H Q (WE W σ) → wpAny (model X.prog X.w) X.A (call (.ref fa) us) (EP X pins σ Q) X.xe s := by
    intro pins s σ H Q us vs I r q
    rcases h7 with hb | ⟨k, hr, F⟩
    · obtain ⟨y, g, ds, _, _, _, z⟩ := q
      rw [hb] at z
      exact z.elim
    · exact run_g F hr h.guards h4 h.tk I r q
  refine ⟨fun pins s σ H Q I q => ?_⟩
  have q2 := key σ H Q q
  cases es with
  | nil =>
    refine wpAny_Call_Name_kw (ld_glob I (gl_of hg) h2 ?_ n1)
    refine PySem.W.callWith_K0 I.kIn h3 (fin (us := []) I .nil ?_)
    obtain ⟨y, r, g, S, G, p⟩ := q2
    rw [h0 rfl] at p
    exact p y H [] (Ext.refl _ _) G rfl
  | cons e es =>
    refine wpAny_Call_Name_kw (ld_glob I (gl_of hg) h2 ?_ n1)
    exact PySem.W.callWith_K (h₀ := X.base) I.ok.mod.kin h3 (thn (ha.run pos pins s σ H _ I q2) fun us s1 ⟨vs, H1, I1, r, q3⟩ => ⟨I1.kIn, fin I1 r q3⟩) (star_cons (hs e List.mem_cons_self)) (star_all fun x hx => hs x (List.mem_cons_of_mem _ hx))
/-! ### built-in functions -/
theorem dbg_of {x : Str} {s : String} (e : x = Str.ofString s) (h : (Str.ofString s == Str.ofString "__debug__") = false) : (x == Str.ofString "__debug__") = false := by rw [e]; exact h
theorem pe_biB (h : HX gl cl T X W) {f : Bi} {x : Str} {p : Pos} {es : List Expr} {Fs : EA} (hb : bnB X.env.scope f.nm x = true) (he : es ≠ []) (hs : ∀ e ∈ es, notStar e = true) (ha : PA X es (tA X.K X.mg W true Fs)) :
    PE X (.Call (.Name x p) es [] pos) (tX X.K X.mg W m fun r g => (Fs r g).bind fun ds g => lift (biG g f ds) g) := by
  obtain ⟨ex, hg⟩ := bn_of hb
  have hmg : X.mg x = none := by rw [ex]; exact h.bn _ (by cases f <;> decide)
  have cr := cr_bi (X := X) h.calm h.guards h.units f
  have fin : ∀ σ H Q, (tX X.K X.mg W m fun r g => (Fs r g).bind fun ds g => lift (biG g f ds) g) σ H Q → tCB (rBi X.K f) (tA X.K X.mg W true Fs) σ H Q := fun σ H Q ⟨y, r, g, S, G, p⟩ => by
    refine bindP IsPost.x S G p fun y1 ds g1 vs H1 S1 G1 pd e1 p1 => ?_
    obtain ⟨o, ho, p2⟩ := lift_post IsPost.x p1
    exact ⟨y1, g1, ds, o, G1, pd, ho, PostX.an p2⟩
  cases es with
  | nil => exact absurd rfl he
  | cons e es =>
    have hs1 := star_cons (env := X.env) (es := es) (hs e List.mem_cons_self)
    have hs2 := star_all (env := X.env) (pos := pos) fun x hx => hs x (List.mem_cons_of_mem e hx)
    subst ex
    refine peI (t := tCB (rBi X.K f) (tA X.K X.mg W true Fs)) ?_ fin
    cases f
    · exact pe_callB cr hg hmg (by decide +kernel) ha (by decide) (by decide) hs1 hs2
    · exact pe_callB cr hg hmg (by decide +kernel) ha (by decide) (by decide) hs1 hs2
    · exact pe_callB cr hg hmg (by decide +kernel) ha (by decide) (by decide) hs1 hs2
    · exact pe_callTy cr hg hmg (by decide +kernel) ha (by decide) (by decide) hs1 hs2
    · exact pe_callTy cr hg hmg (by decide +kernel) ha (by decide) (by decide) hs1 hs2
    · exact pe_callB cr hg hmg (by decide +kernel) ha (by decide) (by decide) hs1 hs2
    · exact pe_callTy cr hg hmg (by decide +kernel) ha (by decide) (by decide) hs1 hs2
    · exact pe_callTy cr hg hmg (by decide +kernel) ha (by decide) (by decide) hs1 hs2
    · exact pe_callB cr hg hmg (by decide +kernel) ha (by decide) (by decide) hs1 hs2
    · exact pe_callB cr hg hmg (by decide +kernel) ha (by decide) (by decide) hs1 hs2
    · exact pe_callB cr hg hmg (by decide +kernel) ha (by decide) (by decide) hs1 hs2
    · exact pe_callB cr hg hmg (by decide +kernel) ha (by decide) (by decide) hs1 hs2
theorem pe_tyB (h : HX gl cl T X W) {t : Ty} {y : Str} {p : Pos} (hb : bnB X.env.scope t.nm y = true) : PE X (.Name y p) (tC (.ty t.nm)) := by
  obtain ⟨ey, hg⟩ := bn_of hb
  have hmg : X.mg y = none := by rw [ey]; exact h.bn _ (by cases t <;> decide)
  subst ey
  cases t
  · exact pe_bltn hg hmg (u := .type "int") (by decide +kernel) rfl (by decide) (by decide)
  · exact pe_bltn hg hmg (u := .type "bool") (by decide +kernel) rfl (by decide) (by decide)
  · exact pe_bltn hg hmg (u := .type "tuple") (by decide +kernel) rfl (by decide) (by decide)
  · exact pe_bltn hg hmg (u := .type "list") (by decide +kernel) rfl (by decide) (by decide)
  · exact pe_bltn hg hmg (u := .type "str") (by decide +kernel) rfl (by decide) (by decide)
  · exact pe_bltn hg hmg (u := .type "dict") (by decide +kernel) rfl (by decide) (by decide)
theorem pe_isiB (h : HX gl cl T X W) {t : Ty} {x y : Str} {z : Expr} {p p2 : Pos} {F : EV} (hb : bnB X.env.scope "isinstance" x = true) (ht : bnB X.env.scope t.nm y = true) (hz : notStar z = true) (ha : PE X z (tX X.K X.mg W .t F)) :
    PE X (.Call (.Name x p) [z, .Name y p2] [] pos) (tX X.K X.mg W m fun r g => (F r g).bind fun d g => (lift (isTy d t) g).bind fun b g => .ok (.bl b) g) := by
  obtain ⟨ex, hg⟩ := bn_of hb
  have hmg : X.mg x = none := by rw [ex]; exact h.bn _ (by decide)
  subst ex
  have hpa : PA X [z, .Name y p2] (tCons (tX X.K X.mg W .t F) (tCons (tC (.ty t.nm)) tNil)) := pa_cons ha (pa_cons (pe_tyB h ht) pa_nil (star_cons rfl)) (star_cons hz)
  refine peI (pe_callB (call_isiB t) hg hmg (by decide +kernel) hpa (by decide) (by decide) (star_cons hz) (star_all fun x hx => by
    rcases List.mem_cons.mp hx with rfl | hx
    · rfl
    · cases hx)) fun σ H Q ⟨y, r, g, S, G, p⟩ => ?_
  refine bindP IsPost.x S G p fun y1 d g1 v H1 S1 G1 pd e1 p1 => ?_
  cases ho : isTy d t with
  | none => rw [ho] at p1; exact (IsPost.x.bad p1).elim
  | some b =>
    rw [ho] at p1
    exact ⟨y1, g1, d, b, v, G1, pd, rfl, ho, PostX.bl p1 G1⟩
/-! ### items, slices -/
theorem plainIx_of {b : Expr} (h : notSl b = true) : PlainIx b := by
  intro o i
  cases b <;> first | rfl | exact absurd (show false = true from h) Bool.false_ne_true
theorem pe_ixB {a b : Expr} {Fa Fb : EV} (hm : m ≠ .f) (hb' : notSl b = true) (ha : PE X a (tX X.K X.mg W .t Fa)) (hb : PE X b (tX X.K X.mg W .t Fb)) :
    PE X (.Subscript a b pos) (tX X.K X.mg W m fun r g => (Fa r g).bind fun x g => (Fb r g).bind fun y g => lift (ixD (deref g x) y) g) := by
  refine peI (pe_ix ix_B ha hb (plainIx_of hb')) fun σ H Q ⟨y, r, g, S, G, p⟩ => ?_
  refine bindP IsPost.x S G p fun y1 d g1 v H1 S1 G1 pd e1 p1 => ?_
  refine bindP IsPost.x S1 G1 p1 fun y2 e g2 w H2 S2 G2 pe e2 p2 => ?_
  obtain ⟨o, ho, p3⟩ := lift_post IsPost.x p2
  refine ⟨y2, g2, d, e, o, G2, pd.mono e2, pe, ho, ?_⟩
  cases m with
  | v => exact Ans.of (mg := X.mg) (W := W) (σ := σ) (t := false) p3
  | t => exact Ans.of (mg := X.mg) (W := W) (σ := σ) (t := true) p3
  | f => exact absurd rfl hm
abbrev tO (K : PySem.W.Frag) (mg : Str → Option Value) (W : WX) (F : List Slot → List O → Res (Option Int)) : TO := tG K mg W (fun _ _ (a b : Option Int) => a = b) F
theorem po_noneB : PO X none (tO X.K X.mg W fun _ g => .ok none g) := ⟨fun pins s σ H Q I ⟨y, r, g, S, G, p⟩ => po_none.run pins s σ H Q I (p y H none (Ext.refl _ _) G rfl)⟩
theorem po_someB {e : Expr} {F : EV} (h : PE X e (tX X.K X.mg W .t F)) : PO X (some e) (tO X.K X.mg W fun r g => (F r g).bind fun d g => lift (optI [d]) g) := by
  refine ⟨fun pins s σ H Q I ⟨y, r, g, S, G, p⟩ => (po_some h).run pins s σ H Q I ?_⟩
  refine bindP IsPost.gp S G p fun y1 d g1 v H1 S1 G1 pd e1 p1 => ?_
  cases d with
  | int i => exact ⟨i, rt_int (show RepT X.K y1 H1 (.int i) v from pd), p1 y1 H1 (some i) (Ext.refl _ _) G1 rfl⟩
  | _ => exact p1.elim
theorem pe_sliceB {a : Expr} {lo hi : Option Expr} {p2 : Pos} {Fa : EV} {Fl Fh : List Slot → List O → Res (Option Int)} (ha : PE X a (tX X.K X.mg W .t Fa)) (hl : PO X lo (tO X.K X.mg W Fl)) (hh : PO X hi (tO X.K X.mg W Fh)) :
    PE X (.Subscript a (.Slice lo hi none p2) pos) (tX X.K X.mg W m fun r g => (Fa r g).bind fun x g => (Fl r g).bind fun l g => (Fh r g).bind fun h g => lift (sliceD x l h) g) := by
  refine peI (pe_slice sl_B ha hl hh) fun σ H Q ⟨y, r, g, S, G, p⟩ => ?_
  refine bindP IsPost.x S G p fun y1 d g1 v H1 S1 G1 pd e1 p1 => ?_
  refine bindP IsPost.x S1 G1 p1 fun y2 l g2 l' H2 S2 G2 el e2 p2 => ?_
  refine bindP IsPost.x S2 G2 p2 fun y3 u g3 u' H3 S3 G3 eu e3 p3 => ?_
  subst el eu
  obtain ⟨o, ho, p4⟩ := lift_post IsPost.x p3
  exact ⟨y3, g3, d, o, G3, RepT.mono e3 (RepT.mono e2 pd), ho, PostX.an p4⟩
/-! ### stars -/
theorem pa_starB {e : Expr} {p : Pos} {es : List Expr} {F : EV} {Fs : EA} (h1 : PE X e (tX X.K X.mg W .t F)) (h2 : PA X es (tA X.K X.mg W false Fs)) :
    PA X (.Starred e p :: es) (tA X.K X.mg W false fun r g => (F r g).bind fun d g => (lift (items d) g).bind fun xs g => (Fs r g).bind fun ds g => .ok (xs ++ ds) g) := by
  refine paI (StX.pa_star h1 h2 rfl) fun σ H Q ⟨y, r, g, S, G, p⟩ => ?_
  refine bindP IsPost.gp S G p fun y1 d g1 v H1 S1 G1 pd e1 p1 => ?_
  cases hd : items d with
  | none => rw [hd] at p1; exact (IsPost.gp.bad p1).elim
  | some xs =>
    rw [hd] at p1
    obtain ⟨a, vs, ea, rr, hq⟩ := seqAt (t := true) hd pd
    refine ⟨a, vs, ea, ?_, ?_⟩
    · rcases hq with hq | hq
      · exact .inr (hq _ _ RchX.refl)
      · exact .inl (hq _ _ RchX.refl)
    · refine bindP (P := RepsX X.K false) IsPost.gp S1 G1 p1 fun y2 ds g2 ws H2 S2 G2 pds e2 p2 => ?_
      refine p2 y2 H2 (vs ++ ws) (Ext.refl _ _) G2 ?_
      have all : ∀ {ds : List D} {vs : List V}, Reps X.K y2 H2 ds vs → RepsX X.K false y2 H2 ds vs := by
        intro ds
        induction ds with
        | nil => intro vs h; simpa only [Reps, RepsX] using h
        | cons d ds ih =>
          intro vs h
          simp only [Reps] at h
          obtain ⟨v, ws, e1, h1, h2⟩ := h
          exact ⟨v, ws, e1, h1, ih h2⟩
      exact all ((Reps.mono e2 _ _ rr).append (RepsX.f pds))
end
end Bk
end
section
set_option Elab.async false
set_option linter.all false
set_option maxRecDepth 100000
set_option maxHeartbeats 4000000
namespace Bk
open PySem PySem.Spec PyProof.Rows L2 RZ

/-! ## slots set, forgotten -/
section
variable {K : PySem.W.Frag} {y : Gh} {H : Hp} {r r' : List Slot} {σ σ' : L2.St} {g : List O}
theorem SR.monoD {y' : Gh} {H' : Hp} (e : Ext y H y' H') (hd : ∀ a, y.W a → a ∉ y.al) (h : SR K y H r σ) : SR K y' H' r σ :=
  ⟨h.len, fun i s q => by
    obtain ⟨o, e1, h1⟩ := h.at_ i s q
    exact ⟨o, e1, h1.mono e hd⟩, h.dist⟩
theorem SR.off0 {p : Addr} (hD : H p = none) (S1 : SR K y H r σ) : SR K (y.off p) H r σ := by
  refine ⟨S1.len, fun i s q => ?_, S1.dist⟩
  obtain ⟨o, q1, q2⟩ := S1.at_ i s q
  refine ⟨o, q1, ?_⟩
  cases s with
  | no => trivial
  | fz d => obtain ⟨v, q3, q4⟩ := q2; exact ⟨v, q3, Rep.off0 hD _ _ q4⟩
  | own ds => obtain ⟨b, vs, q3, q4, q5, q6⟩ := q2; exact ⟨b, vs, q3, .inl q4, q5, Reps.off0 hD _ _ q6⟩
  | ownK ks ds => obtain ⟨b, vs, q3, q4, q5, q6, q7⟩ := q2; exact ⟨b, vs, q3, .inl q4, q5, q6, Reps.off0 hD _ _ q7⟩
theorem SR.set (S : SR K y H r σ) {d : D} {v : V} (h : Rep K y H d v) (i : Nat) : SR K y H (r.set i (.fz d)) (σ.set i (some v)) := by
  refine ⟨by rw [List.length_set, List.length_set, S.len], fun j s q => ?_, fun a b s t p hab ha hb hs ht h1 h2 => ?_⟩
  · rw [List.getElem?_set] at q ⊢
    by_cases hij : i = j
    · rw [if_pos hij] at q ⊢
      subst hij
      by_cases hl : i < r.length
      · rw [if_pos hl] at q
        rw [if_pos (by rw [← S.len]; exact hl)]
        cases q
        exact ⟨_, rfl, v, rfl, h⟩
      · rw [if_neg hl] at q; cases q
    · rw [if_neg hij] at q ⊢
      exact S.at_ j s q
  · rw [List.getElem?_set] at ha hb h1 h2
    have na : i ≠ a := fun e => by
      subst e
      rw [if_pos rfl] at ha
      split at ha
      · cases ha; cases hs
      · cases ha
    have nb : i ≠ b := fun e => by
      subst e
      rw [if_pos rfl] at hb
      split at hb
      · cases hb; cases ht
      · cases hb
    rw [if_neg na] at ha h1
    rw [if_neg nb] at hb h2
    exact S.dist a b s t p hab ha hb hs ht h1 h2
theorem SR.no (S : SR K y H r σ) (i : Nat) (o : Option V) : SR K y H (r.set i .no) (σ.set i o) := by
  refine ⟨by rw [List.length_set, List.length_set, S.len], fun j s q => ?_, fun a b s t p hab ha hb hs ht h1 h2 => ?_⟩
  · rw [List.getElem?_set] at q ⊢
    by_cases hij : i = j
    · rw [if_pos hij] at q ⊢
      subst hij
      by_cases hl : i < r.length
      · rw [if_pos hl] at q
        rw [if_pos (by rw [← S.len]; exact hl)]
        cases q
        exact ⟨_, rfl, trivial⟩
      · rw [if_neg hl] at q; cases q
    · rw [if_neg hij] at q ⊢
      exact S.at_ j s q
  · rw [List.getElem?_set] at ha hb h1 h2
    have na : i ≠ a := fun e => by
      subst e
      rw [if_pos rfl] at ha
      split at ha
      · cases ha; cases hs
      · cases ha
    have nb : i ≠ b := fun e => by
      subst e
      rw [if_pos rfl] at hb
      split at hb
      · cases hb; cases ht
      · cases hb
    rw [if_neg na] at ha h1
    rw [if_neg nb] at hb h2
    exact S.dist a b s t p hab ha hb hs ht h1 h2
theorem SR.wipe (S : SR K y H r σ) : ∀ vs : List Nat, SR K y H (wipeR r vs) (wipe σ vs)
  | [] => S
  | v :: vs => by
    unfold wipeR L2.wipe
    exact (SR.wipe S vs).no v none
end
theorem wipe_get {σ : L2.St} : ∀ {vs : List Nat} {j : Nat}, (wipe σ vs)[j]? = if j ∈ vs then σ[j]?.map (fun _ => none) else σ[j]?
  | [], j => by simp [wipe]
  | v :: vs, j => by
    unfold L2.wipe
    rw [List.getElem?_set]
    by_cases h : v = j
    · subst h
      rw [if_pos rfl, if_pos List.mem_cons_self, wipe_length]
      by_cases hl : v < σ.length
      · rw [if_pos hl, List.getElem?_eq_getElem hl]; rfl
      · rw [if_neg hl, List.getElem?_eq_none (by omega)]; rfl
    · rw [if_neg h, wipe_get (vs := vs)]
      by_cases hm : j ∈ vs
      · rw [if_pos hm, if_pos (List.mem_cons_of_mem _ hm)]
      · rw [if_neg hm, if_neg (by simp only [List.mem_cons, not_or]; exact ⟨fun e => h e.symm, hm⟩)]
theorem wipe_set {σ : L2.St} {vs : List Nat} {i : Nat} {o : Option V} (h : i ∈ vs) : wipe (σ.set i o) vs = wipe σ vs := by
  apply List.ext_getElem?
  intro j
  rw [wipe_get, wipe_get, List.getElem?_set]
  by_cases hj : j ∈ vs
  · rw [if_pos hj, if_pos hj]
    by_cases e : i = j
    · subst e
      rw [if_pos rfl]
      by_cases hl : i < σ.length
      · rw [if_pos hl, List.getElem?_eq_getElem hl]; rfl
      · rw [if_neg hl, List.getElem?_eq_none (by omega)]
    · rw [if_neg e]
  · rw [if_neg hj, if_neg hj, if_neg fun e : i = j => hj (e ▸ h)]
theorem wipe_wipe {σ : L2.St} {vs : List Nat} : wipe (wipe σ vs) vs = wipe σ vs := by
  apply List.ext_getElem?
  intro j
  rw [wipe_get, wipe_get]
  by_cases hj : j ∈ vs
  · rw [if_pos hj, if_pos hj]
    cases σ[j]? <;> rfl
  · rw [if_neg hj, if_neg hj]

/-! ## targets -/
def gNs : List Nat → TGs
  | [] => gNil
  | i :: is => gCons (gName i) (gNs is)
def tgG (K : PySem.W.Frag) : Tg → TG
  | .nm i => gName i
  | .tp is => gTup K is.length (gNs is)
section
variable {K : PySem.W.Frag} {y : Gh} {H : Hp} {g : List O}
theorem gNs_run {Q : L2.St → Hp → Prop} (ws : List Nat) : ∀ {is : List Nat} {ds : List D} {vs : List V} {r : List Slot} {σ : L2.St}, (∀ i ∈ is, i ∈ ws) → SR K y H r σ → Reps K y H ds vs → is.length = ds.length →
    (∀ σ', SR K y H ((is.zip ds).foldl (fun r p => r.set p.1 (.fz p.2)) r) σ' → wipe σ' ws = wipe σ ws → σ'.length = σ.length → (∀ j, j ∉ is → σ'[j]? = σ[j]?) → Q σ' H) → gNs is vs σ H Q
  | [], [], _, r, σ, hw, S, h, hl, k => by
    simp only [Reps] at h
    exact ⟨h, k σ S rfl rfl fun _ _ => rfl⟩
  | i :: is, d :: ds, _, r, σ, hw, S, h, hl, k => by
    simp only [Reps] at h
    obtain ⟨v, ws', rfl, h1, h2⟩ := h
    refine ⟨v, ws', rfl, ?_⟩
    refine gNs_run ws (is := is) (ds := ds) (fun j hj => hw j (List.mem_cons_of_mem _ hj)) (S.set h1 i) h2 (by simpa using hl) fun σ' S' hw' hlen hne => ?_
    refine k σ' S' (hw'.trans (wipe_set (hw i List.mem_cons_self))) (by rw [hlen, List.length_set]) fun j hj => ?_
    simp only [List.mem_cons, not_or] at hj
    rw [hne j hj.2, List.getElem?_set_ne fun e => hj.1 e.symm]
theorem tg_run {tg : Tg} {d : D} {v : V} {r r' : List Slot} {σ : L2.St} {Q : L2.St → Hp → Prop} (S : SR K y H r σ) (h : Rep K y H d v) (e : setTg r tg d = some r') (k : ∀ σ', SR K y H r' σ' → wipe σ' tg.slots = wipe σ tg.slots → Q σ' H) : tgG K tg v σ H Q := by
  cases tg with
  | nm i =>
    cases e
    exact k _ (S.set h i) (wipe_set List.mem_cons_self)
  | tp is =>
    cases d with
    | tup ds =>
      simp only [setTg] at e
      split at e
      · rename_i hl
        cases e
        simp only [Rep] at h
        obtain ⟨a, vs, ev, h1, h2⟩ := h
        refine ⟨a, vs, ev, h1.sq, by rw [← h2.length, hl], ?_⟩
        exact gNs_run is (fun i hi => hi) S h2 hl fun σ' S' hw _ _ => k σ' S' hw
      · cases e
    | _ => simp [setTg] at e
end
section
variable {X : Cx}
theorem aE_names {N : List Str} {sc : Scope} {env : Env} : ∀ {is : List Nat} {xs : List Expr}, mNs N sc is xs = true → (assignEach xs env).length = is.length ∧ (assignEach xs env).findIdx? (·.1) = none
  | [], [], _ => ⟨rfl, rfl⟩
  | i :: is, .Name x p :: xs, h => by
    simp only [mNs, Bool.and_eq_true] at h
    obtain ⟨h1, h2⟩ := aE_names (env := env) h.2
    refine ⟨?_, ?_⟩
    · show (assignEach xs env).length + 1 = _
      rw [h1]; rfl
    · show List.findIdx? (·.1) ((false, assign (.Name x p) env) :: assignEach xs env) = none
      rw [List.findIdx?_cons]
      simp [h2]
theorem pgs_of {N : List Str} {sc : Scope} (hN : X.N = N) (hnd : X.N.Nodup) (hl : ∀ x, locB sc x = true → L2.Loc X.env.scope x ∧ (X.fn x = true ∨ X.env.scope.names.lookup x = some .local)) : ∀ {is : List Nat} {xs : List Expr}, mNs N sc is xs = true → PGs X xs (gNs is)
  | [], [], _ => pgs_nil
  | i :: is, .Name x p :: xs, h => by
    simp only [mNs, Bool.and_eq_true, decide_eq_true_eq] at h
    obtain ⟨a, b⟩ := hl x h.1.2
    exact pgs_cons (pg_name hnd (by rw [hN]; exact h.1.1) a b) (pgs_of hN hnd hl h.2) rfl
theorem pg_of {N : List Str} {sc : Scope} (hc : X.calm = true) (hN : X.N = N) (hnd : X.N.Nodup) (hl : ∀ x, locB sc x = true → L2.Loc X.env.scope x ∧ (X.fn x = true ∨ X.env.scope.names.lookup x = some .local)) {tg : Tg} {x : Expr} (h : mTg N sc tg x = true) : PG X x (tgG X.K tg) := by
  cases tg with
  | nm i =>
    cases x <;> first | (exact absurd (show false = true from h) Bool.false_ne_true) | skip
    rename_i x p
    simp only [mTg, Bool.and_eq_true, decide_eq_true_eq] at h
    obtain ⟨a, b⟩ := hl x h.2
    exact pg_name hnd (by rw [hN]; exact h.1) a b
  | tp is =>
    cases x <;> first | (exact absurd (show false = true from h) Bool.false_ne_true) | skip
    rename_i xs k p
    simp only [mTg] at h
    obtain ⟨a, b⟩ := aE_names (env := X.env) h
    exact pg_tup hc (pgs_of hN hnd hl h) a b
/-- the target of a block -/
theorem loc_blk {scope sc : Scope} {x : Str} (h : locB scope x = true) : L2.Loc (relS scope sc) x ∧ ((scope.names.lookup x == some .cell) = true ∨ (relS scope sc).names.lookup x = some .local) := by
  rcases loc_of h with h | h
  · exact ⟨.inl (lookup_relS_keep (by decide) h), .inr (lookup_relS_keep (by decide) h)⟩
  · exact ⟨.inr (lookup_relS_keep (by decide) h), .inl (by rw [h]; rfl)⟩
end

/-! ## comprehensions -/
abbrev W0 : WX := fun _ _ _ _ => False
theorem noX_bind {α β : Type} (r : Res α) (f : α → List O → Res β) : noX (r.bind f) = (noX r).bind fun a g => noX (f a g) := by cases r <;> rfl
theorem noX_lift {α : Type} (o : Option α) (g : List O) : noX (lift o g) = lift o g := by cases o <;> rfl
theorem bindN {K : PySem.W.Frag} {mg : Str → Option Value} {y : Gh} {H : Hp} {σ : L2.St} {g : List O} {α β γ : Type} {P : Gh → Hp → α → β → Prop} {T : Res γ → Prop} (hT : ¬ T .bad) {F : List Slot → List O → Res α} {G : α → List O → Res γ} {R : β → Hp → Prop} {r : List Slot}
    (S : SR K y H r σ) (G0 : Good K y H g) (h : T ((noX (F r g)).bind G))
    (k : ∀ y1 a g1 v H1, SR K y1 H1 r σ → Good K y1 H1 g1 → P y1 H1 a v → Ext y H y1 H1 → T (G a g1) → R v H1) : tG K mg W0 P F σ H R := by
  refine ⟨y, r, g, S, G0, ?_⟩
  cases e : F r g with
  | ok a g' =>
    rw [e] at h
    exact fun y' H' v e' G' q => k y' a g' v H' (S.mono e' G0) G' q e' h
  | exc x g' => rw [e] at h; exact (hT h).elim
  | bad => rw [e] at h; exact (hT h).elim
section
variable {X : Cx} {W : WX} {gl : Nat → Option D} {cl : Nat → List D → List O → Res D} {T : MT} {m : Mode} {pos : Pos}
/-- one turn -/
def bdC (tg : Tg) (FB : EB) (FE : EV) (r : List Slot) (acc : List D) (d : D) (g : List O) : Res (List D) :=
  (lift (setTg (wipeR r tg.slots) tg d) g).bind fun r' g => (FB r' g).bind fun b g => if b then (FE r' g).bind fun e g => if acc.length < LIM then .ok (acc ++ [e]) g else .bad else .ok acc g
theorem own_slots {N : List Str} {tg : Tg} : (ownB N tg).map (·.2) = tg.slots := by
  unfold ownB
  rw [List.map_map]
  exact List.map_id _
theorem comp_imp {N : List Str} {tg : Tg} {FI : EA} {FB : EB} {FE : EV} {σ : L2.St} {H : Hp} {Q : VK}
    (q : tX X.K X.mg W m (fun r g => (FI r g).bind fun xs g => (noX (loopC (bdC tg FB FE r) xs [] g)).bind fun ys g => .ok (.lst ys) g) σ H Q) :
    tLc (tI X.K X.mg W true FI) (tgG X.K tg) (tT X.K X.mg W0 FB) (tX X.K X.mg W0 .v FE) ((ownB N tg).map (·.2)) σ H Q := by
  obtain ⟨y, r, g, S, G, p⟩ := q
  rw [own_slots]
  refine bindP (F := FI) IsPost.x S G p fun y1 xs g1 J H1 S1 G1 wof e1 p1 => ?_
  intro D hD
  obtain ⟨GG, YY, wk, hG, hY⟩ := wof (y1.off D) (.inr ⟨D, hD, rfl⟩)
  have hdisj : ∀ a, (y1.off D).W a → a ∉ (y1.off D).al := fun a w z => by
    rcases w with w | w
    · exact (G1.disj a z).2 w
    · obtain ⟨u, q⟩ := G1.zok a (.inr (.inr z))
      exact ne_of_none q hD w
  have S1' : SR X.K (y1.off D) H1 r σ := by
    refine ⟨S1.len, fun i s q => ?_, S1.dist⟩
    obtain ⟨o, q1, q2⟩ := S1.at_ i s q
    refine ⟨o, q1, ?_⟩
    cases s with
    | no => trivial
    | fz d => obtain ⟨v, q3, q4⟩ := q2; exact ⟨v, q3, Rep.off0 hD _ _ q4⟩
    | own ds => obtain ⟨b, vs, q3, q4, q5, q6⟩ := q2; exact ⟨b, vs, q3, .inl q4, q5, Reps.off0 hD _ _ q6⟩
    | ownK ks ds => obtain ⟨b, vs, q3, q4, q5, q6, q7⟩ := q2; exact ⟨b, vs, q3, .inl q4, q5, q6, Reps.off0 hD _ _ q7⟩
  have nbad : ¬ PostX X.K X.mg W m y1 σ H1 Q .bad := fun z => IsPost.x.bad z
  refine lc_it wk (fun i H2 => ∃ y2 g2 acc vs, Ext (y1.off D) H1 y2 H2 ∧ Good X.K y2 H2 g2 ∧ H2 D = some (.lst vs) ∧ Reps X.K y2 H2 acc vs ∧
    PostX X.K X.mg W m y1 σ H1 Q ((noX (loopC (bdC tg FB FE r) (xs.drop i) acc g2)).bind fun ys g => .ok (.lst ys) g)) ?_ ?_ ?_ ?_
  · exact ⟨y1.off D, g1, [], [], ext_new hD, G1.off hD, upd_same, .nil, by rw [List.drop_zero]; exact p1⟩
  · rintro i H2 hi ⟨y2, g2, acc, vs, e2, G2, q1, q2, p2⟩
    exact hG y2 H2 (show Ext (y1.off D) H1 y2 H2 from e2)
  · rintro i v H2 H3 hlt ⟨y2, g2, acc, vs, e2, G2, q1, q2, p2⟩ hy
    obtain ⟨e3, G3, d, hd, rd⟩ := hY y2 H2 g2 i v H3 (show Ext (y1.off D) H1 y2 H2 from e2) G2 hlt hy
    have hdrop : xs.drop i = d :: xs.drop (i + 1) := by
      rw [List.drop_eq_getElem_cons hlt]
      rw [List.getElem?_eq_getElem hlt] at hd
      cases hd; rfl
    have nal : D ∉ y2.al := fun z => (G2.disj D z).2 (by rw [e2.eW]; exact .inr rfl)
    rw [hdrop] at p2
    have p2 := (by
      unfold loopC at p2
      rw [noX_bind, bdC, noX_bind, noX_lift, Res.assoc, Res.assoc] at p2
      exact p2)
    cases hst : setTg (wipeR r tg.slots) tg d with
    | none => rw [hst] at p2; exact (nbad p2).elim
    | some r' =>
      rw [hst] at p2
      simp only [lift_some, Res.bind_ok, noX_bind, Res.assoc] at p2
      have S3 : SR X.K y2 H3 (wipeR r tg.slots) (wipe σ tg.slots) := ((S1'.monoD (e2.trans e3) hdisj)).wipe _
      refine tg_run S3 rd hst fun σ' S' hw => ?_
      refine ⟨hw.trans wipe_wipe, ?_⟩
      have q1' : H3 D = some (.lst vs) := e3.keep _ _ q1 nal
      have q2' := Reps.mono e3 _ _ q2
      refine bindN (F := FB) (T := PostX X.K X.mg W m y1 σ H1 Q) nbad S' G3 p2 fun y4 b g4 b' H4 S4 G4 eb e4 p4 => ?_
      subst eb
      have nal4 : D ∉ y4.al := fun z => (G4.disj D z).2 (by rw [e4.eW, e2.eW]; exact .inr rfl)
      have q14 : H4 D = some (.lst vs) := e4.keep _ _ q1' nal
      have q24 := Reps.mono e4 _ _ q2'
      cases b with
      | false =>
        simp only [Bool.false_eq_true, if_false] at p4 ⊢
        exact ⟨y4, g4, acc, vs, e2.trans (e3.trans e4), G4, q14, q24, p4⟩
      | true =>
        simp only [if_true] at p4 ⊢
        rw [noX_bind, Res.assoc] at p4
        refine bindN (F := FE) (P := RepX X.K false) (T := PostX X.K X.mg W m y1 σ H1 Q) nbad S4 G4 p4 fun y5 e g5 u H5 S5 G5 ru e5 p5 => ?_
        have ru : Rep X.K y5 H5 e u := ru
        have q15 : H5 D = some (.lst vs) := e5.keep _ _ q14 nal4
        have q25 := Reps.mono e5 _ _ q24
        split at p5
        · rename_i hlen
          have wD : y5.W D := by rw [e5.eW, e4.eW, e2.eW]; exact .inr rfl
          obtain ⟨G6, ev⟩ := G5.upd (o := .lst (vs ++ [u])) wD
          refine ⟨vs, q15, by rw [← q25.length]; exact lim_lt (Nat.le_of_lt hlen), y5, g5, acc ++ [e], vs ++ [u], ?_, ?_, upd_same, ?_, p5⟩
          · have E := e2.trans (e3.trans (e4.trans e5))
            refine ⟨E.eA, E.eW, E.pre, fun a o q n => ?_, fun a q => E.dom a ?_⟩
            · rw [upd_ne (ne_of_none q hD)]
              exact E.keep a o q n
            · by_cases ea : a = D
              · subst ea; rw [upd_same] at q; cases q
              · rw [upd_ne ea] at q; exact q
          · exact G6
          · exact Reps.monoS ev _ _ (q25.append (.cons ru .nil))
        · exact (nbad p5).elim
  · rintro H2 ⟨y2, g2, acc, vs, e2, G2, q1, q2, p2⟩
    rw [List.drop_length] at p2
    have p2 : PostX X.K X.mg W m y1 σ H1 Q (.ok (.lst acc) g2) := p2
    have hW : ∀ a, y1.W a → y2.W a := fun a w => by rw [e2.eW]; exact .inl w
    have G3 := G2.back (W0 := y1.W) hW
    have e3 : Ext y1 H1 (y2.back y1.W) H2 := ⟨e2.eA, rfl, e2.pre, e2.keep, e2.dom⟩
    have nal : D ∉ y2.al := fun z => (G2.disj D z).2 (by rw [e2.eW]; exact .inr rfl)
    have hz : ∀ a, (y2.back y1.W).Z a → y2.Z a := fun a z => by
      rcases z with z | z | z
      · exact .inl z
      · exact .inr (.inl (hW a z))
      · exact .inr (.inr z)
    have R3 := (Reps.anti (K := X.K) (y := y2) (H := H2) hz ⟨[], by simp [Gh.back]⟩).2 _ _ q2
    have nz : ¬ (y2.back y1.W).Z D := fun z => by
      rcases z with z | z | z
      · have z : y2.A D := z
        rw [e2.eA] at z
        obtain ⟨u, q⟩ := G1.zok D (.inl z)
        rw [hD] at q; cases q
      · obtain ⟨u, q⟩ := G1.zok D (.inr (.inl z))
        rw [hD] at q; cases q
      · exact nal z
    have rep : Rep X.K (y2.back y1.W) H2 (.lst acc) (.ref D) := by
      simp only [Rep]
      exact ⟨D, vs, rfl, nz, q1, R3⟩
    cases m with
    | v => exact p2 _ H2 (.ref D) e3 G3 rep
    | t => exact p2 _ H2 (.ref D) e3 G3 rep.t
    | f =>
      have eo : (y2.back y1.W).off D = y2 := by
        have hw : y2.W = fun a => y1.W a ∨ a = D := e2.eW
        cases y2
        simp only [Gh.back, Gh.off] at hw ⊢
        rw [hw]
      exact p2 _ H2 D vs e3 (by rw [eo]; exact G2) hD nal q1 (by rw [eo]; exact q2)
theorem pg_blk (h : HX gl cl T X W) {tg : Tg} {tx : Expr} {scope : Scope} (htg : mTg T.N scope tg tx = true) (s : Shared) (H : Hp) (C : Addr) (cl : List (Str × Addr)) (fp : List Addr) : PG (X.blk s H scope (compEnvC scope cl C X.env) fp) tx (tgG X.K tg) :=
  pg_of (X := X.blk s H scope (compEnvC scope cl C X.env) fp) h.calm h.N h.nd (fun z hz => loc_blk (sc := X.env.scope) hz) htg
theorem pe_compB (h : HX gl cl T X W) {tg : Tg} {FI : EA} {FB : EB} {FE : EV} {x tx ix : Expr} {fx : List Expr} {scope : Scope}
    (hi : PI X tx ix (tI X.K X.mg W true FI)) (ok : BlkOk X.N X.env.scope scope (ownB T.N tg)) (htg : mTg T.N scope tg tx = true)
    (ht : ∀ (s : Shared) (H : Hp) (C : Addr) (cl : List (Str × Addr)) (fp : List Addr), PTs (X.blk s H scope (compEnvC scope cl C X.env) fp) fx (tT X.K X.mg W0 FB))
    (he : ∀ (s : Shared) (H : Hp) (C : Addr) (cl : List (Str × Addr)) (fp : List Addr), PE (X.blk s H scope (compEnvC scope cl C X.env) fp) x (tX X.K X.mg W0 .v FE)) (hs : ∀ z, foldedSetIterable ix X.env z = pure z) :
    PE X (.ListComp x [⟨tx, ix, fx, 0⟩] scope pos) (tX X.K X.mg W m fun r g => (FI r g).bind fun xs g => (noX (loopC (bdC tg FB FE r) xs [] g)).bind fun ys g => .ok (.lst ys) g) :=
  peI (pe_lc h.calm h.nd hi ok (pg_blk h htg) ht he hs) fun σ H Q q => comp_imp q
/-- name = [..] on one line -/
theorem ps_compB (h : HX gl cl T X W) {tg : Tg} {FI : EA} {FB : EB} {FE : EV} {x tx ix : Expr} {fx : List Expr} {scope : Scope} {i : Nat} {z : Str} {pz spos : Pos}
    (hi : PI X tx ix (tI X.K X.mg W true FI)) (ok : BlkOk X.N X.env.scope scope (ownB T.N tg)) (htg : mTg T.N scope tg tx = true)
    (ht : ∀ (s : Shared) (H : Hp) (C : Addr) (cl : List (Str × Addr)) (fp : List Addr), PTs (X.blk s H scope (compEnvC scope cl C X.env) fp) fx (tT X.K X.mg W0 FB))
    (he : ∀ (s : Shared) (H : Hp) (C : Addr) (cl : List (Str × Addr)) (fp : List Addr), PE (X.blk s H scope (compEnvC scope cl C X.env) fp) x (tX X.K X.mg W0 .v FE)) (hs : ∀ z, foldedSetIterable ix X.env z = pure z)
    (hz : X.N[i]? = some z) (hl : X.env.scope.names.lookup z = some .local) (hsw : swapsWith (.ListComp x [⟨tx, ix, fx, 0⟩] scope pos) (some (.Name z pz)) spos.line X.env = pure true) :
    PS X (.Assign [.Name z pz] (.ListComp x [⟨tx, ix, fx, 0⟩] scope pos) spos) (tAsg (tX X.K X.mg W m fun r g => (FI r g).bind fun xs g => (noX (loopC (bdC tg FB FE r) xs [] g)).bind fun ys g => .ok (.lst ys) g) (gName i)) :=
  ⟨fun pins s σ H D I q => (ps_setLc h.calm h.nd hz hl hsw hi ok (pg_blk h htg) ht he hs).run pins s σ H D I (comp_imp q)⟩
end
end Bk
end
section
set_option Elab.async false
set_option linter.all false
set_option maxRecDepth 100000
set_option maxHeartbeats 4000000
namespace Bk
open PySem PySem.Spec PyProof.Rows L2 RZ

section
variable (gl : Nat → Option D) (cl : Nat → List D → List O → Res D) (T : MT)
def ME (e : E) : Prop := ∀ X W, HX gl cl T X W → ∀ x, mE T e X.env.scope x = true → (∀ m : Mode, (m = .f → fresh e = true) → PE X x (tX X.K X.mg W m fun r g => ev gl cl m.b r e g)) ∧ PT X x (tT X.K X.mg W fun r g => (ev gl cl true r e g).bind asB)
def MEs (es : List E) : Prop := ∀ X W, HX gl cl T X W →
  (∀ xs, mEs T es X.env.scope xs = true → ∀ m : Mode, m ≠ .f → PA X xs (tA X.K X.mg W m.b fun r g => evs gl cl m.b r es g)) ∧
  (∀ xs c pos, es ≠ [] → mEs T es X.env.scope xs = true → (∀ m : Mode, m ≠ .f → PE X (.BoolOp (if c then .And else .Or) xs pos) (tX X.K X.mg W m fun r g => evB gl cl c r es g)) ∧ PW X (.BoolOp (if c then .And else .Or) xs pos) (tT X.K X.mg W fun r g => (evB gl cl c r es g).bind asB)) ∧
  (∀ xs, es.length ≤ 1 → mEs T es X.env.scope xs = true → PTs X xs (tT X.K X.mg W fun r g => evIf gl cl r es g)) ∧
  (∀ st xs, mS T es st X.env.scope xs = true → PA X xs (tA X.K X.mg W false fun r g => evS gl cl r es st g)) ∧
  (∀ o, mO T es X.env.scope o = true → PO X o (tO X.K X.mg W fun r g => (evs gl cl true r es g).bind fun l g => lift (optI l) g)) ∧
  (∀ e0, es = [e0] → ∀ x, mE T e0 X.env.scope x = true → ∀ m : Mode, m ≠ .f → PE X x (tX X.K X.mg W m fun r g => ev gl cl m.b r e0 g))
end
theorem no_f {e : E} {m : Mode} (h : m = .f → fresh e = true) (hf : fresh e = false) : m ≠ .f := fun q => by rw [hf] at h; cases h q
section
variable {gl : Nat → Option D} {cl : Nat → List D → List O → Res D} {T : MT}
theorem me_nil : MEs gl cl T [] := by
  intro X W h
  refine ⟨fun xs hx m hm => ?_, fun xs c pos hn => absurd rfl hn, fun xs _ hx => ?_, fun st xs hx => ?_, fun o ho => ?_, fun e0 q => nomatch q⟩
  · cases xs with
    | nil => exact pa_nilB
    | cons x xs => exact absurd (show false = true from hx) Bool.false_ne_true
  · cases xs with
    | nil => exact ⟨fun pins s σ H Q I ⟨y, r, g, S, G, p⟩ => pts_nil.run pins s σ H Q I (p y H true (Ext.refl _ _) G rfl)⟩
    | cons x xs => exact absurd (show false = true from hx) Bool.false_ne_true
  · cases st with
    | nil =>
      cases xs with
      | nil => exact pa_nilB
      | cons x xs => exact absurd (show false = true from hx) Bool.false_ne_true
    | cons b st => cases xs <;> exact absurd (show false = true from hx) Bool.false_ne_true
  · cases o with
    | none => exact po_noneB
    | some x => exact absurd (show false = true from ho) Bool.false_ne_true
theorem me_cons {e : E} {es : List E} (he : ME gl cl T e) (hes : MEs gl cl T es) : MEs gl cl T (e :: es) := by
  intro X W h
  obtain ⟨h1, h2, h3, h4, h5, h6⟩ := hes X W h
  refine ⟨fun xs hx m hm => ?_, fun xs c pos hn hx => ?_, fun xs hl hx => ?_, fun st xs hx => ?_, fun o ho => ?_, fun e0 q x hx m hm => by cases q; exact (he X W h x hx).1 m fun q => absurd q hm⟩
  · cases xs with
    | nil => exact absurd (show false = true from hx) Bool.false_ne_true
    | cons x xs =>
      simp only [mEs, Bool.and_eq_true] at hx
      exact pa_consB hm hx.1.1 ((he X W h x hx.1.2).1 m fun q => absurd q hm) (h1 xs hx.2 m hm)
  · cases xs with
    | nil => exact absurd (show false = true from hx) Bool.false_ne_true
    | cons x xs =>
      simp only [mEs, Bool.and_eq_true] at hx
      obtain ⟨a1, a2⟩ := he X W h x hx.1.2
      cases es with
      | nil =>
        cases xs with
        | cons _ _ => exact absurd (show false = true from hx.2) Bool.false_ne_true
        | nil => exact ⟨fun m hm => pe_oneB (a1 .t fun q => nomatch q), pw_oneB a2⟩
      | cons e2 es =>
        cases xs with
        | nil => exact absurd (show false = true from hx.2) Bool.false_ne_true
        | cons z zs =>
          obtain ⟨b1, b2⟩ := h2 (z :: zs) c pos (by simp) hx.2
          exact ⟨fun m hm => pe_boolB (a1 .t fun q => nomatch q) (b1 m hm), pw_boolB a2 b2⟩
  · cases es with
    | cons e2 es => simp at hl
    | nil =>
      cases xs with
      | nil => exact absurd (show false = true from hx) Bool.false_ne_true
      | cons x xs =>
        simp only [mEs, Bool.and_eq_true] at hx
        cases xs with
        | cons _ _ => exact absurd (show false = true from hx.2) Bool.false_ne_true
        | nil =>
          have ft : (fun r g => evIf gl cl r [e] g) = fun r g => (ev gl cl true r e g).bind asB := by
            funext r g
            simp only [evIf]
            cases (ev gl cl true r e g).bind asB with
            | ok b g => cases b <;> rfl
            | exc x g => rfl
            | bad => rfl
          rw [ft]
          exact pts_one (he X W h x hx.1.2).2
  · cases st with
    | nil => cases xs <;> exact absurd (show false = true from hx) Bool.false_ne_true
    | cons b st =>
      cases xs with
      | nil => cases b <;> exact absurd (show false = true from hx) Bool.false_ne_true
      | cons x xs =>
        cases b with
        | true =>
          cases x <;> first | exact absurd (show false = true from hx) Bool.false_ne_true | skip
          rename_i x p
          simp only [mS, Bool.and_eq_true] at hx
          exact pa_starB ((he X W h x hx.1).1 .t fun q => nomatch q) (h4 st xs hx.2)
        | false =>
          simp only [mS, Bool.and_eq_true] at hx
          exact pa_consB (m := .v) (by decide) hx.1.1 ((he X W h x hx.1.2).1 .v fun q => nomatch q) (h4 st xs hx.2)
  · cases o with
    | none => cases es <;> exact absurd (show false = true from ho) Bool.false_ne_true
    | some x =>
      cases es with
      | cons _ _ => exact absurd (show false = true from ho) Bool.false_ne_true
      | nil =>
        have ho : mE T e X.env.scope x = true := ho
        have ft : (fun r g => (evs gl cl true r [e] g).bind fun l g => lift (optI l) g) = fun r g => (ev gl cl true r e g).bind fun d g => lift (optI [d]) g := by
          funext r g
          simp only [evs, Res.assoc, Res.bind_ok]
        rw [ft]
        exact po_someB ((he X W h x ho).1 .t fun q => nomatch q)
/-- a value form whose test is by value -/
theorem me_of {e : E} {X : Cx} {W : WX} {x : Expr} (hp : plainT x = true) (h : ∀ m : Mode, (m = .f → fresh e = true) → PE X x (tX X.K X.mg W m fun r g => ev gl cl m.b r e g)) :
    (∀ m : Mode, (m = .f → fresh e = true) → PE X x (tX X.K X.mg W m fun r g => ev gl cl m.b r e g)) ∧ PT X x (tT X.K X.mg W fun r g => (ev gl cl true r e g).bind asB) :=
  ⟨h, pt_of (h .t fun q => nomatch q) hp⟩
theorem me_var (i : Nat) : ME gl cl T (.var i) := by
  intro X W h x hx
  cases x <;> first | exact absurd (show false = true from hx) Bool.false_ne_true | skip
  exact me_of rfl fun m hm => pe_varB h.N hx (no_f hm rfl)
theorem me_own (i : Nat) : ME gl cl T (.own i) := by
  intro X W h x hx
  cases x <;> first | exact absurd (show false = true from hx) Bool.false_ne_true | skip
  exact me_of rfl fun m hm => pe_ownB h.N hx (no_f hm rfl)
theorem me_glob (i : Nat) : ME gl cl T (.glob i) := by
  intro X W h x hx
  cases x <;> first | exact absurd (show false = true from hx) Bool.false_ne_true | skip
  simp only [mE, Bool.and_eq_true, decide_eq_true_eq] at hx
  exact me_of rfl fun m hm => pe_globB h hx.1.1 hx.1.2 hx.2 (no_f hm rfl)
theorem me_int (k : Int) : ME gl cl T (.int k) := by
  intro X W h x hx
  cases x <;> first | exact absurd (show false = true from hx) Bool.false_ne_true | skip
  rename_i c _ _
  cases c <;> first | exact absurd (show false = true from hx) Bool.false_ne_true | skip
  rename_i j
  have e : k = j := by simpa [mE] using hx
  subst e
  exact me_of rfl fun m hm => pe_constB pe_int (fun y H => by simp only [Rep]) (no_f hm rfl)
theorem me_bl (k : Bool) : ME gl cl T (.bl k) := by
  intro X W h x hx
  cases x <;> first | exact absurd (show false = true from hx) Bool.false_ne_true | skip
  rename_i c _ _
  cases c <;> first | exact absurd (show false = true from hx) Bool.false_ne_true | skip
  rename_i j
  have e : k = j := by simpa [mE] using hx
  subst e
  exact me_of rfl fun m hm => pe_constB pe_bl (fun y H => by simp only [Rep]) (no_f hm rfl)
theorem me_non : ME gl cl T .non := by
  intro X W h x hx
  cases x <;> first | exact absurd (show false = true from hx) Bool.false_ne_true | skip
  rename_i c _ _
  cases c <;> first | exact absurd (show false = true from hx) Bool.false_ne_true | skip
  exact me_of rfl fun m hm => pe_constB pe_non (fun y H => by simp only [Rep]) (no_f hm rfl)
theorem me_str (k : String) : ME gl cl T (.str k) := by
  intro X W h x hx
  cases x <;> first | exact absurd (show false = true from hx) Bool.false_ne_true | skip
  rename_i c _ _
  cases c <;> first | exact absurd (show false = true from hx) Bool.false_ne_true | skip
  rename_i j
  have e : j = Str.ofString k := by simpa [mE] using hx
  subst e
  exact me_of rfl fun m hm => pe_constB pe_str (fun y H => by simp only [Rep]) (no_f hm rfl)
theorem me_tup {es : List E} (hes : MEs gl cl T es) : ME gl cl T (.tup es) := by
  intro X W h x hx
  cases x <;> first | exact absurd (show false = true from hx) Bool.false_ne_true | skip
  exact me_of rfl fun m hm => pe_tupB ((hes X W h).1 _ hx .v (by decide))
theorem me_lst {es : List E} (hes : MEs gl cl T es) : ME gl cl T (.lst es) := by
  intro X W h x hx
  cases x <;> first | exact absurd (show false = true from hx) Bool.false_ne_true | skip
  exact me_of rfl fun m hm => pe_lstB ((hes X W h).1 _ hx .v (by decide))
theorem me_seqS {t : Bool} {st : List Bool} {es : List E} (hes : MEs gl cl T es) : ME gl cl T (.seqS t st es) := by
  intro X W h x hx
  cases t with
  | true =>
    cases x <;> first | exact absurd (show false = true from hx) Bool.false_ne_true | skip
    exact me_of rfl fun m hm => pe_tupB ((hes X W h).2.2.2.1 st _ hx)
  | false =>
    cases x <;> first | exact absurd (show false = true from hx) Bool.false_ne_true | skip
    exact me_of rfl fun m hm => pe_lstB ((hes X W h).2.2.2.1 st _ hx)
theorem me_bin {op : Bop} {a b : E} (ha : ME gl cl T a) (hb : ME gl cl T b) : ME gl cl T (.bin op a b) := by
  intro X W h x hx
  cases x <;> first | exact absurd (show false = true from hx) Bool.false_ne_true | skip
  simp only [mE, Bool.and_eq_true, decide_eq_true_eq] at hx
  obtain ⟨⟨e, h1⟩, h2⟩ := hx
  subst e
  exact me_of rfl fun m hm => pe_binB h.units ((ha X W h _ h1).1 .t fun q => nomatch q) ((hb X W h _ h2).1 .t fun q => nomatch q)
theorem me_neg {a : E} (ha : ME gl cl T a) : ME gl cl T (.neg a) := by
  intro X W h x hx
  cases x <;> first | exact absurd (show false = true from hx) Bool.false_ne_true | skip
  rename_i op x p
  cases op <;> first | exact absurd (show false = true from hx) Bool.false_ne_true | skip
  exact me_of rfl fun m hm => pe_negB ((ha X W h _ hx).1 .t fun q => nomatch q)
theorem me_not {a : E} (ha : ME gl cl T a) : ME gl cl T (.not a) := by
  intro X W h x hx
  cases x <;> first | exact absurd (show false = true from hx) Bool.false_ne_true | skip
  rename_i op x p
  cases op <;> first | exact absurd (show false = true from hx) Bool.false_ne_true | skip
  exact ⟨fun m hm => pe_notB ((ha X W h _ hx).1 .t fun q => nomatch q), pt_notB (ha X W h _ hx).2⟩
theorem me_cmp {op : Cop} {a b : E} (ha : ME gl cl T a) (hb : ME gl cl T b) : ME gl cl T (.cmp op a b) := by
  intro X W h x hx
  cases x <;> first | exact absurd (show false = true from hx) Bool.false_ne_true | skip
  rename_i l ops cs p
  cases ops with
  | nil => exact absurd (show false = true from hx) Bool.false_ne_true
  | cons o ops =>
    cases ops with
    | cons _ _ => exact absurd (show false = true from hx) Bool.false_ne_true
    | nil =>
      cases cs with
      | nil => exact absurd (show false = true from hx) Bool.false_ne_true
      | cons c cs =>
        cases cs with
        | cons _ _ => exact absurd (show false = true from hx) Bool.false_ne_true
        | nil =>
          simp only [mE, plainOps, Bool.and_eq_true, decide_eq_true_eq, Bool.not_eq_true'] at hx
          obtain ⟨⟨⟨e, h0⟩, h1⟩, h2⟩ := hx
          subst e
          exact ⟨fun m hm => pe_cmpB h.units ((ha X W h _ h1).1 .t fun q => nomatch q) ((hb X W h _ h2).1 .t fun q => nomatch q) h0,
            pt_cmpB h.units ((ha X W h _ h1).1 .t fun q => nomatch q) ((hb X W h _ h2).1 .t fun q => nomatch q) h0⟩
theorem me_chain {op op2 : Cop} {a b c : E} (ha : ME gl cl T a) (hb : ME gl cl T b) (hc : ME gl cl T c) : ME gl cl T (.chain op op2 a b c) := by
  intro X W h x hx
  cases x <;> first | exact absurd (show false = true from hx) Bool.false_ne_true | skip
  rename_i l ops cs p
  match ops, cs, hx with
  | [o, o2], [z, u], hx =>
    simp only [mE, plainOps, Bool.and_eq_true, decide_eq_true_eq, Bool.not_eq_true'] at hx
    obtain ⟨⟨⟨⟨⟨e, e2⟩, h0⟩, h1⟩, h2⟩, h3⟩ := hx
    subst e e2
    exact ⟨fun m hm => pe_chainB h.units ((ha X W h _ h1).1 .t fun q => nomatch q) ((hb X W h _ h2).1 .t fun q => nomatch q) ((hc X W h _ h3).1 .t fun q => nomatch q) h0,
      pt_chainB h.units ((ha X W h _ h1).1 .t fun q => nomatch q) ((hb X W h _ h2).1 .t fun q => nomatch q) ((hc X W h _ h3).1 .t fun q => nomatch q) h0⟩
theorem me_band {es : List E} (hes : MEs gl cl T es) : ME gl cl T (.band es) := by
  intro X W h x hx
  cases x <;> first | exact absurd (show false = true from hx) Bool.false_ne_true | skip
  rename_i op xs p
  cases op with
  | Or => exact absurd (show false = true from hx) Bool.false_ne_true
  | And =>
    simp only [mE, Bool.and_eq_true, Bool.not_eq_true', List.isEmpty_eq_false_iff] at hx
    obtain ⟨a, b⟩ := (hes X W h).2.1 xs true p hx.1 hx.2
    exact ⟨fun m hm => a m (no_f hm rfl), b.pt⟩
theorem me_bor {es : List E} (hes : MEs gl cl T es) : ME gl cl T (.bor es) := by
  intro X W h x hx
  cases x <;> first | exact absurd (show false = true from hx) Bool.false_ne_true | skip
  rename_i op xs p
  cases op with
  | And => exact absurd (show false = true from hx) Bool.false_ne_true
  | Or =>
    simp only [mE, Bool.and_eq_true, Bool.not_eq_true', List.isEmpty_eq_false_iff] at hx
    obtain ⟨a, b⟩ := (hes X W h).2.1 xs false p hx.1 hx.2
    exact ⟨fun m hm => a m (no_f hm rfl), b.pt⟩
theorem me_ife {c a b : E} (hc : ME gl cl T c) (ha : ME gl cl T a) (hb : ME gl cl T b) : ME gl cl T (.ife c a b) := by
  intro X W h x hx
  cases x <;> first | exact absurd (show false = true from hx) Bool.false_ne_true | skip
  simp only [mE, Bool.and_eq_true] at hx
  exact ⟨fun m hm => pe_ifB (hc X W h _ hx.1.1).2 ((ha X W h _ hx.1.2).1 m fun q => absurd q (no_f hm rfl)) ((hb X W h _ hx.2).1 m fun q => absurd q (no_f hm rfl)),
    pt_ifB (hc X W h _ hx.1.1).2 (ha X W h _ hx.1.2).2 (hb X W h _ hx.2).2⟩
theorem me_call {f : Nat} {es : List E} (hes : MEs gl cl T es) : ME gl cl T (.call f es) := by
  intro X W h x hx
  cases x <;> first | exact absurd (show false = true from hx) Bool.false_ne_true | skip
  rename_i fx xs ks p
  cases fx <;> first | exact absurd (show false = true from hx) Bool.false_ne_true | skip
  cases ks with
  | cons _ _ => exact absurd (show false = true from hx) Bool.false_ne_true
  | nil =>
    simp only [mE, Bool.and_eq_true, decide_eq_true_eq] at hx
    refine me_of rfl fun m hm => pe_callB1 h hx.1.1.1 hx.1.1.2 hx.1.2 (mEs_star hx.2) (fun e => ?_) ((hes X W h).1 _ hx.2 .v (by decide)) (no_f hm rfl)
    subst e
    cases es with
    | nil => rfl
    | cons e es => exact absurd (show false = true from hx.2) Bool.false_ne_true
theorem me_bi {f : Bi} {es : List E} (hes : MEs gl cl T es) : ME gl cl T (.bi f es) := by
  intro X W h x hx
  cases x <;> first | exact absurd (show false = true from hx) Bool.false_ne_true | skip
  rename_i fx xs ks p
  cases fx <;> first | exact absurd (show false = true from hx) Bool.false_ne_true | skip
  cases ks with
  | cons _ _ => exact absurd (show false = true from hx) Bool.false_ne_true
  | nil =>
    simp only [mE, Bool.and_eq_true, Bool.not_eq_true', List.isEmpty_eq_false_iff] at hx
    refine me_of rfl fun m hm => pe_biB h hx.1.1 (fun e => ?_) (mEs_star hx.2) ((hes X W h).1 _ hx.2 .t (by decide))
    subst e
    cases es with
    | nil => exact hx.1.2 rfl
    | cons e es => exact absurd (show false = true from hx.2) Bool.false_ne_true
theorem me_isi {e : E} {t : Ty} (he : ME gl cl T e) : ME gl cl T (.isi e t) := by
  intro X W h x hx
  cases x <;> first | exact absurd (show false = true from hx) Bool.false_ne_true | skip
  rename_i fx xs ks p
  cases fx <;> first | exact absurd (show false = true from hx) Bool.false_ne_true | skip
  match xs, ks, hx with
  | [z, .Name y p2], [], hx =>
    simp only [mE, Bool.and_eq_true] at hx
    exact me_of rfl fun m hm => pe_isiB h hx.1.1.1 hx.1.1.2 hx.1.2 ((he X W h _ hx.2).1 .t fun q => nomatch q)
theorem me_ix {a b : E} (ha : ME gl cl T a) (hb : ME gl cl T b) : ME gl cl T (.ix a b) := by
  intro X W h x hx
  cases x <;> first | exact absurd (show false = true from hx) Bool.false_ne_true | skip
  simp only [mE, Bool.and_eq_true] at hx
  exact me_of rfl fun m hm => pe_ixB (no_f hm rfl) hx.1.1 ((ha X W h _ hx.1.2).1 .t fun q => nomatch q) ((hb X W h _ hx.2).1 .t fun q => nomatch q)
theorem me_slice {a : E} {lo hi : List E} (ha : ME gl cl T a) (hl : MEs gl cl T lo) (hh : MEs gl cl T hi) : ME gl cl T (.slice a lo hi) := by
  intro X W h x hx
  cases x <;> first | exact absurd (show false = true from hx) Bool.false_ne_true | skip
  rename_i x s p
  cases s <;> first | exact absurd (show false = true from hx) Bool.false_ne_true | skip
  rename_i l u st p2
  cases st with
  | some _ => exact absurd (show false = true from hx) Bool.false_ne_true
  | none =>
    simp only [mE, Bool.and_eq_true] at hx
    exact me_of rfl fun m hm => pe_sliceB ((ha X W h _ hx.1.1).1 .t fun q => nomatch q) ((hl X W h).2.2.2.2.1 _ hx.1.2) ((hh X W h).2.2.2.2.1 _ hx.2)
theorem fsi_of {e : Expr} {env : Env} (h : notSet e = true) : ∀ z, foldedSetIterable e env z = pure z := by
  intro z
  cases e <;> first | rfl | exact absurd (show false = true from h) Bool.false_ne_true
/-- the iterables -/
theorem pi_of {t : Bool} {m : Mode} (hm : m ≠ .f) (hmb : m.b = t) {X : Cx} {W : WX} (h : HX gl cl T X W) {ik : IK} {tg : Tg} {its : List E} {tx ix : Expr} {xs : List Expr} {N : List Str} {scope : Scope} (hi : itX X.env.scope ik ix = some xs) (hx : mEs T its X.env.scope xs = true) (hk : ikOk ik tg = true) (htg : mTg N scope tg tx = true) (hes : MEs gl cl T its) :
    PI X tx ix (tI X.K X.mg W t fun r g => (evs gl cl t r its g).bind fun ds g => lift (iterD ik ds) g) ∧ ∀ z, foldedSetIterable ix X.env z = pure z := by
  have hpa : ∀ zs, mEs T its X.env.scope zs = true → PA X zs (tA X.K X.mg W t fun r g => evs gl cl t r its g) := fun zs hz => by
    have := (hes X W h).1 zs hz m hm
    rw [hmb] at this
    exact this
  have tupX : ikOk ik tg = true → ik = .enum ∨ ik = .zip → ∃ es k p, tx = .Tuple es k p := fun h1 h2 => by
    cases tg with
    | nm i => rcases h2 with rfl | rfl <;> exact absurd (show false = true from h1) Bool.false_ne_true
    | tp is =>
      cases tx <;> first | exact absurd (show false = true from htg) Bool.false_ne_true | skip
      exact ⟨_, _, _, rfl⟩
  cases ik with
  | seq =>
    by_cases hs : notSet ix = true
    · have e1 : [ix] = xs := by simpa [itX, hs] using hi
      subst e1
      refine ⟨?_, fsi_of hs⟩
      cases its with
      | nil => exact absurd (show false = true from hx) Bool.false_ne_true
      | cons e es =>
        cases es with
        | cons _ _ => exact absurd hx (by simp [mEs])
        | nil =>
          simp only [mEs, Bool.and_eq_true] at hx
          have q := (hes X W h).2.2.2.2.2 e rfl ix hx.1.2 m hm
          have q2 : PE X ix (tE X.K X.mg W t fun r g => ev gl cl t r e g) := by
            subst hmb
            cases m with
            | v => exact q
            | t => exact q
            | f => exact absurd rfl hm
          have ft : (fun r g => (evs gl cl t r [e] g).bind fun ds g => lift (iterD .seq ds) g) = fun r g => (ev gl cl t r e g).bind fun d g => lift (iterD .seq [d]) g := by
            funext r g
            simp only [evs, Res.assoc, Res.bind_ok]
          rw [ft]
          exact pi_seqB q2
    · simp [itX, hs] at hi
  | range =>
    obtain ⟨f, p, a, p2, rfl, hb, rfl⟩ := it1_inv hi
    obtain ⟨ef, hg⟩ := bn_of hb
    subst ef
    exact ⟨pi_rangeB hg (h.bn "range" (by decide)) (hpa _ hx) (star_cons (mEs_star hx a List.mem_cons_self)), fun z => rfl⟩
  | range2 =>
    obtain ⟨f, p, a, b, p2, rfl, hb, rfl⟩ := it2_inv hi
    obtain ⟨ef, hg⟩ := bn_of hb
    subst ef
    have hb2 := star_cons (env := X.env) (es := []) (mEs_star hx b (by simp))
    exact ⟨pi_range2B hg (h.bn "range" (by decide)) (hpa _ hx) (by rw [star_cons (mEs_star hx a List.mem_cons_self), hb2]; rfl) hb2, fun z => rfl⟩
  | enum =>
    obtain ⟨f, p, a, p2, rfl, hb, rfl⟩ := it1_inv hi
    obtain ⟨ef, hg⟩ := bn_of hb
    subst ef
    obtain ⟨es, k, p3, rfl⟩ := tupX hk (.inl rfl)
    exact ⟨pi_enumB hg (h.bn "enumerate" (by decide)) (hpa _ hx) (star_cons (mEs_star hx a List.mem_cons_self)), fun z => rfl⟩
  | zip =>
    obtain ⟨f, p, a, b, p2, rfl, hb, rfl⟩ := it2_inv hi
    obtain ⟨ef, hg⟩ := bn_of hb
    subst ef
    obtain ⟨es, k, p3, rfl⟩ := tupX hk (.inr rfl)
    have hst := mEs_star hx
    exact ⟨pi_zipB hg (h.bn "zip" (by decide)) (hpa _ hx) (star_cons (hst a List.mem_cons_self)) (star_all fun z hz => hst z (List.mem_cons_of_mem _ hz)), fun z => rfl⟩
theorem me_comp {elt : E} {tg : Tg} {ik : IK} {its ifs : List E} (he : ME gl cl T elt) (hits : MEs gl cl T its) (hifs : MEs gl cl T ifs) : ME gl cl T (.comp elt tg ik its ifs) := by
  intro X W h x hx
  cases x <;> first | exact absurd (show false = true from hx) Bool.false_ne_true | skip
  rename_i x gs scope p
  match gs, hx with
  | [⟨tx, ix, fx, n⟩], hx =>
    simp only [mE, Bool.and_eq_true, decide_eq_true_eq, beq_iff_eq] at hx
    obtain ⟨⟨⟨⟨⟨⟨⟨hn, h1⟩, h2⟩, h3⟩, h4⟩, h5⟩, h6⟩, h7⟩ := hx
    subst hn
    cases hi : itX X.env.scope ik ix with
    | none => rw [hi] at h1; cases h1
    | some xs =>
      rw [hi] at h1
      obtain ⟨q1, q2⟩ := pi_of (m := .t) (by decide) rfl h hi h1 h2 h3 hits
      have key := fun m => pe_compB (m := m) (pos := p) h (FB := fun r g => evIf gl cl r ifs g) (FE := fun r g => ev gl cl false r elt g) q1 (blkOk_by (by rw [h.N]; exact h4)) h3
        (fun s H C c fp => (hifs _ _ (h.blk s H scope (compEnvC scope c C X.env) fp)).2.2.1 fx h5 h6)
        (fun s H C c fp => (he _ _ (h.blk s H scope (compEnvC scope c C X.env) fp) x h7).1 .v fun q => nomatch q) q2
      refine me_of rfl fun m hm => ?_
      have ft : (fun r g => ev gl cl m.b r (.comp elt tg ik its ifs) g) = fun r g => ((evs gl cl true r its g).bind fun ds g => lift (iterD ik ds) g).bind fun xs g => (noX (loopC (bdC tg (fun r g => evIf gl cl r ifs g) (fun r g => ev gl cl false r elt g) r) xs [] g)).bind fun ys g => .ok (.lst ys) g := by
        funext r g
        rw [Res.assoc]
        simp only [ev]
        rfl
      rw [ft]
      exact key m
theorem me_mk {e : E} (he : ME gl cl T e) : ME gl cl T (.mk e) := by
  intro X W h x hx
  have hx' : fresh e = true ∧ plainT x = true ∧ mE T e X.env.scope x = true := by
    simp only [mE, Bool.and_eq_true] at hx
    exact ⟨hx.1.1, hx.1.2, hx.2⟩
  refine me_of hx'.2.1 fun m hm => peI ((he X W h x hx'.2.2).1 .f fun _ => hx'.1) fun σ H Q ⟨y, r, g, S, G, p⟩ => ⟨y, r, g, S, G, ?_⟩
  have p : PostX X.K X.mg W m y σ H Q ((ev gl cl false r e g).bind fun d g => match d with
    | .lst ds => .ok (.ref g.length) (g ++ [.lst ds])
    | _ => .bad) := p
  show PostF X.K X.mg W y σ H Q (ev gl cl false r e g)
  cases hr : ev gl cl false r e g with
  | bad => rw [hr] at p; exact (IsPost.x.bad p).elim
  | exc c g' => rw [hr] at p; exact IsPost.x.exc p
  | ok d g' =>
    rw [hr] at p
    cases d with
    | lst ds =>
      have p : PostX X.K X.mg W m y σ H Q (.ok (.ref g'.length) (g' ++ [.lst ds])) := p
      intro y' H' b vs e' G' hb nb hv rv
      have nA : ¬ y'.A b := fun z => by
        rw [e'.eA] at z
        obtain ⟨u, q⟩ := G.zok b (.inl z)
        rw [hb] at q; cases q
      have nW : ¬ y'.W b := fun z => by
        rw [e'.eW] at z
        obtain ⟨u, q⟩ := G.zok b (.inr (.inl z))
        rw [hb] at q; cases q
      have hz : ∀ a, ({ y' with al := y'.al ++ [b] } : Gh).Z a → (y'.off b).Z a := fun a z => by
        rcases z with z | z | z
        · exact .inl z
        · exact .inr (.inl (.inl z))
        · rcases List.mem_append.mp z with z | z
          · exact .inr (.inr z)
          · exact .inr (.inl (.inr (by simpa using z)))
      have an := Reps.anti (K := X.K) (y := y'.off b) (y' := { y' with al := y'.al ++ [b] }) (H := H') hz ⟨[b], rfl⟩
      have hl : y'.al.length = g'.length := G'.len
      have G2 : Good X.K { y' with al := y'.al ++ [b] } H' (g' ++ [.lst ds]) := by
        refine ⟨fun a z => G'.zok a (hz a z), fun a w => G'.aw a (.inl w), fun a ha => ?_, ?_, by simp [hl], fun n a o h1 h2 => ?_⟩
        · rcases List.mem_append.mp ha with ha | ha
          · exact ⟨(G'.disj a ha).1, fun w => (G'.disj a ha).2 (.inl w)⟩
          · have : a = b := by simpa using ha
            subst this
            exact ⟨nA, nW⟩
        · exact List.nodup_append.mpr ⟨G'.nd, by simp, fun a ha c hc e => by
            have : c = b := by simpa using hc
            subst this
            exact nb (e ▸ ha)⟩
        · have h1 : (y'.al ++ [b])[n]? = some a := h1
          by_cases hn : n < y'.al.length
          · rw [List.getElem?_append_left hn] at h1
            rw [List.getElem?_append_left (by omega)] at h2
            have h3 := G'.objs n a o h1 h2
            cases o with
            | lst os => obtain ⟨ws, k1, k2⟩ := h3; exact ⟨ws, k1, an.2 _ _ k2⟩
          · rw [List.getElem?_append_right (by omega)] at h1
            rw [List.getElem?_append_right (by omega)] at h2
            have e0 : n - y'.al.length = 0 := by
              by_cases q : n - y'.al.length = 0
              · exact q
              · rw [List.getElem?_eq_none (by simp; omega)] at h1; cases h1
            rw [e0] at h1
            rw [hl] at e0
            rw [e0] at h2
            cases h1; cases h2
            exact ⟨vs, hv, an.2 _ _ rv⟩
      have E : Ext y H { y' with al := y'.al ++ [b] } H' := by
        obtain ⟨t, et, nt⟩ := e'.pre
        refine ⟨e'.eA, e'.eW, ⟨t ++ [b], by show y'.al ++ [b] = _; rw [et, List.append_assoc], fun a ha => ?_⟩, e'.keep, e'.dom⟩
        rcases List.mem_append.mp ha with ha | ha
        · exact nt a ha
        · have : a = b := by simpa using ha
          subst this; exact hb
      have R : Rep X.K { y' with al := y'.al ++ [b] } H' (.ref g'.length) (.ref b) := by
        simp only [Rep]
        exact ⟨b, by show (y'.al ++ [b])[g'.length]? = some b; rw [← hl, List.getElem?_append_right (Nat.le_refl _)]; simp, rfl⟩
      exact PostX.flat (PostX.stepG E p) G2 R (fun _ q => nomatch q) fun _ _ q => nomatch q
    | _ => exact (IsPost.x.bad p).elim
theorem me_bad {e : E} (h : ∀ sc x, mE T e sc x = false) : ME gl cl T e := fun X W _ x hx => by rw [h] at hx; cases hx
theorem me_dct0 : ME gl cl T .dct0 := by
  intro X W h x hx
  cases x <;> first | exact absurd (show false = true from hx) Bool.false_ne_true | skip
  rename_i ks vs p
  match ks, vs, hx with
  | [], [], _ =>
    refine me_of rfl fun m hm => peI pe_dnewK fun σ H Q ⟨y, r, g, S, G, p⟩ => ?_
    have p : PostX X.K X.mg W m y σ H Q (.ok (.dct [] []) g) := p
    intro b hb
    exact PostX.an p y H (Ext.refl _ _) G [] b .nil rfl hb
theorem me_dct1 {k : String} {e : E} (he : ME gl cl T e) : ME gl cl T (.dct1 k e) := by
  intro X W h x hx
  cases x <;> first | exact absurd (show false = true from hx) Bool.false_ne_true | skip
  rename_i ks vs p
  match ks, vs, hx with
  | [some (.Constant (.str z) j p2)], [v], hx =>
    simp only [mE, Bool.and_eq_true, beq_iff_eq] at hx
    obtain ⟨ez, hv⟩ := hx
    subst ez
    have hx := (he X W h v hv).1 .v fun q => nomatch q
    refine me_of rfl fun m hm => peI (pe_disp (pps_cons pe_str hx pps_nil) rfl rfl (by simp) (by simp)) fun σ H Q ⟨y, r, g, S, G, p⟩ => ?_
    have p : PostX X.K X.mg W m y σ H Q ((ev gl cl false r e g).bind fun d g => .ok (.dct [.inr (Str.ofString k)] [d]) g) := p
    intro b hb
    show tX X.K X.mg W .v (fun r g => ev gl cl false r e g) σ (upd H b (.dK [])) _
    have hdisj : ∀ a, (y.off b).W a → a ∉ (y.off b).al := fun a w z => by
      rcases w with w | w
      · exact (G.disj a z).2 w
      · obtain ⟨u, q⟩ := G.zok a (.inr (.inr z))
        exact ne_of_none q hb w
    refine ⟨y.off b, r, g, (SR.off0 hb S).monoD (ext_new hb) hdisj, G.off hb, ?_⟩
    show PostG X.K X.mg W (RepX X.K false) _ _ _ _ (ev gl cl false r e g)
    -- back in the eyes of what stood before
    have bk : ∀ {y' : Gh} {H' : Hp} {g' : List O}, Ext (y.off b) (upd H b (.dK [])) y' H' → Good X.K y' H' g' → Ext y H (y'.back y.W) H' ∧ Good X.K (y'.back y.W) H' g' ∧ (∀ a, (y'.back y.W).Z a → y'.Z a) := by
      intro y' H' g' e' G'
      have hW : ∀ a, y.W a → y'.W a := fun a w => by rw [e'.eW]; exact .inl w
      refine ⟨⟨e'.eA, rfl, ?_, fun a o q n => e'.keep a o (by rw [upd_ne (ne_of_none q hb)]; exact q) n, fun a q => ?_⟩, G'.back hW, fun a z => ?_⟩
      · obtain ⟨t, e1, e2⟩ := e'.pre
        refine ⟨t, e1, fun a ha => ?_⟩
        have q := e2 a ha
        by_cases ea : a = b
        · subst ea; exact hb
        · rw [upd_ne ea] at q; exact q
      · have q := e'.dom a q
        by_cases ea : a = b
        · subst ea; exact hb
        · rw [upd_ne ea] at q; exact q
      · rcases z with z | z | z
        · exact .inl z
        · exact .inr (.inl (hW a z))
        · exact .inr (.inr z)
    cases hr : ev gl cl false r e g with
    | bad => rw [hr] at p; exact (IsPost.x.bad p).elim
    | exc c g' =>
      rw [hr] at p
      intro y' H' c od e' G' xr
      obtain ⟨a1, a2, a3⟩ := bk e' G'
      refine IsPost.x.exc p _ H' c od a1 a2 ?_
      obtain ⟨C, h1, h2, h3⟩ := xr
      refine ⟨C, h1, h2, ?_⟩
      rcases h3 with h3 | ⟨f, d, dd, v, q1, q2, q3, q4, q5⟩
      · exact .inl h3
      · exact .inr ⟨f, d, dd, v, q1, q2, q3, fun z => q4 (a3 _ z), (Reps.anti a3 ⟨[], by simp [Gh.back]⟩).1 _ _ q5⟩
    | ok d g' =>
      rw [hr] at p
      have p : PostX X.K X.mg W m y σ H Q (.ok (.dct [.inr (Str.ofString k)] [d]) g') := p
      intro y' H' u e' G' ru
      have ru : Rep X.K y' H' d u := ru
      have nal : b ∉ y'.al := fun z => (G'.disj b z).2 (by rw [e'.eW]; exact .inr rfl)
      have hbb : H' b = some (.dK []) := e'.keep _ _ upd_same fun z => (by
        obtain ⟨t, e1, _⟩ := e'.pre
        exact nal (by rw [e1]; exact List.mem_append_left _ z))
      refine ⟨hbb, [(.inr (Str.ofString k), u)], rfl, by simp, ?_⟩
      have wb : y'.W b := by rw [e'.eW]; exact .inr rfl
      obtain ⟨G2, ev⟩ := G'.upd (o := .dK [((.inr (Str.ofString k) : Key), u)]) wb
      have e2 : Ext (y.off b) (upd H b (.dK [])) y' H' := e'
      obtain ⟨a1, a2, a3⟩ := bk e' G'
      have a1' : Ext y H (y'.back y.W) (upd H' b (.dK [((.inr (Str.ofString k) : Key), u)])) := ⟨a1.eA, a1.eW, a1.pre, fun a o q n => by rw [upd_ne (ne_of_none q hb)]; exact a1.keep a o q n, fun a q => a1.dom a (by
        by_cases ea : a = b
        · subst ea; rw [upd_same] at q; cases q
        · rw [upd_ne ea] at q; exact q)⟩
      have hW : ∀ a, y.W a → y'.W a := fun a w => by rw [e'.eW]; exact .inl w
      have ru2 : Reps X.K y' (upd H' b (.dK [((.inr (Str.ofString k) : Key), u)])) [d] [u] := Reps.monoS ev _ _ (.cons ru .nil)
      have em : mergeK [] [((.inr (Str.ofString k) : Key), u)] = [((.inr (Str.ofString k) : Key), u)] := rfl
      rw [em]
      have rep : Rep X.K (y'.back y.W) (upd H' b (.dK [((.inr (Str.ofString k) : Key), u)])) (.dct [.inr (Str.ofString k)] [d]) (.ref b) := by
        simp only [Rep]
        refine ⟨b, [u], rfl, fun z => ?_, upd_same, rfl, (Reps.anti a3 ⟨[], by simp [Gh.back]⟩).2 _ _ ru2⟩
        rcases z with z | z | z
        · have z : y'.A b := z
          rw [e'.eA] at z
          obtain ⟨o, q⟩ := G.zok b (.inl z)
          rw [hb] at q; cases q
        · obtain ⟨o, q⟩ := G.zok b (.inr (.inl z))
          rw [hb] at q; cases q
        · exact nal z
      cases m with
      | v => exact p _ _ _ a1' (G2.back hW) rep
      | t => exact p _ _ _ a1' (G2.back hW) rep.t
      | f =>
        have eo : (y'.back y.W).off b = y' := by
          have hw : y'.W = fun a => y.W a ∨ a = b := e'.eW
          cases y'
          simp only [Gh.back, Gh.off] at hw ⊢
          rw [hw]
        exact p _ _ b [u] a1' (by rw [eo]; exact G2) hb nal upd_same rfl (by rw [eo]; exact ru2)
theorem me_sset {e : E} (he : ME gl cl T e) : ME gl cl T (.sset e) := me_bad fun _ _ => by simp only [mE]
theorem me_rev {e : E} (he : ME gl cl T e) : ME gl cl T (.rev e) := me_bad fun _ _ => by simp only [mE]
theorem sound_e (e : E) : ME gl cl T e := by
  refine E.rec (motive_1 := ME gl cl T) (motive_2 := MEs gl cl T) ?_ ?_ ?_ ?_ ?_ ?_ ?_ ?_ ?_ ?_ ?_ ?_ ?_ ?_ ?_ ?_ ?_ ?_ ?_ ?_ ?_ ?_ ?_ ?_ ?_ ?_ ?_ ?_ ?_ ?_ ?_ e
  · exact me_var
  · exact me_own
  · exact me_glob
  · exact me_int
  · exact me_bl
  · exact me_non
  · exact me_str
  · exact fun es h => me_tup h
  · exact fun es h => me_lst h
  · exact fun t st es h => me_seqS h
  · exact me_dct0
  · exact fun k e h => me_dct1 h
  · exact fun op a b ha hb => me_bin ha hb
  · exact fun a ha => me_neg ha
  · exact fun a ha => me_not ha
  · exact fun op a b ha hb => me_cmp ha hb
  · exact fun o p a b c ha hb hc => me_chain ha hb hc
  · exact fun es h => me_band h
  · exact fun es h => me_bor h
  · exact fun c a b hc ha hb => me_ife hc ha hb
  · exact fun f es h => me_call h
  · exact fun f es h => me_bi h
  · exact fun e h => me_sset h
  · exact fun e t h => me_isi h
  · exact fun a b ha hb => me_ix ha hb
  · exact fun a lo hi ha hl hh => me_slice ha hl hh
  · exact fun a ha => me_rev ha
  · exact fun elt tg ik its ifs he h1 h2 => me_comp he h1 h2
  · exact fun e he => me_mk he
  · exact me_nil
  · exact fun e es he hes => me_cons he hes
theorem sound_es (es : List E) : MEs gl cl T es := by
  induction es with
  | nil => exact me_nil
  | cons e es ih => exact me_cons (sound_e e) ih
end
end Bk
end
section
set_option Elab.async false
set_option linter.all false
set_option maxRecDepth 100000
set_option maxHeartbeats 4000000
namespace Bk
open PySem PySem.Spec PyProof.Rows L2 RZ

/-! ## statements: the wishes -/
section
variable (K : PySem.W.Frag) (mg : Str → Option Value) (W : WX)
def PostS (y : Gh) (H : Hp) (D : Ends) : Res Out → Prop
  | .ok (.nx r') g' => ∀ y' H' σ', Evo y H y' H' → Good K y' H' g' → SR K y' H' r' σ' → D.nx σ' H'
  | .ok (.bk r') g' => ∀ y' H' σ', Evo y H y' H' → Good K y' H' g' → SR K y' H' r' σ' → D.bk σ' H'
  | .ok (.ct r') g' => ∀ y' H' σ', Evo y H y' H' → Good K y' H' g' → SR K y' H' r' σ' → D.ct σ' H'
  | .ok (.rt d) g' => ∀ y' H' v, Evo y H y' H' → Good K y' H' g' → Rep K y' H' d v → D.rt v H'
  | .exc x g' => ∀ y' H' c od σ', Evo y H y' H' → Good K y' H' g' → XRep K mg y' H' x c od → W c od σ' H'
  | .bad => False
def tS (F : List Slot → List O → Res Out) : TS := fun D σ H => ∃ y r g, SR K y H r σ ∧ Good K y H g ∧ PostS K mg W y H D (F r g)
end
section
variable {K : PySem.W.Frag} {mg : Str → Option Value} {W : WX} {y y' y1 : Gh} {H H' H1 : Hp} {σ : L2.St} {g : List O} {En : Ends} {r : List Slot}
theorem PostS.evo (e : Evo y H y1 H1) {R : Res Out} (h : PostS K mg W y H En R) : PostS K mg W y1 H1 En R := by
  cases R with
  | bad => exact h
  | exc x g' => exact fun y' H' c od σ' e' => h y' H' c od σ' (e.trans e')
  | ok o g' =>
    cases o with
    | nx r' => exact fun y' H' σ' e' => h y' H' σ' (e.trans e')
    | bk r' => exact fun y' H' σ' e' => h y' H' σ' (e.trans e')
    | ct r' => exact fun y' H' σ' e' => h y' H' σ' (e.trans e')
    | rt d => exact fun y' H' v e' => h y' H' v (e.trans e')
theorem IsPost.s : IsPost K mg W σ (fun y H R => PostS K mg W y H En R) := ⟨fun e h => h.evo e.evo, fun h y' H' c od e => h y' H' c od σ e.evo, fun h => h⟩
theorem psI {X : Cx} {st : Stmt} {t t' : TS} (h : PS X st t) (k : ∀ D σ H, t' D σ H → t D σ H) : PS X st t' := ⟨fun pins s σ H D I q => h.run pins s σ H D I (k D σ H q)⟩
theorem pssI {X : Cx} {st : List Stmt} {t t' : TS} (h : PSs X st t) (k : ∀ D σ H, t' D σ H → t D σ H) : PSs X st t' := ⟨fun pins s σ H D I q => h.run pins s σ H D I (k D σ H q)⟩
/-- an owned slot's object is changed -/
theorem SR.upd (S : SR K y H r σ) (G : Good K y H g) {i : Nat} {ds : List D} {b : Addr} {vs' : List V} {ds' : List Bk.D} (hi : r[i]? = some (.own ds)) (hs : σ[i]? = some (some (.ref b))) (w : y.W b) (rr : Reps K y H ds' vs') :
    SR K y (L2.upd H b (.lst vs')) (r.set i (.own ds')) σ := by
  obtain ⟨G', ev⟩ := G.upd (o := .lst vs') w
  have hl : i < r.length := (List.getElem?_eq_some_iff.mp hi).1
  refine ⟨by rw [List.length_set, S.len], fun j s q => ?_, fun a c s t p hac ha hc hs' ht h1 h2 => ?_⟩
  · rw [List.getElem?_set] at q
    by_cases hij : i = j
    · subst hij
      rw [if_pos rfl, if_pos hl] at q
      cases q
      exact ⟨_, hs, b, vs', rfl, w, upd_same, Reps.monoS ev _ _ rr⟩
    · rw [if_neg hij] at q
      obtain ⟨o, e1, h1⟩ := S.at_ j s q
      refine ⟨o, e1, ?_⟩
      cases s with
      | no => trivial
      | fz d => obtain ⟨v, q1, q2⟩ := h1; exact ⟨v, q1, Rep.monoS ev _ _ q2⟩
      | own es =>
        obtain ⟨c, ws, q1, q2, q3, q4⟩ := h1
        refine ⟨c, ws, q1, q2, ?_, Reps.monoS ev _ _ q4⟩
        rw [upd_ne fun e : c = b => S.dist i j _ _ b hij hi q rfl rfl hs (by rw [e1, q1, e])]
        exact q3
      | ownK ks es =>
        obtain ⟨c, ws, q1, q2, q3, q4, q5⟩ := h1
        refine ⟨c, ws, q1, q2, ?_, q4, Reps.monoS ev _ _ q5⟩
        rw [upd_ne fun e : c = b => S.dist i j _ _ b hij hi q rfl rfl hs (by rw [e1, q1, e])]
        exact q3
  · have get : ∀ (k : Nat) (u : Slot), (r.set i (.own ds'))[k]? = some u → u.owns = true → ∃ u' : Slot, r[k]? = some u' ∧ u'.owns = true := fun k u q ho => by
      rw [List.getElem?_set] at q
      by_cases hik : i = k
      · subst hik; exact ⟨_, hi, rfl⟩
      · rw [if_neg hik] at q; exact ⟨u, q, ho⟩
    obtain ⟨s', q1, q2⟩ := get a s ha hs'
    obtain ⟨t', q3, q4⟩ := get c t hc ht
    exact S.dist a c s' t' p hac q1 q3 q2 q4 h1 h2
/-- an owned list goes: it is a value from now on -/
def Gh.let (y : Gh) (b : Addr) : Gh := { y with W := fun a => y.W a ∧ a ≠ b }
theorem let_z {b : Addr} : ∀ a, (y.let b).Z a → y.Z a := fun a z => by
  rcases z with z | z | z
  · exact .inl z
  · exact .inr (.inl z.1)
  · exact .inr (.inr z)
theorem let_evo {b : Addr} : Evo y H (y.let b) H := ⟨rfl, ⟨[], by simp [Gh.let], fun _ h => by simp at h⟩, fun _ _ h _ _ => h, fun _ h => h, fun a w => .inl w.1⟩
theorem Good.let (G : Good K y H g) (b : Addr) : Good K (y.let b) H g := by
  refine ⟨fun a z => G.zok a (let_z a z), fun a w => G.aw a w.1, fun a ha => ⟨(G.disj a ha).1, fun w => (G.disj a ha).2 w.1⟩, G.nd, G.len, fun n a q h1 h2 => ?_⟩
  have h3 := G.objs n a q h1 h2
  cases q with
  | lst ds =>
    obtain ⟨vs, e1, e2⟩ := h3
    exact ⟨vs, e1, (Reps.anti let_z ⟨[], by simp [Gh.let]⟩).2 _ _ e2⟩
theorem let_no (G : Good K y H g) {b : Addr} (w : y.W b) : ¬ (y.let b).Z b := fun z => by
  rcases z with z | z | z
  · exact G.aw b w z
  · exact z.2 rfl
  · exact (G.disj b z).2 w
theorem SR.let (S : SR K y H r σ) (G : Good K y H g) {i : Nat} {s : Slot} {b : Addr} {d : Bk.D} (hi : r[i]? = some s) (ho : s.owns = true) (hs : σ[i]? = some (some (.ref b))) (rr : Rep K (y.let b) H d (.ref b)) :
    SR K (y.let b) H (r.set i (.fz d)) σ := by
  have hl : i < r.length := (List.getElem?_eq_some_iff.mp hi).1
  have an := Reps.anti (K := K) (y := y) (y' := y.let b) (H := H) let_z ⟨[], by simp [Gh.let]⟩
  refine ⟨by rw [List.length_set, S.len], fun j t q => ?_, fun a c s t p hac ha hc hs' ht h1 h2 => ?_⟩
  · rw [List.getElem?_set] at q
    by_cases hij : i = j
    · subst hij
      rw [if_pos rfl, if_pos hl] at q
      cases q
      exact ⟨_, hs, _, rfl, rr⟩
    · rw [if_neg hij] at q
      obtain ⟨o, e1, h1⟩ := S.at_ j t q
      refine ⟨o, e1, ?_⟩
      cases t with
      | no => trivial
      | fz d => obtain ⟨v, q1, q2⟩ := h1; exact ⟨v, q1, an.1 _ _ q2⟩
      | own es =>
        obtain ⟨c, ws, q1, q2, q3, q4⟩ := h1
        exact ⟨c, ws, q1, ⟨q2, fun e => S.dist i j _ _ b hij hi q ho rfl hs (by rw [e1, q1, e])⟩, q3, an.2 _ _ q4⟩
      | ownK ks es =>
        obtain ⟨c, ws, q1, q2, q3, q4, q5⟩ := h1
        exact ⟨c, ws, q1, ⟨q2, fun e => S.dist i j _ _ b hij hi q ho rfl hs (by rw [e1, q1, e])⟩, q3, q4, an.2 _ _ q5⟩
  · have nf : ∀ (k : Nat) (u : Slot), (r.set i (.fz d))[k]? = some u → u.owns = true → r[k]? = some u := fun k u q hu => by
      rw [List.getElem?_set] at q
      by_cases hik : i = k
      · subst hik
        rw [if_pos rfl, if_pos hl] at q
        cases q
        exact absurd (show false = true from hu) Bool.false_ne_true
      · rw [if_neg hik] at q; exact q
    exact S.dist a c s t p hac (nf a s ha hs') (nf c t hc ht) hs' ht h1 h2
end

/-! ## the match of statements -/
def swB (sc : Scope) (z : Str) (p : Pos) : Expr → Bool
  | .ListComp _ _ s pos => sc.names.lookup z == some .local && p.line == pos.line && !(s.names.any fun (n, k) => n == z && (k == .local || k == .cell))
  | _ => false
def isLc : Expr → Bool
  | .ListComp _ _ _ _ => true
  | _ => false
def isMk : E → Bool
  | .mk _ => true
  | _ => false
def isSt : Expr → Bool
  | .Starred _ _ => true
  | _ => false
def swNames (sc : Scope) (ts : List Expr) : List Str := ts.filterMap fun
  | .Name id pos => if sc.names.lookup id == some .local && pos.line == (ts.head?.map (·.pos.line)).getD 0 then some id else none
  | _ => none
def swOff (sc : Scope) (ts vs : List Expr) : Bool := (!(ts.length == 2 || ts.length == 3) || vs.length != ts.length) || (vs.any isSt) || ((swNames sc ts).length != ts.length || (swNames sc ts).eraseDups.length != (swNames sc ts).length) || vs.all (foldedForSure 8)
def swOn (sc : Scope) (ts vs : List Expr) : Bool := !swOff sc ts vs && !(vs.all (constantsAlone 8))
/-- the stores of a tuple are in order -/
def swN (sc : Scope) : Expr → Expr → Bool
  | .Tuple ts _ _, .Tuple vs _ _ => swOff sc ts vs
  | .List _ _, _ => false
  | _, _ => true
def lcN (sc : Scope) (N : List Str) : List Nat → List Expr → Bool
  | [], [] => true
  | i :: is, .Name x _ :: xs => decide (N[i]? = some x) && decide (sc.names.lookup x = some .local) && lcN sc N is xs
  | _, _ => false
def augOk : Bop → Bool
  | .add => true | .sub => true | .mul => true | .mod => true
  | _ => false
mutual
def mSt (T : MT) (sc : Scope) : S → Stmt → Bool
  | .asg (.nm i) e, .Assign [.Name z _] v _ => decide (T.N[i]? = some z) && locB sc z && (isLc v || notLc v) && !(isMk e && isLc v) && mE T e sc v
  | .asg (.tp is) e, .Assign [.Tuple ts k p] v _ => mNs T.N sc is ts && swN sc (.Tuple ts k p) v && (isLc v || notLc v) && mE T e sc v
  | .asgOwn i e, .Assign [.Name z _] v _ => decide (T.N[i]? = some z) && locB sc z && (isLc v || notLc v) && !(isMk e && isLc v) && fresh e && mE T e sc v
  | .par is es, .Assign [.Tuple ts _ _] (.Tuple vs _ _) _ => decide (is.Nodup) && lcN sc T.N is ts && swOn sc ts vs && mEs T es sc vs
  | .aug i op e, .AugAssign (.Name z _) o v _ => decide (T.N[i]? = some z) && locB sc z && augOk op && decide (op.op = o) && mE T e sc v
  | .setR a b e, .Assign [.Subscript x z _] v _ => notSl z && (isLc v || notLc v) && mE T a sc x && mE T b sc z && mE T e sc v
  | .app i e, .Expr (.Call (.Attribute (.Name z _) f ap) [v] [] cp) _ => rdB T sc i z && (f == Str.ofString "append") && (ap.endLine == cp.line) && notStar v && mE T e sc v
  | .iff c a b, .If x p q _ => mE T c sc x && mSts T sc a p && mSts T sc b q
  | .for_ tg ik its b, .For tx ix p [] _ => (match itX sc ik ix with
      | some xs => mEs T its sc xs
      | none => false) && ikOk ik tg && mTg T.N sc tg tx && mSts T sc b p
  | .while_ c b, .While x p [] _ => mE T c sc x && mSts T sc b p
  | .ret e, .Return (some v) _ => mE T e sc v
  | .retO i, .Return (some (.Name z _)) _ => rdB T sc i z
  | .pass, .Pass _ => true
  | .pass, .Expr (.Constant (.str _) _ _) _ => true
  | .brk, .Break _ => true
  | .cont, .Continue _ => true
  | _, _ => false
def mSts (T : MT) (sc : Scope) : List S → List Stmt → Bool
  | [], [] => true
  | s :: ss, xs => match s with
    | .frz _ => mSts T sc ss xs
    | s => match xs with
      | x :: xs => mSt T sc s x && mSts T sc ss xs
      | [] => false
  | _, _ => false
end
structure HS (gl : Nat → Option D) (cl : Nat → List D → List O → Res D) (T : MT) (X : Cx) (W : WX) : Prop extends HX gl cl T X W where
  fn : ∀ x, X.fn x = true
  kind : X.env.scope.kind = .function
  pass : PassesOwn (model X.prog X.w) X.A X.env X.xe

/-! ## swaps -/
section
variable {X : Cx}
theorem bk_fn {env : Env} (h : env.scope.kind = .function) : env.blockKind = .function := by unfold Env.blockKind; rw [h]; rfl
theorem sw_name {env : Env} (hk : env.scope.kind = .function) {v : Expr} {z : Str} {p : Pos} {l : Nat} (h : (isLc v || notLc v) = true) : swapsWith v (some (.Name z p)) l env = pure (swB env.scope z p v) := by
  cases v <;> first | rfl | exact absurd (show false = true from h) Bool.false_ne_true | skip
  rename_i elt gs s pos
  unfold swapsWith swB
  simp only [bk_fn hk, Env.kindOf, Expr.pos]
  rfl
theorem sw_other {env : Env} {v tg : Expr} {l : Nat} (h : (isLc v || notLc v) = true) (ht : ∀ z p, tg ≠ .Name z p) : swapsWith v (some tg) l env = pure false := by
  cases v <;> first | rfl | exact absurd (show false = true from h) Bool.false_ne_true | skip
  cases tg <;> first | rfl | exact absurd rfl (ht _ _)
theorem any_st {vs : List Expr} : (vs.any fun | .Starred .. => true | _ => false) = vs.any isSt := by
  congr
theorem sw_off {env : Env} (hk : env.scope.kind = .function) {ts vs : List Expr} {k k2 : Nat} {p p2 : Pos} (h : swOff env.scope ts vs = true) : swappedStores [.Tuple ts k p] (.Tuple vs k2 p2) env = pure none := by
  unfold swappedStores
  simp only [bk_fn hk]
  unfold swOff at h
  simp only [Bool.or_eq_true] at h
  split
  · rfl
  · rename_i n1
    split
    · rfl
    · rename_i n2
      split
      · rfl
      · rename_i n3
        split
        · rfl
        · rename_i n4
          exfalso
          simp only [Bool.or_eq_true, not_or] at n1 n3
          rcases h with (((h | h) | h) | (h | h)) | h
          · exact n1.1.1 h
          · exact n1.1.2 h
          · exact n2 h
          · exact n3.1 h
          · exact n3.2 h
          · exact n4 h
theorem sw_on {env : Env} (hk : env.scope.kind = .function) {ts vs : List Expr} {k k2 : Nat} {p p2 : Pos} (h : swOn env.scope ts vs = true) : swappedStores [.Tuple ts k p] (.Tuple vs k2 p2) env = pure (some (swNames env.scope ts)) := by
  unfold swOn swOff at h
  simp only [Bool.and_eq_true, Bool.not_eq_true', Bool.or_eq_false_iff] at h
  obtain ⟨⟨⟨⟨⟨a, b⟩, c⟩, d, e⟩, f⟩, i⟩ := h
  unfold swappedStores
  simp only [bk_fn hk]
  have h2 : ¬ (vs.any isSt) = true := by rw [c]; exact Bool.false_ne_true
  have h3 : ¬ (((swNames env.scope ts).length != ts.length) = true ∨ ((swNames env.scope ts).eraseDups.length != (swNames env.scope ts).length) = true) := by
    rw [d, e]
    exact fun z => z.elim Bool.false_ne_true Bool.false_ne_true
  have h1 : ¬ (((!(ts.length == 2 || ts.length == 3)) = true ∨ (vs.length != ts.length) = true) ∨ (ScopeKind.function != ScopeKind.function) = true) := by
    rw [a, b]
    exact fun z => z.elim (fun z => z.elim Bool.false_ne_true Bool.false_ne_true) fun z => absurd z (by decide)
  split
  · rename_i n
    simp only [Bool.or_eq_true] at n
    exact absurd n h1
  · split
    · rename_i n
      exact absurd n h2
    · split
      · rename_i n
        simp only [Bool.or_eq_true] at n
        exact absurd n h3
      · split
        · rename_i n
          rw [f] at n; exact absurd n Bool.false_ne_true
        · split
          · rename_i n
            rw [i] at n; exact absurd n Bool.false_ne_true
          · rfl
theorem lc_names {sc : Scope} {N : List Str} : ∀ {is : List Nat} {ts : List Expr}, lcN sc N is ts = true → ts.all (fun | .Name _ _ => true | _ => false) = true
  | [], [], _ => rfl
  | i :: is, .Name x _ :: xs, h => by
    simp only [lcN, Bool.and_eq_true] at h
    simp [lc_names h.2]
end
end Bk
end
section
set_option Elab.async false
set_option linter.all false
set_option maxRecDepth 100000
set_option maxHeartbeats 4000000
namespace Bk
open PySem PySem.Spec PyProof.Rows L2 RZ
section
variable {X : Cx} {W : WX} {gl : Nat → Option D} {cl : Nat → List D → List O → Res D} {T : MT} {m : Mode} {pos : Pos}
/-! ### assignments -/
theorem asg_imp {tg : Tg} {F : EV} {En : Ends} {σ : L2.St} {H : Hp} (q : tS X.K X.mg W (fun r g => (F r g).bind fun d g => (lift (setTg r tg d) g).bind fun r g => .ok (.nx r) g) En σ H) : tAsg (tX X.K X.mg W .v F) (tgG X.K tg) En σ H := by
  obtain ⟨y, r, g, S, G, p⟩ := q
  refine bindP (F := F) (IsPost.s (En := En)) S G p fun y1 d g1 v H1 S1 G1 pd e1 p1 => ?_
  cases hst : setTg r tg d with
  | none => rw [hst] at p1; exact p1.elim
  | some r' =>
    rw [hst] at p1
    exact tg_run S1 pd hst fun σ' S' _ => p1 y1 H1 σ' (Evo.refl _ _) G1 S'
/-- a fresh list becomes the frame's own -/
theorem own_imp {F : EV} {i : Nat} {En : Ends} {σ : L2.St} {H : Hp} (q : tS X.K X.mg W (fun r g => (F r g).bind fun d g => match d with
    | .lst ds => .ok (.nx (r.set i (.own ds))) g
    | .dct ks ds => .ok (.nx (r.set i (.ownK ks ds))) g
    | _ => .bad) En σ H) : tAsg (tX X.K X.mg W .f F) (gName i) En σ H := by
  obtain ⟨y, r, g, S, G, p⟩ := q
  refine ⟨y, r, g, S, G, ?_⟩
  unfold PostX
  dsimp only at p ⊢
  cases e : F r g with
  | bad => rw [e] at p; exact p
  | exc x g' => rw [e] at p; exact fun y' H' c od e' G' q => p y' H' c od σ e'.evo G' q
  | ok d g' =>
    rw [e] at p
    have key : ∀ {y' : Gh} {H' : Hp} {b : Addr} {u : HO} {s : Slot}, Ext y H y' H' → Good X.K (y'.off b) H' g' → H b = none → b ∉ y'.al → s.owns = true → SlotRep X.K (y'.off b) H' s (some (.ref b)) → SR X.K (y'.off b) H' (r.set i s) (σ.set i (some (.ref b))) ∧ Evo y H (y'.off b) H' := by
      intro y' H' b u s e' G' hb nb so sr
      have ev : Evo y H (y'.off b) H' := ⟨e'.eA, e'.pre, fun a o h n _ => e'.keep a o h n, e'.dom, fun a w => by
        rcases w with w | w
        · exact .inl (by rw [← e'.eW]; exact w)
        · subst w; exact .inr hb⟩
      have S1 := S.mono e' G
      refine ⟨⟨by rw [List.length_set, List.length_set, S.len], fun j t q => ?_, fun a c t1 t2 p hac ha hc ho1 ho2 h1 h2 => ?_⟩, ev⟩
      · rw [List.getElem?_set] at q ⊢
        by_cases hij : i = j
        · rw [if_pos hij] at q ⊢
          subst hij
          by_cases hl : i < r.length
          · rw [if_pos hl] at q
            rw [if_pos (by rw [← S.len]; exact hl)]
            cases q
            exact ⟨_, rfl, sr⟩
          · rw [if_neg hl] at q; cases q
        · rw [if_neg hij] at q ⊢
          obtain ⟨o, e1, h1⟩ := S.at_ j t q
          refine ⟨o, e1, ?_⟩
          have hd : ∀ a, y.W a → a ∉ y.al := fun a w m => (G.disj a m).2 w
          cases t with
          | no => trivial
          | fz d => obtain ⟨v, q1, q2⟩ := h1; exact ⟨v, q1, Rep.monoS ev _ _ q2⟩
          | own ds => obtain ⟨c, ws, q1, q2, q3, q4⟩ := h1; exact ⟨c, ws, q1, .inl (by rw [e'.eW]; exact q2), e'.keep _ _ q3 (hd c q2), Reps.monoS ev _ _ q4⟩
          | ownK ks ds => obtain ⟨c, ws, q1, q2, q3, q4, q5⟩ := h1; exact ⟨c, ws, q1, .inl (by rw [e'.eW]; exact q2), e'.keep _ _ q3 (hd c q2), q4, Reps.monoS ev _ _ q5⟩
      · have own_ne : ∀ (k : Nat) (t : Slot), i ≠ k → r[k]? = some t → t.owns = true → σ[k]? ≠ some (some (.ref b)) := fun k t hk q ho z => by
          obtain ⟨o, e1, h1⟩ := S.at_ k t q
          rw [z] at e1; cases e1
          cases t with
          | no => cases ho
          | fz d => cases ho
          | own ds => obtain ⟨c, ws, q1, q2, q3, q4⟩ := h1; cases q1; rw [hb] at q3; cases q3
          | ownK ks ds => obtain ⟨c, ws, q1, q2, q3, q4, q5⟩ := h1; cases q1; rw [hb] at q3; cases q3
        rw [List.getElem?_set] at ha hc h1 h2
        by_cases ia : i = a
        · subst ia
          rw [if_neg hac] at hc h2
          rw [if_pos rfl] at h1
          split at h1
          · cases h1
            exact own_ne c t2 hac hc ho2 h2
          · cases h1
        · rw [if_neg ia] at ha h1
          by_cases ic : i = c
          · subst ic
            rw [if_pos rfl] at h2
            split at h2
            · cases h2
              exact own_ne a t1 ia ha ho1 h1
            · cases h2
          · rw [if_neg ic] at hc h2
            exact S.dist a c t1 t2 p hac ha hc ho1 ho2 h1 h2
    cases d with
    | lst ds =>
      intro y' H' b vs e' G' hb nb hv rv
      obtain ⟨S2, ev⟩ := key (u := .lst vs) (s := .own ds) e' G' hb nb rfl ⟨b, vs, rfl, .inr rfl, hv, rv⟩
      exact p _ H' _ ev G' S2
    | dct ks ds =>
      intro y' H' b vs e' G' hb nb hv hl rv
      obtain ⟨S2, ev⟩ := key (u := .dK (ks.zip vs)) (s := .ownK ks ds) e' G' hb nb rfl ⟨b, vs, rfl, .inr rfl, hv, hl, rv⟩
      exact p _ H' _ ev G' S2
    | _ => exact p.elim
end
section
variable {X : Cx} {W : WX} {gl : Nat → Option D} {cl : Nat → List D → List O → Res D} {T : MT} {pos : Pos}
theorem loc_fn (h : HS gl cl T X W) {x : Str} (hl : locB X.env.scope x = true) : L2.Loc X.env.scope x ∧ (X.fn x = true ∨ X.env.scope.names.lookup x = some .local) := ⟨loc_of hl, .inl (h.fn x)⟩
/-- to a name, by any mode -/
theorem ps_name (h : HS gl cl T X W) {e : E} {v : Expr} {z : Str} {p : Pos} {i : Nat} (hi : T.N[i]? = some z) (hl : locB X.env.scope z = true) (hv : (isLc v || notLc v) = true) (hmk : (!(isMk e && isLc v)) = true) (he : mE T e X.env.scope v = true) (m : Mode) (hm : m = .f → fresh e = true) :
    PS X (.Assign [.Name z p] v pos) (tAsg (tX X.K X.mg W m fun r g => ev gl cl m.b r e g) (gName i)) := by
  have hz : X.N[i]? = some z := by rw [h.N]; exact hi
  obtain ⟨l1, l2⟩ := loc_fn h hl
  have hx := (sound_e e X W h.toHX v he).1 m hm
  cases hs : swB X.env.scope z p v with
  | false => exact ps_set h.nd hz l1 hx (by rw [sw_name h.kind hv, hs]) l2
  | true =>
    cases v <;> first | exact absurd (show false = true from hs) Bool.false_ne_true | skip
    rename_i x gs scope lp
    cases e <;> first | exact absurd (show false = true from he) Bool.false_ne_true | skip
    case comp elt tg ik its ifs =>
      match gs, he, hx with
      | [⟨tx, ix, fx, n⟩], he, _ =>
        simp only [mE, Bool.and_eq_true, decide_eq_true_eq, beq_iff_eq] at he
        obtain ⟨⟨⟨⟨⟨⟨⟨hn, h1⟩, h2⟩, h3⟩, h4⟩, h5⟩, h6⟩, h7⟩ := he
        subst hn
        cases hi' : itX X.env.scope ik ix with
        | none => rw [hi'] at h1; cases h1
        | some xs =>
          rw [hi'] at h1
          obtain ⟨q1, q2⟩ := pi_of (m := .t) (by decide) rfl h.toHX hi' h1 h2 h3 (sound_es its)
          have hloc : X.env.scope.names.lookup z = some .local := by
            unfold swB at hs
            simp only [Bool.and_eq_true, beq_iff_eq] at hs
            exact hs.1.1
          have key := ps_compB (m := m) (pos := lp) (spos := pos) (pz := p) h.toHX (FB := fun r g => evIf gl cl r ifs g) (FE := fun r g => ev gl cl false r elt g) q1 (blkOk_by (by rw [h.N]; exact h4)) h3
            (fun s H C c fp => (sound_es ifs _ _ (h.toHX.blk s H scope (compEnvC scope c C X.env) fp)).2.2.1 fx h5 h6)
            (fun s H C c fp => (sound_e elt _ _ (h.toHX.blk s H scope (compEnvC scope c C X.env) fp) x h7).1 .v fun q => nomatch q) q2 hz hloc (by rw [sw_name h.kind hv, hs])
          have ft : (fun r g => ev gl cl m.b r (.comp elt tg ik its ifs) g) = fun r g => ((evs gl cl true r its g).bind fun ds g => lift (iterD ik ds) g).bind fun xs g => (noX (loopC (bdC tg (fun r g => evIf gl cl r ifs g) (fun r g => ev gl cl false r elt g) r) xs [] g)).bind fun ys g => .ok (.lst ys) g := by
            funext r g
            rw [Res.assoc]
            simp only [ev]
            rfl
          rw [ft]
          exact key
    case seqS t st es => cases t <;> exact absurd (show false = true from he) Bool.false_ne_true
    case mk e => exact absurd (show false = true from hmk) Bool.false_ne_true
theorem op_ne {m : Mode} {e : E} : m = .v → (m = .f → fresh e = true) := fun h q => by rw [h] at q; cases q
theorem ps_asgNm (h : HS gl cl T X W) {e : E} {v : Expr} {z : Str} {p : Pos} {i : Nat} (hi : T.N[i]? = some z) (hl : locB X.env.scope z = true) (hv : (isLc v || notLc v) = true) (hmk : (!(isMk e && isLc v)) = true) (he : mE T e X.env.scope v = true) :
    PS X (.Assign [.Name z p] v pos) (tS X.K X.mg W fun r g => ex gl cl r (.asg (.nm i) e) g) :=
  psI (ps_name h hi hl hv hmk he .v (op_ne rfl)) fun En σ H q => asg_imp (tg := .nm i) (F := fun r g => ev gl cl false r e g) q
theorem ps_asgOwn (h : HS gl cl T X W) {e : E} {v : Expr} {z : Str} {p : Pos} {i : Nat} (hi : T.N[i]? = some z) (hl : locB X.env.scope z = true) (hv : (isLc v || notLc v) = true) (hmk : (!(isMk e && isLc v)) = true) (hf : fresh e = true) (he : mE T e X.env.scope v = true) :
    PS X (.Assign [.Name z p] v pos) (tS X.K X.mg W fun r g => ex gl cl r (.asgOwn i e) g) :=
  psI (ps_name h hi hl hv hmk he .f fun _ => hf) fun En σ H q => own_imp (F := fun r g => ev gl cl false r e g) q
theorem ps_asgTp (h : HS gl cl T X W) {e : E} {v : Expr} {ts : List Expr} {k : Nat} {p : Pos} {is : List Nat} (ht : mNs T.N X.env.scope is ts = true) (hw : swN X.env.scope (.Tuple ts k p) v = true) (hv : (isLc v || notLc v) = true) (he : mE T e X.env.scope v = true) :
    PS X (.Assign [.Tuple ts k p] v pos) (tS X.K X.mg W fun r g => ex gl cl r (.asg (.tp is) e) g) := by
  have hg : PG X (.Tuple ts k p) (tgG X.K (.tp is)) := pg_of h.calm h.N h.nd (fun x hx => loc_fn h hx) (show mTg T.N X.env.scope (.tp is) (.Tuple ts k p) = true from ht)
  have hx := (sound_e e X W h.toHX v he).1 .v (op_ne rfl)
  have hsw : swapsWithSole [.Tuple ts k p] v pos.line X.env = pure false := sw_other (env := X.env) (l := pos.line) (tg := .Tuple ts k p) hv fun _ _ q => nomatch q
  refine psI (ps_asg hx hg hsw ?_ rfl) fun En σ H q => asg_imp (tg := .tp is) (F := fun r g => ev gl cl false r e g) q
  cases v <;> first | rfl | skip
  exact sw_off h.kind hw
theorem ps_setRB (h : HS gl cl T X W) {a b e : E} {x z v : Expr} {p : Pos} (hz : notSl z = true) (hv : (isLc v || notLc v) = true) (ha : mE T a X.env.scope x = true) (hb : mE T b X.env.scope z = true) (he : mE T e X.env.scope v = true) :
    PS X (.Assign [.Subscript x z p] v pos) (tS X.K X.mg W fun r g => ex gl cl r (.setR a b e) g) := by
  have hx := (sound_e e X W h.toHX v he).1 .v (op_ne rfl)
  have h1 := (sound_e a X W h.toHX x ha).1 .t fun q => nomatch q
  have h2 := (sound_e b X W h.toHX z hb).1 .t fun q => nomatch q
  have hg : PG X (.Subscript x z p) (gSub (tX X.K X.mg W .t fun r g => ev gl cl true r a g) (tX X.K X.mg W .t fun r g => ev gl cl true r b g) rSetL) :=
    pg_sub h1 h2 set_list (by intro u; cases z <;> first | rfl | exact absurd (show false = true from hz) Bool.false_ne_true)
  have hsw : swapsWithSole [.Subscript x z p] v pos.line X.env = pure false := sw_other (env := X.env) (l := pos.line) (tg := .Subscript x z p) hv fun _ _ q => nomatch q
  refine psI (ps_asg hx hg hsw rfl rfl) fun En σ H q => ?_
  obtain ⟨y, r, g, S, G, p⟩ := q
  refine bindP (F := fun r g => ev gl cl false r e g) (IsPost.s (En := En)) S G p fun y1 d g1 u H1 S1 G1 pd e1 p1 => ?_
  refine bindP (F := fun r g => ev gl cl true r a g) (IsPost.s (En := En)) S1 G1 p1 fun y2 o g2 ov H2 S2 G2 po e2 p2 => ?_
  refine bindP (F := fun r g => ev gl cl true r b g) (IsPost.s (En := En)) S2 G2 p2 fun y3 kk g3 kv H3 S3 G3 pk e3 p3 => ?_
  cases o with
  | ref n =>
    cases kk with
    | int j =>
      dsimp only at p3
      cases hg3 : g3[n]? with
      | none => rw [hg3] at p3; exact p3.elim
      | some ob =>
        cases ob with
        | lst ds =>
          rw [hg3] at p3
          dsimp only at p3
          cases hst : setAt ds j d with
          | none => rw [hst] at p3; exact p3.elim
          | some ds' =>
            rw [hst] at p3
            have p3 : PostS X.K X.mg W y3 H3 En (.ok (.nx r) (g3.set n (.lst ds'))) := p3
            have po' : Rep X.K y3 H3 (.ref n) ov := Rep.mono e3 _ _ (show Rep X.K y2 H2 (.ref n) ov from po)
            simp only [Rep] at po'
            obtain ⟨c, hc, rfl⟩ := po'
            obtain ⟨vs, q1, q2⟩ := G3.objs n c _ hc hg3
            have hk : kv = .int j := rt_int (show RepT X.K y3 H3 (.int j) kv from pk)
            subst hk
            unfold setAt at hst
            cases hix : ixN ds.length j with
            | none => rw [hix] at hst; cases hst
            | some jj =>
              rw [hix] at hst
              simp only [Option.map_some, Option.some.injEq] at hst
              subst hst
              refine ⟨c, vs, j, jj, rfl, rfl, q1, by rw [← q2.length]; exact hix, ?_⟩
              have pd3 : Rep X.K y3 H3 d u := Rep.mono e3 _ _ (Rep.mono e2 _ _ pd)
              have cal : c ∈ y3.al := List.mem_of_getElem? hc
              have ev : Evo y3 H3 y3 (L2.upd H3 c (.lst (vs.set jj u))) := ⟨rfl, ⟨[], by simp, fun _ h => by simp at h⟩, fun a o h n _ => by rw [upd_ne fun e : a = c => n (by rw [e]; exact cal)]; exact h, fun a h => by
                by_cases ea : a = c
                · subst ea; rw [upd_same] at h; cases h
                · rw [upd_ne ea] at h; exact h, fun a w => .inl w⟩
              have G4 : Good X.K y3 (L2.upd H3 c (.lst (vs.set jj u))) (g3.set n (.lst (ds.set jj d))) := by
                refine ⟨fun a z => ?_, G3.aw, G3.disj, G3.nd, by rw [List.length_set]; exact G3.len, fun k a o h1 h2 => ?_⟩
                · by_cases ea : a = c
                  · subst ea; exact ⟨_, upd_same⟩
                  · rw [upd_ne ea]; exact G3.zok a z
                · rw [List.getElem?_set] at h2
                  by_cases hnk : n = k
                  · subst hnk
                    rw [hc] at h1; cases h1
                    rw [if_pos rfl, if_pos (List.getElem?_eq_some_iff.mp hg3).1] at h2
                    cases h2
                    exact ⟨_, upd_same, Reps.monoS ev _ _ (q2.set pd3 jj)⟩
                  · rw [if_neg hnk] at h2
                    have h3 := G3.objs k a o h1 h2
                    have ne : a ≠ c := fun e => by
                      subst e
                      exact hnk ((List.getElem?_inj (List.getElem?_eq_some_iff.mp hc).1 G3.nd).mp (hc.trans h1.symm))
                    cases o with
                    | lst os => obtain ⟨ws, k1, k2⟩ := h3; exact ⟨ws, by rw [upd_ne ne]; exact k1, Reps.monoS ev _ _ k2⟩
              have S4 : SR X.K y3 (L2.upd H3 c (.lst (vs.set jj u))) r σ := by
                refine ⟨S3.len, fun i s q => ?_, S3.dist⟩
                obtain ⟨o, a1, a2⟩ := S3.at_ i s q
                refine ⟨o, a1, ?_⟩
                cases s with
                | no => trivial
                | fz d => obtain ⟨v, b1, b2⟩ := a2; exact ⟨v, b1, Rep.monoS ev _ _ b2⟩
                | own es => obtain ⟨a, ws, b1, b2, b3, b4⟩ := a2; exact ⟨a, ws, b1, b2, by rw [upd_ne fun e : a = c => (G3.disj c cal).2 (by rw [← e]; exact b2)]; exact b3, Reps.monoS ev _ _ b4⟩
                | ownK ks es => obtain ⟨a, ws, b1, b2, b3, b4, b5⟩ := a2; exact ⟨a, ws, b1, b2, by rw [upd_ne fun e : a = c => (G3.disj c cal).2 (by rw [← e]; exact b2)]; exact b3, b4, Reps.monoS ev _ _ b5⟩
              exact p3 _ _ σ ev G4 S4
    | _ => exact p3.elim
  | _ => exact p3.elim
end
end Bk
end
section
set_option Elab.async false
set_option linter.all false
set_option maxRecDepth 100000
set_option maxHeartbeats 4000000
namespace Bk
open PySem PySem.Spec PyProof.Rows L2 RZ
section
variable {X : Cx} {W : WX} {gl : Nat → Option D} {cl : Nat → List D → List O → Res D} {T : MT} {pos : Pos}
/-! ### a, b = x, y -/
theorem set2_imp {is : List Nat} {Fs : EA} {En : Ends} {σ : L2.St} {H : Hp} (q : tS X.K X.mg W (fun r g => (Fs r g).bind fun ds g => if is.length = ds.length then .ok (.nx ((is.zip ds).foldl (fun r p => r.set p.1 (.fz p.2)) r)) g else .bad) En σ H) :
    (tA X.K X.mg W false Fs) σ H fun vs H1 => is.length = vs.length ∧ En.nx ((is.zip vs).foldl (fun s p => s.set p.1 (some p.2)) σ) H1 := by
  obtain ⟨y, r, g, S, G, p⟩ := q
  refine bindP (F := Fs) (IsPost.s (En := En)) S G p fun y1 ds g1 vs H1 S1 G1 pd e1 p1 => ?_
  have pd := RepsX.f pd
  split at p1
  · rename_i hl
    refine ⟨hl.trans pd.length, p1 y1 H1 _ (Evo.refl _ _) G1 ?_⟩
    clear p1 hl
    have go : ∀ (is : List Nat) {ds : List D} {vs : List V} {r : List Slot} {σ : L2.St}, SR X.K y1 H1 r σ → Reps X.K y1 H1 ds vs → SR X.K y1 H1 ((is.zip ds).foldl (fun r p => r.set p.1 (.fz p.2)) r) ((is.zip vs).foldl (fun s p => s.set p.1 (some p.2)) σ) := by
      intro is
      induction is with
      | nil => intro ds vs r σ S _; exact S
      | cons i is ih =>
        intro ds vs r σ S h
        cases ds with
        | nil => simp only [Reps] at h; subst h; exact S
        | cons d ds =>
          simp only [Reps] at h
          obtain ⟨v, ws, rfl, h1, h2⟩ := h
          exact ih (S.set h1 i) h2
    exact go is S1 pd
  · exact p1.elim
theorem len2 {α : Type} {l : List α} (h : l.length = 2) : ∃ a b, l = [a, b] := by
  match l, h with
  | [a, b], _ => exact ⟨a, b, rfl⟩
theorem len3 {α : Type} {l : List α} (h : l.length = 3) : ∃ a b c, l = [a, b, c] := by
  match l, h with
  | [a, b, c], _ => exact ⟨a, b, c, rfl⟩
theorem fm_congr {α β : Type} {f g : α → Option β} : ∀ {l : List α}, (∀ x ∈ l, f x = g x) → l.filterMap f = l.filterMap g
  | [], _ => rfl
  | a :: l, h => by
    rw [List.filterMap_cons, List.filterMap_cons, h a List.mem_cons_self, fm_congr fun x hx => h x (List.mem_cons_of_mem _ hx)]
theorem fm_all {α β : Type} {f : α → Option β} : ∀ {l : List α}, (l.filterMap f).length = l.length → ∀ x ∈ l, (f x).isSome = true
  | [], _, x, hx => by cases hx
  | a :: l, hlen, x, hx => by
    rw [List.filterMap_cons] at hlen
    cases hf : f a with
    | none =>
      rw [hf] at hlen
      have := List.length_filterMap_le f l
      simp at hlen
      omega
    | some b =>
      rw [hf] at hlen
      rcases List.mem_cons.mp hx with rfl | hx
      · rw [hf]; rfl
      · exact fm_all (by simpa using hlen) x hx
theorem lc_cons {sc : Scope} {N : List Str} {is : List Nat} {t : Expr} {ts : List Expr} (h : lcN sc N is (t :: ts) = true) : ∃ i is' x px, is = i :: is' ∧ t = .Name x px ∧ N[i]? = some x ∧ sc.names.lookup x = some .local ∧ lcN sc N is' ts = true := by
  cases is with
  | nil => exact absurd (show false = true from h) Bool.false_ne_true
  | cons i is =>
    cases t <;> first | exact absurd (show false = true from h) Bool.false_ne_true | skip
    simp only [lcN, Bool.and_eq_true, decide_eq_true_eq] at h
    exact ⟨i, is, _, _, rfl, rfl, h.1.1, h.1.2, h.2⟩
theorem lc_nil {sc : Scope} {N : List Str} {is : List Nat} (h : lcN sc N is [] = true) : is = [] := by
  cases is with
  | nil => rfl
  | cons i is => exact absurd (show false = true from h) Bool.false_ne_true
theorem tA_mono {K : PySem.W.Frag} {mg : Str → Option Value} {t : Bool} {Fs : EA} {σ : L2.St} {H : Hp} {Q Q' : List V → Hp → Prop} (h : (tA K mg W t Fs) σ H Q) (k : ∀ vs H, Q vs H → Q' vs H) : (tA K mg W t Fs) σ H Q' := by
  obtain ⟨y, r, g, S, G, p⟩ := h
  refine ⟨y, r, g, S, G, ?_⟩
  cases e : Fs r g with
  | bad => rw [e] at p; exact p
  | exc c g' => rw [e] at p; exact p
  | ok ds g' => rw [e] at p; exact fun y' H' us e' G' ru => k _ _ (p y' H' us e' G' ru)
theorem ps_parB (h : HS gl cl T X W) {is : List Nat} {es : List E} {ts vs : List Expr} {k k2 : Nat} {p p2 : Pos} (hnd : is.Nodup) (hl : lcN X.env.scope T.N is ts = true) (hw : swOn X.env.scope ts vs = true) (he : mEs T es X.env.scope vs = true) :
    PS X (.Assign [.Tuple ts k p] (.Tuple vs k2 p2) pos) (tS X.K X.mg W fun r g => ex gl cl r (.par is es) g) := by
  have ha := (sound_es es X W h.toHX).1 vs he .v (by decide)
  have hsw := sw_on h.kind (k := k) (k2 := k2) (p := p) (p2 := p2) hw
  have hlen : (ts.length = 2 ∨ ts.length = 3) ∧ vs.length = ts.length ∧ (swNames X.env.scope ts).length = ts.length := by
    unfold swOn swOff at hw
    simp only [Bool.and_eq_true, Bool.not_eq_true', Bool.or_eq_false_iff] at hw
    obtain ⟨⟨⟨⟨⟨a, b⟩, c⟩, d, e⟩, f⟩, i⟩ := hw
    refine ⟨?_, by simpa using b, by simpa using d⟩
    have a' : (ts.length == 2 || ts.length == 3) = true := by
      cases q : (ts.length == 2 || ts.length == 3) with
      | true => rfl
      | false => rw [q] at a; cases a
    simpa only [Bool.or_eq_true, beq_iff_eq] using a'
  have fl : swNames X.env.scope ts = ts.filterMap (fun | .Name id _ => some id | _ => none) := by
    have hall := fm_all hlen.2.2
    unfold swNames
    refine fm_congr fun x hx => ?_
    have := hall x hx
    cases x <;> first | rfl | skip
    dsimp only at this ⊢
    split at this
    · rename_i hc; rw [if_pos hc]
    · cases this
  rw [fl] at hsw
  have swF : swapsWithSole [.Tuple ts k p] (.Tuple vs k2 p2) pos.line X.env = pure false := rfl
  have eN : X.N = T.N := h.N
  rcases hlen with ⟨h2 | h2, hv, _⟩
  · obtain ⟨t1, t2, rfl⟩ := len2 h2
    obtain ⟨a, b, rfl⟩ := len2 (hv.trans h2)
    obtain ⟨i, is1, x, px, rfl, rfl, n1, l1, hl⟩ := lc_cons hl
    obtain ⟨j, is2, y, py, rfl, rfl, n2, l2, hl⟩ := lc_cons hl
    obtain rfl := lc_nil hl
    have hij : i ≠ j := by
      intro e; subst e; simp at hnd
    refine psI (ps_par h.calm h.nd (by rw [eN]; exact n1) (by rw [eN]; exact n2) hij l1 l2 ha hsw swF) fun En σ H q => ?_
    refine tA_mono (set2_imp (Fs := fun r g => evs gl cl false r es g) q) fun us H1 ⟨k1, k2⟩ => ?_
    match us, k1, k2 with
    | [v, w], _, k2 => exact ⟨v, w, rfl, k2⟩
  · obtain ⟨t1, t2, t3, rfl⟩ := len3 h2
    obtain ⟨a, b, c, rfl⟩ := len3 (hv.trans h2)
    obtain ⟨i, is1, x, px, rfl, rfl, n1, l1, hl⟩ := lc_cons hl
    obtain ⟨j, is2, y, py, rfl, rfl, n2, l2, hl⟩ := lc_cons hl
    obtain ⟨l, is3, z, pz, rfl, rfl, n3, l3, hl⟩ := lc_cons hl
    obtain rfl := lc_nil hl
    have d3 : i ≠ j ∧ i ≠ l ∧ j ≠ l := by
      simp at hnd
      exact ⟨hnd.1.1, hnd.1.2, hnd.2⟩
    refine psI (ps_par3 h.calm h.nd (by rw [eN]; exact n1) (by rw [eN]; exact n2) (by rw [eN]; exact n3) d3.1 d3.2.1 d3.2.2 l1 l2 l3 ha hsw swF) fun En σ H q => ?_
    refine tA_mono (set2_imp (Fs := fun r g => evs gl cl false r es g) q) fun us H1 ⟨k1, k2⟩ => ?_
    match us, k1, k2 with
    | [v, w, u], _, k2 => exact ⟨v, w, u, rfl, k2⟩
/-! ### x op= e -/
theorem ps_augB (h : HS gl cl T X W) {op : Bop} {e : E} {v : Expr} {z : Str} {p : Pos} {i : Nat} (hi : T.N[i]? = some z) (hl : locB X.env.scope z = true) (ho : augOk op = true) (he : mE T e X.env.scope v = true) :
    PS X (.AugAssign (.Name z p) op.op v pos) (tS X.K X.mg W fun r g => ex gl cl r (.aug i op e) g) := by
  obtain ⟨l1, l2⟩ := loc_fn h hl
  have hx := (sound_e e X W h.toHX v he).1 .t fun q => nomatch q
  have hz : X.N[i]? = some z := by rw [h.N]; exact hi
  have key : ∀ (ti : TIp), PIp X op.op ti → (∀ (a b : Int) (o : D) (H : Hp) (Q : VK), binop op (.int a) (.int b) = some o → (∀ c, o = .int c → Q (.int c) H) → ti (.int a) (.int b) H Q) → PS X (.AugAssign (.Name z p) op.op v pos) (tS X.K X.mg W fun r g => ex gl cl r (.aug i op e) g) := by
    intro ti hti hop
    refine psI (ps_aug h.nd hz l1 hx hti l2) fun En σ H ⟨y, r, g, S, G, p⟩ => ?_
    simp only [ex] at p
    cases e1 : r[i]? with
    | none => rw [e1] at p; exact p.elim
    | some s =>
      rw [e1] at p
      cases s with
      | fz d =>
        cases d with
        | int a =>
          obtain ⟨o, q1, v1, q2, q3⟩ := S.at_ i _ e1
          have q3 : v1 = .int a := by simpa only [Rep] using q3
          subst q3
          refine ⟨.int a, by rw [q1, q2], ?_⟩
          refine bindP (F := fun r g => ev gl cl true r e g) (IsPost.s (En := En)) S G p fun y1 d g1 u H1 S1 G1 pd e2 p1 => ?_
          cases d with
          | int b =>
            have hu : u = .int b := rt_int (show RepT X.K y1 H1 (.int b) u from pd)
            subst hu
            dsimp only at p1
            cases hb : binop op (.int a) (.int b) with
            | none => rw [hb] at p1; exact p1.elim
            | some o =>
              rw [hb] at p1
              refine hop a b o H1 _ hb fun c ec => ?_
              subst ec
              exact p1 y1 H1 _ (Evo.refl _ _) G1 (S1.set (by simp only [Rep]) i)
          | _ => exact p1.elim
        | _ => exact p.elim
      | _ => exact p.elim
  cases op <;> first | exact absurd (show false = true from ho) Bool.false_ne_true | skip
  · exact key _ iop_add fun a b o H Q hb k => ⟨a, b, rfl, rfl, k _ (by simpa [binop] using hb.symm)⟩
  · exact key _ iop_sub fun a b o H Q hb k => ⟨a, b, rfl, rfl, k _ (by simpa [binop] using hb.symm)⟩
  · refine key _ iop_mul fun a b o H Q hb k => ?_
    simp only [binop] at hb
    split at hb
    · rename_i hc
      exact ⟨a, b, rfl, rfl, hc, k _ (by simpa using hb.symm)⟩
    · cases hb
  · refine key _ iop_mod fun a b o H Q hb k => ?_
    simp only [binop] at hb
    split at hb
    · rename_i hc
      exact ⟨a, b, rfl, rfl, hc, k _ (by simpa using hb.symm)⟩
    · cases hb
/-! ### x.append(e) -/
theorem ps_appB (h : HS gl cl T X W) {e : E} {v : Expr} {z : Str} {pz ap cp : Pos} {i : Nat} (hr : rdB T X.env.scope i z = true) (hline : (ap.endLine == cp.line) = true) (hs : notStar v = true) (he : mE T e X.env.scope v = true) :
    PS X (.Expr (.Call (.Attribute (.Name z pz) (Str.ofString "append") ap) [v] [] cp) pos) (tS X.K X.mg W fun r g => ex gl cl r (.app i e) g) := by
  unfold rdB at hr
  simp only [Bool.and_eq_true, decide_eq_true_eq] at hr
  obtain ⟨n1, n2, _⟩ := nm_of hr.2
  have hx := (sound_e e X W h.toHX v he).1 .v (op_ne rfl)
  have hpv : PE X (.Name z pz) (tVar i) := pe_var (by rw [h.N]; exact hr.1.1) (vis_of hr.1.2) n1 n2
  have hpa : PA X [v] (tCons (tX X.K X.mg W .v fun r g => ev gl cl false r e g) tNil) := pa_cons hx pa_nil (star_cons hs)
  have hfew : ((backTo cp (starEach [v] X.env)).all (fun x => !x.1) && (backToKw cp (keywordEach [] X.env)).all (fun x => x.1.isSome)
      && decide (([v] : List Expr).length + ([] : List Keyword).length + (if ([] : List Keyword).isEmpty then 0 else 1) < 30)) = true := by
    rw [star_cons hs]; rfl
  have mt : MtR X "list.append" rAppend := fun pins s σ H x xs w us Q I r1 r2 q => mt_append pins s σ H x xs w us Q I r1 r2 q
  refine psI (ps_expr (pe_bm F.plainAttrs_list F.slot_list_append F.type_list_append mt hpv hpa rfl hfew hline (star_cons hs) rfl) rfl) fun En σ H ⟨y, r, g, S, G, p⟩ => ?_
  simp only [ex] at p
  cases hi : r[i]? with
  | none => rw [hi] at p; exact p.elim
  | some s0 =>
    rw [hi] at p
    cases s0 with
    | own ds =>
      obtain ⟨o, q1, b, vs, q2, w, hb, rr⟩ := S.at_ i _ hi
      refine ⟨.ref b, by rw [q1, q2], .inl ⟨rfl, vs, .inl (.inl hb)⟩, ?_⟩
      refine bindP (F := fun r g => ev gl cl false r e g) (IsPost.s (En := En)) S G p fun y1 d g1 u H1 S1 G1 pd e1 p1 => ?_
      split at p1
      · rename_i hlen
        have hb1 : H1 b = some (.lst vs) := e1.keep _ _ hb fun z => (G.disj b z).2 w
        have w1 : y1.W b := by rw [e1.eW]; exact w
        have rr1 := Reps.mono e1 _ _ rr
        obtain ⟨G2, ev⟩ := G1.upd (o := .lst (vs ++ [u])) w1
        refine ⟨b, vs, u, rfl, rfl, hb1, by rw [← rr.length]; exact lim_lt (Nat.le_of_lt hlen), ?_⟩
        exact p1 y1 _ σ ev G2 (S1.upd G1 hi (by rw [q1, q2]) w1 (rr1.append (.cons pd .nil)))
      · exact p1.elim
    | _ => exact p.elim
end
end Bk
end
section
set_option Elab.async false
set_option linter.all false
set_option maxRecDepth 100000
set_option maxHeartbeats 4000000
namespace Bk
open PySem PySem.Spec PyProof.Rows L2 RZ
section
variable (gl : Nat → Option D) (cl : Nat → List D → List O → Res D) (T : MT)
def MT1 (s : S) : Prop := ∀ X W, HS gl cl T X W → ∀ x, mSt T X.env.scope s x = true → PS X x (tS X.K X.mg W fun r g => ex gl cl r s g)
def MTs (ss : List S) : Prop := ∀ X W, HS gl cl T X W → ∀ xs, mSts T X.env.scope ss xs = true → PSs X xs (tS X.K X.mg W fun r g => exs gl cl r ss g)
end
section
variable {gl : Nat → Option D} {cl : Nat → List D → List O → Res D} {T : MT}
theorem st_bad {s : S} (h : ∀ sc x, mSt T sc s x = false) : MT1 gl cl T s := fun X W _ x hx => by rw [h] at hx; cases hx
theorem st_asg (tg : Tg) (e : E) : MT1 gl cl T (.asg tg e) := by
  intro X W h x hx
  cases x <;> first | (cases tg <;> exact absurd (show false = true from hx) Bool.false_ne_true) | skip
  rename_i ts v p
  cases tg with
  | nm i =>
    match ts, hx with
    | [.Name z pz], hx =>
      simp only [mSt, Bool.and_eq_true, decide_eq_true_eq] at hx
      exact ps_asgNm h hx.1.1.1.1 hx.1.1.1.2 hx.1.1.2 hx.1.2 hx.2
  | tp is =>
    match ts, hx with
    | [.Tuple ts k pz], hx =>
      simp only [mSt, Bool.and_eq_true, decide_eq_true_eq] at hx
      exact ps_asgTp h hx.1.1.1 hx.1.1.2 hx.1.2 hx.2
theorem st_asgOwn (i : Nat) (e : E) : MT1 gl cl T (.asgOwn i e) := by
  intro X W h x hx
  cases x <;> first | exact absurd (show false = true from hx) Bool.false_ne_true | skip
  rename_i ts v p
  match ts, hx with
  | [.Name z pz], hx =>
    simp only [mSt, Bool.and_eq_true, decide_eq_true_eq] at hx
    exact ps_asgOwn h hx.1.1.1.1.1 hx.1.1.1.1.2 hx.1.1.1.2 hx.1.1.2 hx.1.2 hx.2
theorem st_par (is : List Nat) (es : List E) : MT1 gl cl T (.par is es) := by
  intro X W h x hx
  cases x <;> first | exact absurd (show false = true from hx) Bool.false_ne_true | skip
  rename_i ts v p
  match ts, v, hx with
  | [.Tuple ts k pz], .Tuple vs k2 p2, hx =>
    simp only [mSt, Bool.and_eq_true, decide_eq_true_eq] at hx
    exact ps_parB h hx.1.1.1 hx.1.1.2 hx.1.2 hx.2
theorem st_aug (i : Nat) (op : Bop) (e : E) : MT1 gl cl T (.aug i op e) := by
  intro X W h x hx
  cases x <;> first | exact absurd (show false = true from hx) Bool.false_ne_true | skip
  rename_i tg o v p
  match tg, hx with
  | .Name z pz, hx =>
    simp only [mSt, Bool.and_eq_true, decide_eq_true_eq] at hx
    obtain ⟨⟨⟨⟨a, b⟩, c⟩, d⟩, e⟩ := hx
    subst d
    exact ps_augB h a b c e
theorem st_setR (a b e : E) : MT1 gl cl T (.setR a b e) := by
  intro X W h x hx
  cases x <;> first | exact absurd (show false = true from hx) Bool.false_ne_true | skip
  rename_i ts v p
  match ts, hx with
  | [.Subscript z u pz], hx =>
    simp only [mSt, Bool.and_eq_true] at hx
    exact ps_setRB h hx.1.1.1.1 hx.1.1.1.2 hx.1.1.2 hx.1.2 hx.2
theorem st_app (i : Nat) (e : E) : MT1 gl cl T (.app i e) := by
  intro X W h x hx
  cases x <;> first | exact absurd (show false = true from hx) Bool.false_ne_true | skip
  rename_i v p
  match v, hx with
  | .Call (.Attribute (.Name z pz) f ap) [v] [] cp, hx =>
    simp only [mSt, Bool.and_eq_true, beq_iff_eq] at hx
    obtain ⟨⟨⟨⟨a, b⟩, c⟩, d⟩, e⟩ := hx
    subst b
    exact ps_appB h a (by rw [c]; exact beq_self_eq_true _) d e
theorem st_iff {c : E} {a b : List S} (ha : MTs gl cl T a) (hb : MTs gl cl T b) : MT1 gl cl T (.iff c a b) := by
  intro X W h x hx
  cases x <;> first | exact absurd (show false = true from hx) Bool.false_ne_true | skip
  simp only [mSt, Bool.and_eq_true] at hx
  refine psI (ps_if (sound_e c X W h.toHX _ hx.1.1).2 (ha X W h _ hx.1.2) (hb X W h _ hx.2)) fun En σ H ⟨y, r, g, S, G, p⟩ => ?_
  refine bindP (F := fun r g => (ev gl cl true r c g).bind asB) (IsPost.s (En := En)) S G p fun y1 k g1 v H1 S1 G1 pd e1 p1 => ?_
  subst pd
  cases k with
  | true => exact ⟨y1, r, g1, S1, G1, by simpa using p1⟩
  | false => exact ⟨y1, r, g1, S1, G1, by simpa using p1⟩
/-- the wish of a loop's body -/
theorem body_post {K : PySem.W.Frag} {mg : Str → Option Value} {W : WX} {y : Gh} {H : Hp} {En : Ends} {N : L2.St → Hp → Prop} {R : Res Out} {nx ct : List Slot → List O → Res Out}
    (p : PostS K mg W y H En (R.bind fun o g => match o with
      | .nx r => nx r g
      | .ct r => ct r g
      | .bk r => .ok (.nx r) g
      | .rt d => .ok (.rt d) g))
    (h1 : ∀ y' H' σ' r g, Evo y H y' H' → Good K y' H' g → SR K y' H' r σ' → PostS K mg W y' H' En (nx r g) → N σ' H')
    (h2 : ∀ y' H' σ' r g, Evo y H y' H' → Good K y' H' g → SR K y' H' r σ' → PostS K mg W y' H' En (ct r g) → N σ' H') : PostS K mg W y H { En with nx := N, ct := N, bk := En.nx } R := by
  cases R with
  | bad => exact p
  | exc x g => exact p
  | ok o g =>
    cases o with
    | nx r => exact fun y' H' σ' e G S => h1 y' H' σ' r g e G S (PostS.evo e p)
    | ct r => exact fun y' H' σ' e G S => h2 y' H' σ' r g e G S (PostS.evo e p)
    | bk r => exact p
    | rt d => exact p
theorem st_for {tg : Tg} {ik : IK} {its : List E} {b : List S} (hb : MTs gl cl T b) : MT1 gl cl T (.for_ tg ik its b) := by
  intro X W h x hx
  cases x <;> first | exact absurd (show false = true from hx) Bool.false_ne_true | skip
  rename_i tx ix p orl pos
  cases orl with
  | cons _ _ => exact absurd (show false = true from hx) Bool.false_ne_true
  | nil =>
    simp only [mSt, Bool.and_eq_true] at hx
    obtain ⟨⟨⟨h1, h2⟩, h3⟩, h4⟩ := hx
    cases hi : itX X.env.scope ik ix with
    | none => rw [hi] at h1; cases h1
    | some xs =>
      rw [hi] at h1
      obtain ⟨q1, q2⟩ := pi_of (m := .v) (by decide) rfl h.toHX hi h1 h2 h3 (sound_es its)
      have hg : PG X tx (tgG X.K tg) := pg_of h.calm h.N h.nd (fun x hx => loc_fn h hx) h3
      refine psI (ps_for h.pass h.calm q1 hg (hb X W h _ h4) q2) fun En σ H ⟨y, r, g, S, G, p⟩ => ?_
      have p : PostS X.K X.mg W y H En (((evs gl cl false r its g).bind fun ds g => lift (iterD ik ds) g).bind fun xs g => loopF (fun r d g => (lift (setTg r tg d) g).bind fun r g => exs gl cl r b g) xs r g) := by
        rw [Res.assoc]
        simp only [ex] at p
        exact p
      refine bindP (F := fun r g => (evs gl cl false r its g).bind fun ds g => lift (iterD ik ds) g) (IsPost.s (En := En)) S G p fun y1 xs g1 J H1 S1 G1 wof e1 p1 => ?_
      obtain ⟨GG, YY, wk, hG, hY⟩ := wof y1 (.inl rfl)
      refine for_it wk (fun i σ H2 => ∃ y2 r2 g2, Evo y1 H1 y2 H2 ∧ SR X.K y2 H2 r2 σ ∧ Good X.K y2 H2 g2 ∧ PostS X.K X.mg W y2 H2 En (loopF (fun r d g => (lift (setTg r tg d) g).bind fun r g => exs gl cl r b g) (xs.drop i) r2 g2)) ?_ ?_ ?_ ?_
      · exact ⟨y1, r, g1, Evo.refl _ _, S1, G1, by rw [List.drop_zero]; exact p1⟩
      · rintro i σ2 H2 hi ⟨y2, r2, g2, e2, S2, G2, p2⟩
        exact hG y2 H2 (show Evo y1 H1 y2 H2 from e2)
      · rintro i v σ2 H2 H3 hlt ⟨y2, r2, g2, e2, S2, G2, p2⟩ hy
        obtain ⟨e3, G3, d, hd, rd⟩ := hY y2 H2 g2 i v H3 (show Evo y1 H1 y2 H2 from e2) G2 hlt hy
        have hdrop : xs.drop i = d :: xs.drop (i + 1) := by
          rw [List.drop_eq_getElem_cons hlt]
          rw [List.getElem?_eq_getElem hlt] at hd
          cases hd; rfl
        rw [hdrop] at p2
        have p3 := PostS.evo e3.evo p2
        unfold loopF at p3
        rw [Res.assoc] at p3
        have S3 := S2.mono e3 G2
        cases hst : setTg r2 tg d with
        | none => rw [hst] at p3; exact p3.elim
        | some r' =>
          rw [hst] at p3
          refine tg_run S3 rd hst fun σ' S' _ => ⟨y2, r', g2, S', G3, ?_⟩
          exact body_post p3 (fun y' H' σ'' r'' g'' e G S p => ⟨y', r'', g'', e2.trans (e3.evo.trans e), S, G, p⟩) (fun y' H' σ'' r'' g'' e G S p => ⟨y', r'', g'', e2.trans (e3.evo.trans e), S, G, p⟩)
      · rintro σ2 H2 ⟨y2, r2, g2, e2, S2, G2, p2⟩
        rw [List.drop_length] at p2
        exact p2 y2 H2 σ2 (Evo.refl _ _) G2 S2
theorem st_while {c : E} {b : List S} (hb : MTs gl cl T b) : MT1 gl cl T (.while_ c b) := by
  intro X W h x hx
  cases x <;> first | exact absurd (show false = true from hx) Bool.false_ne_true | skip
  rename_i tx p orl pos
  cases orl with
  | cons _ _ => exact absurd (show false = true from hx) Bool.false_ne_true
  | nil =>
    simp only [mSt, Bool.and_eq_true] at hx
    refine psI (ps_while h.pass (sound_e c X W h.toHX _ hx.1).2 (hb X W h _ hx.2)) fun En σ H ⟨y, r, g, S, G, p⟩ => ?_
    refine ⟨fun m σ H => ∃ y r g, SR X.K y H r σ ∧ Good X.K y H g ∧ PostS X.K X.mg W y H En (loopW (fun r g => (ev gl cl true r c g).bind asB) (fun r g => exs gl cl r b g) m r g), ⟨LIM, y, r, g, S, G, p⟩, ?_⟩
    rintro m σ2 H2 ⟨y2, r2, g2, S2, G2, p2⟩
    cases m with
    | zero => exact p2.elim
    | succ m =>
      unfold loopW at p2
      refine bindP (F := fun r g => (ev gl cl true r c g).bind asB) (IsPost.s (En := En)) S2 G2 p2 fun y3 k g3 v H3 S3 G3 pd e3 p3 => ?_
      subst pd
      cases k with
      | false =>
        simp only [Bool.false_eq_true, if_false] at p3 ⊢
        exact p3 y3 H3 σ2 (Evo.refl _ _) G3 S3
      | true =>
        simp only [if_true] at p3 ⊢
        refine ⟨fun σ' H' => ∃ y r g, SR X.K y H' r σ' ∧ Good X.K y H' g ∧ PostS X.K X.mg W y H' En (loopW (fun r g => (ev gl cl true r c g).bind asB) (fun r g => exs gl cl r b g) m r g), fun σ' H' q => ⟨m, Nat.lt_succ_self _, q⟩, y3, r2, g3, S3, G3, ?_⟩
        exact body_post p3 (fun y' H' σ'' r'' g'' e G S p => ⟨y', r'', g'', S, G, p⟩) (fun y' H' σ'' r'' g'' e G S p => ⟨y', r'', g'', S, G, p⟩)
theorem st_ret (e : E) : MT1 gl cl T (.ret e) := by
  intro X W h x hx
  cases x <;> first | exact absurd (show false = true from hx) Bool.false_ne_true | skip
  rename_i v p
  cases v with
  | none => exact absurd (show false = true from hx) Bool.false_ne_true
  | some v =>
    refine psI (ps_ret ((sound_e e X W h.toHX v hx).1 .v (op_ne rfl))) fun En σ H ⟨y, r, g, S, G, p⟩ => ?_
    exact bindP (F := fun r g => ev gl cl false r e g) (IsPost.s (En := En)) S G p fun y1 d g1 v H1 S1 G1 pd e1 p1 => p1 y1 H1 v (Evo.refl _ _) G1 pd
theorem st_retO (i : Nat) : MT1 gl cl T (.retO i) := by
  intro X W h x hx
  cases x <;> first | exact absurd (show false = true from hx) Bool.false_ne_true | skip
  rename_i v p
  match v, hx with
  | some (.Name z pz), hx =>
    have hx : rdB T X.env.scope i z = true := hx
    unfold rdB at hx
    simp only [Bool.and_eq_true, decide_eq_true_eq] at hx
    obtain ⟨n1, n2, _⟩ := nm_of hx.2
    refine psI (ps_ret (pe_var (i := i) (by rw [h.N]; exact hx.1.1) (vis_of hx.1.2) n1 n2)) fun En σ H ⟨y, r, g, S, G, p⟩ => ?_
    simp only [ex] at p
    cases hi : r[i]? with
    | none => rw [hi] at p; exact p.elim
    | some s =>
      rw [hi] at p
      obtain ⟨o, q1, q2⟩ := S.at_ i _ hi
      cases s with
      | own ds =>
        obtain ⟨b, vs, e1, w, hb, rr⟩ := q2
        refine ⟨.ref b, by rw [q1, e1], p (y.let b) H _ let_evo (G.let b) ?_⟩
        simp only [Rep]
        exact ⟨b, vs, rfl, let_no G w, hb, (Reps.anti let_z ⟨[], by simp [Gh.let]⟩).2 _ _ rr⟩
      | ownK ks ds =>
        obtain ⟨b, vs, e1, w, hb, hl, rr⟩ := q2
        refine ⟨.ref b, by rw [q1, e1], p (y.let b) H _ let_evo (G.let b) ?_⟩
        simp only [Rep]
        exact ⟨b, vs, rfl, let_no G w, hb, hl, (Reps.anti let_z ⟨[], by simp [Gh.let]⟩).2 _ _ rr⟩
      | _ => exact p.elim
theorem st_pass : MT1 gl cl T .pass := by
  intro X W h x hx
  cases x <;> first | exact absurd (show false = true from hx) Bool.false_ne_true | skip
  · rename_i v p
    match v, hx with
    | .Constant (.str z) k p2, _ => exact psI ps_doc fun En σ H ⟨y, r, g, S, G, p⟩ => p y H σ (Evo.refl _ _) G S
  · exact psI ps_pass fun En σ H ⟨y, r, g, S, G, p⟩ => p y H σ (Evo.refl _ _) G S
theorem st_brk : MT1 gl cl T .brk := by
  intro X W h x hx
  cases x <;> first | exact absurd (show false = true from hx) Bool.false_ne_true | skip
  exact psI ps_break fun En σ H ⟨y, r, g, S, G, p⟩ => p y H σ (Evo.refl _ _) G S
theorem st_cont : MT1 gl cl T .cont := by
  intro X W h x hx
  cases x <;> first | exact absurd (show false = true from hx) Bool.false_ne_true | skip
  exact psI ps_continue fun En σ H ⟨y, r, g, S, G, p⟩ => p y H σ (Evo.refl _ _) G S
theorem ts_nil : MTs gl cl T [] := by
  intro X W h xs hx
  cases xs with
  | nil => exact pssI pss_nil fun En σ H ⟨y, r, g, S, G, p⟩ => p y H σ (Evo.refl _ _) G S
  | cons _ _ => exact absurd (show false = true from hx) Bool.false_ne_true
theorem frz_imp {X : Cx} {W : WX} {i : Nat} {ss : List S} {En : Ends} {σ : L2.St} {H : Hp} (q : (tS X.K X.mg W fun r g => exs gl cl r (.frz i :: ss) g) En σ H) : (tS X.K X.mg W fun r g => exs gl cl r ss g) En σ H := by
  obtain ⟨y, r, g, S, G, p⟩ := q
  simp only [exs, ex] at p
  cases hi : r[i]? with
  | none => rw [hi] at p; exact p.elim
  | some s =>
    rw [hi] at p
    obtain ⟨o, q1, q2⟩ := S.at_ i _ hi
    cases s with
    | own ds =>
      obtain ⟨b, vs, e1, w, hb, rr⟩ := q2
      refine ⟨y.let b, r.set i (.fz (.lst ds)), g, S.let G hi rfl (by rw [q1, e1]) ?_, G.let b, PostS.evo let_evo p⟩
      simp only [Rep]
      exact ⟨b, vs, rfl, let_no G w, hb, (Reps.anti let_z ⟨[], by simp [Gh.let]⟩).2 _ _ rr⟩
    | ownK ks ds =>
      obtain ⟨b, vs, e1, w, hb, hl, rr⟩ := q2
      refine ⟨y.let b, r.set i (.fz (.dct ks ds)), g, S.let G hi rfl (by rw [q1, e1]) ?_, G.let b, PostS.evo let_evo p⟩
      simp only [Rep]
      exact ⟨b, vs, rfl, let_no G w, hb, hl, (Reps.anti let_z ⟨[], by simp [Gh.let]⟩).2 _ _ rr⟩
    | _ => exact p.elim
theorem ts_cons {s : S} {ss : List S} (hs : MT1 gl cl T s) (hss : MTs gl cl T ss) : MTs gl cl T (s :: ss) := by
  intro X W h xs hx
  have gen : (∀ i, s ≠ .frz i) → PSs X xs (tS X.K X.mg W fun r g => exs gl cl r (s :: ss) g) := fun hne => by
    cases xs with
    | nil => cases s <;> first | exact absurd rfl (hne _) | exact absurd (show false = true from hx) Bool.false_ne_true
    | cons x xs =>
      have hx2 : (mSt T X.env.scope s x && mSts T X.env.scope ss xs) = true := by cases s <;> first | exact absurd rfl (hne _) | exact hx
      simp only [Bool.and_eq_true] at hx2
      refine pssI (pss_cons (hs X W h x hx2.1) (hss X W h xs hx2.2)) fun En σ H ⟨y, r, g, S, G, p⟩ => ⟨y, r, g, S, G, ?_⟩
      simp only [exs] at p
      dsimp only
      cases e : ex gl cl r s g with
      | bad => rw [e] at p; exact p.elim
      | exc c g' => rw [e] at p; exact p
      | ok o g' =>
        rw [e] at p
        cases o with
        | nx r' => exact fun y' H' σ' e' G' S' => ⟨y', r', g', S', G', PostS.evo e' p⟩
        | bk r' => exact p
        | ct r' => exact p
        | rt d => exact p
  cases s with
  | frz i => exact pssI (hss X W h xs hx) fun En σ H q => frz_imp q
  | _ => exact gen fun i q => nomatch q
theorem sound_ts (ss : List S) : MTs gl cl T ss := by
  refine S.rec_1 (motive_1 := MT1 gl cl T) (motive_2 := MTs gl cl T) ?_ ?_ ?_ ?_ ?_ ?_ ?_ ?_ ?_ ?_ ?_ ?_ ?_ ?_ ?_ ?_ ?_ ?_ ?_ ?_ ?_ ss
  · exact st_asg
  · exact st_asgOwn
  · exact st_par
  · exact st_aug
  · exact fun i b e => st_bad fun sc x => by cases x <;> rfl
  · exact st_setR
  · exact st_app
  · exact fun i j e => st_bad fun sc x => by cases x <;> rfl
  · exact fun i => st_bad fun sc x => by cases x <;> rfl
  · exact fun i e => st_bad fun sc x => by cases x <;> rfl
  · exact fun i => st_bad fun sc x => by cases x <;> rfl
  · exact fun c a b ha hb => st_iff ha hb
  · exact fun tg ik its b hb => st_for hb
  · exact fun c b hb => st_while hb
  · exact st_ret
  · exact st_retO
  · exact st_pass
  · exact st_brk
  · exact st_cont
  · exact ts_nil
  · exact fun s ss h hs => ts_cons h hs
end
end Bk
end
section
set_option Elab.async false
set_option linter.all false
set_option maxRecDepth 100000
set_option maxHeartbeats 4000000
namespace Bk
open PySem PySem.Spec PyProof.Rows L2 RZ

/-! ## a function's promise from its body -/
theorem gd_deeper {A : Around} {e : Env} : (A.deeper e).guards = A.guards := rfl
theorem gfn_of {P : Program} {w : World} {K : PySem.W.Frag} {mg : Str → Option Value} {base : Heap} {x qual : Str} {st : Stmt} {f : Addr} {fd : FuncData} {N ps : List Str} {k : Nat} {sp : Sp} (F : Fun K x qual st f fd) (S : FnScope N ps (defScope st)) (len : ∀ vs H Q E, sp vs H Q E → vs.length = ps.length)
    (hbody : ∀ (cdv : Value) (A : Around) (outer : List Env) (s : Shared) (H : Hp) (vs : List V) (Q : VK) (E : XK), Room k (A.deeper (envOfC qual (defScope st) s.heap.objs.size f cdv)) → A.guards = some [] → sp vs H Q E →
      ∃ t, PSs (cxOf (L2.CX P w) P w K mg base N qual (defScope st) f cdv A outer s H E) (defBody st) t ∧ t { nx := fun _ H' => Q .non H', rt := Q } (L2.start N vs) H) : GFn P w K mg base (k + 1) f fd ps sp := by
  obtain ⟨oc, od, kV, doc, pm, an, cdv, ct, osl, rfl, lk, hcd⟩ := F.ex
  refine ⟨len, fun A outer s H args us vs Q E hr hgd e0 hb r hsp => ?_⟩
  have hl := len _ _ _ _ hsp
  have KX : K.In s.heap := e0.mod.kin.keeps fun b o e => (e0.bs b o e).1
  have lim : s.heap.NoLimit := e0.mod.nolimit.keeps fun b o e => (e0.bs b o e).1
  have par : ∀ y ∈ ps.zip us, (defScope st).names.lookup y.1 = some .local ∨ ((defScope st).names.lookup y.1 = some .cell ∧ ((cellsFrom (s.heap.objs.size + 1) (defScope st).names []).lookup y.1).isSome = true) := by
    rintro ⟨n, v⟩ hy
    rcases S.par n (List.of_mem_zip hy).1 with q | q
    · exact .inl q
    · exact .inr ⟨q, PySem.W.cellsFrom_some _ _ _ (.inl q)⟩
  refine codeAny_call_function hr.depth (KX _ _ lk) rfl S.co S.gen rfl (PySem.W.codeRec_of KX hcd) (hb _ _ _ _ (wpAny_newFunctionEnv_cells S.kind par fun env he s1 hx => ?_))
  subst he
  refine ⟨lim.keeps hx.toInCall.keep, codeAny_func ?_⟩
  obtain ⟨t, ht, hq⟩ := hbody cdv A outer s H vs Q E (hr.deeper _) hgd hsp
  refine wpAny_mono (ht.run [] s1 (L2.start N vs) H _ (inv_start S hr.hd e0 hl r hx) hq) (fun fl s' hs => ?_) fun e s' hs => hs
  match fl, hs with
  | .ret u, ⟨v, σ', H', J, rv, q⟩ => exact ⟨v, H', J.os, J.bare, J.base, J.hok, rv, q⟩
  | .next, ⟨σ', H', J, q⟩ => exact ⟨.non, H', J.os, J.bare, J.base, J.hok, rfl, q⟩
  | .brk, ⟨_, _, _, q⟩ => exact False.elim q
  | .cont, ⟨_, _, _, q⟩ => exact False.elim q

/-! ## all functions of a text -/
/-- the i-th function: its place in the heap, its text -/
structure FF (K : PySem.W.Frag) (mg : Str → Option Value) (fs gs : List Str) (x : Str) (fn : Fn) : Prop where
  ex : ∃ (qual : Str) (st : Stmt) (fa : Addr) (fd : FuncData) (ps N : List Str), mg x = some (.ref fa) ∧ Fun K x qual st fa fd ∧ Binds K fd ps [] ∧ FnScope N ps (defScope st) ∧ fn.ps = ps.length ∧ fn.ns = N.length ∧ mSts ⟨N, fs, gs⟩ (defScope st) fn.body (defBody st) = true
/-- the ghost of a callee -/
def Gh.seal (y : Gh) : Gh := { A := fun a => y.A a ∨ y.W a, W := fun _ => False, al := y.al }
section
variable {K : PySem.W.Frag} {mg : Str → Option Value} {y y1 : Gh} {H H1 : Hp} {g g1 : List O}
theorem seal_z {a : Addr} : y.seal.Z a ↔ y.Z a := by
  unfold Gh.Z Gh.seal
  constructor
  · rintro ((h | h) | h | h)
    · exact .inl h
    · exact .inr (.inl h)
    · exact h.elim
    · exact .inr (.inr h)
  · rintro (h | h | h)
    · exact .inl (.inl h)
    · exact .inl (.inr h)
    · exact .inr (.inr h)
theorem Good.seal (G : Good K y H g) : Good K y.seal H g := by
  refine ⟨fun a z => G.zok a (seal_z.mp z), fun _ w => w.elim, fun a ha => ⟨fun z => z.elim (G.disj a ha).1 (G.disj a ha).2, fun w => w⟩, G.nd, G.len, fun n a o h1 h2 => ?_⟩
  have h3 := G.objs n a o h1 h2
  cases o with
  | lst ds =>
    obtain ⟨vs, e1, e2⟩ := h3
    exact ⟨vs, e1, (Reps.anti (fun a z => seal_z.mp z) ⟨[], by simp [Gh.seal]⟩).2 _ _ e2⟩
/-- back in the caller's eyes -/
def Gh.unseal (y y1 : Gh) : Gh := { A := y.A, W := y.W, al := y1.al }
theorem unseal_ext (e : Evo y.seal H y1 H1) : Ext y H (y.unseal y1) H1 := ⟨rfl, rfl, e.pre, fun a o h n => e.keep a o h n fun w => w, e.dom⟩
theorem unseal_z (e : Evo y.seal H y1 H1) : ∀ a, (y.unseal y1).Z a → y1.Z a := fun a z => by
  rcases z with z | z | z
  · exact .inl (by rw [e.eA]; exact .inl z)
  · exact .inl (by rw [e.eA]; exact .inr z)
  · exact .inr (.inr z)
theorem unseal_good (G : Good K y H g) (e : Evo y.seal H y1 H1) (G1 : Good K y1 H1 g1) : Good K (y.unseal y1) H1 g1 := by
  refine ⟨fun a z => G1.zok a (unseal_z e a z), G.aw, fun a ha => ⟨fun z => (G1.disj a ha).1 (by rw [e.eA]; exact .inl z), fun z => (G1.disj a ha).1 (by rw [e.eA]; exact .inr z)⟩, G1.nd, G1.len, fun n a o h1 h2 => ?_⟩
  have h3 := G1.objs n a o h1 h2
  cases o with
  | lst ds =>
    obtain ⟨vs, e1, e2⟩ := h3
    exact ⟨vs, e1, (Reps.anti (unseal_z e) ⟨[], by simp [Gh.unseal]⟩).2 _ _ e2⟩
theorem unseal_rep (e : Evo y.seal H y1 H1) {d : D} {v : V} (h : Rep K y1 H1 d v) : Rep K (y.unseal y1) H1 d v := (Reps.anti (unseal_z e) ⟨[], by simp [Gh.unseal]⟩).1 _ _ h
theorem unseal_x (e : Evo y.seal H y1 H1) {x : X} {c : Value} {od : Option Addr} (h : XRep K mg y1 H1 x c od) : XRep K mg (y.unseal y1) H1 x c od := by
  obtain ⟨C, h1, h2, h3⟩ := h
  refine ⟨C, h1, h2, ?_⟩
  rcases h3 with h3 | ⟨f, d, dd, v, a, b, c, z, r⟩
  · exact .inl h3
  · exact .inr ⟨f, d, dd, v, a, b, c, fun q => z (unseal_z e _ q), unseal_rep e r⟩
end
theorem sr_start {K : PySem.W.Frag} {y : Gh} {H : Hp} {N : List Str} {ds : List D} {vs : List V} {n : Nat} (hn : n = N.length) (r : Reps K y H ds vs) (hl : ds.length ≤ n) : SR K y H (ds.map Slot.fz ++ List.replicate (n - ds.length) Slot.no) (L2.start N vs) := by
  have hlen := r.length
  refine ⟨by simp [L2.start, hlen, hn], fun i s q => ?_, fun i j s t b hij h1 h2 o1 o2 => ?_⟩
  · by_cases hi : i < ds.length
    · rw [List.getElem?_append_left (by simpa using hi), List.getElem?_map] at q
      cases hd : ds[i]? with
      | none => rw [hd] at q; cases q
      | some d =>
        rw [hd] at q
        cases q
        obtain ⟨v, e1, e2⟩ := r.at hd
        refine ⟨some v, ?_, v, rfl, e2⟩
        unfold L2.start
        rw [List.getElem?_append_left (by simp; omega), List.getElem?_map, e1]
        rfl
    · rw [List.getElem?_append_right (by simp; omega), List.getElem?_replicate] at q
      split at q
      · rename_i hlt
        cases q
        refine ⟨none, ?_, trivial⟩
        unfold L2.start
        rw [List.getElem?_append_right (by simp; omega), List.getElem?_replicate, if_pos]
        simp at hlt ⊢
        omega
      · cases q
  · have no : ∀ (k : Nat) (u : Slot), (ds.map Slot.fz ++ List.replicate (n - ds.length) Slot.no)[k]? = some u → u.owns = false := fun k u q => by
      have hm := List.mem_of_getElem? q
      rcases List.mem_append.mp hm with h | h
      · obtain ⟨d, _, rfl⟩ := List.mem_map.mp h
        rfl
      · rw [(List.mem_replicate.mp h).2]
        rfl
    rw [no i s h1] at o1
    cases o1
section
variable {P : Program} {w : World} {K : PySem.W.Frag} {mg : Str → Option Value} {base : Heap} {fs gs : List Str} {gl : Nat → Option D} {Pf : Nat → Option Fn}
theorem fn_step {n i : Nat} {x qual : Str} {st : Stmt} {fa : Addr} {fd : FuncData} {ps N : List Str} {fn : Fn} (hbn : ∀ s ∈ bnames, mg (Str.ofString s) = none) (hgl : ∀ i d, gl i = some d → ∃ x u v, gs[i]? = some x ∧ mg x = some u ∧ RelV v u ∧ ∀ y H, Rep K y H d v)
    (hp : Pf i = some fn) (F : Fun K x qual st fa fd) (S : FnScope N ps (defScope st)) (e1 : fn.ps = ps.length) (e2 : fn.ns = N.length) (hm : mSts ⟨N, fs, gs⟩ (defScope st) fn.body (defBody st) = true)
    (ih : ∀ i x, fs[i]? = some x → ∃ fa fd ps, mg x = some (.ref fa) ∧ PySem.W.keepIn K (.ref fa) = true ∧ Binds K fd ps [] ∧ (∀ ds g, ds.length ≠ ps.length → callN gl Pf n i ds g = .bad) ∧
      ((∀ ds g, callN gl Pf n i ds g = .bad) ∨ GFn P w K mg base n fa fd ps (spB K mg ps.length (callN gl Pf n i)))) : GFn P w K mg base (n + 1) fa fd ps (spB K mg ps.length (callN gl Pf (n + 1) i)) := by
  refine gfn_of F S (fun vs H Q E h => by obtain ⟨_, _, _, l, _⟩ := h; exact l) fun cdv A outer s H vs Q E hr hgd hsp => ?_
  obtain ⟨y, g, ds, hl, rr, G, q⟩ := hsp
  have hpl : ps.length ≤ N.length := by have := congrArg List.length S.pre; rw [List.length_take] at this; omega
  have hX : HS gl (callN gl Pf n) ⟨N, fs, gs⟩ (cxOf (L2.CX P w) P w K mg base N qual (defScope st) fa cdv A outer s H E) (fun c od _ H' => E c od H') :=
    { N := rfl, nd := S.nd, calm := rfl, units := by have := hr.un; show (A.deeper _).units + 200 < cLine; omega, guards := hgd, bn := hbn, gls := hgl, fns := fun j z hj => by
        obtain ⟨fa, fd, ps, a1, a2, a3, a4, a5⟩ := ih j z hj
        refine ⟨fa, fd, ps, a1, a2, a3, a4, ?_⟩
        rcases a5 with a5 | a5
        · exact .inl a5
        · exact .inr ⟨n, hr, a5⟩,
      tk := takes_of (E := E) rfl rfl rfl rfl, fn := fun _ => rfl, kind := S.kind, pass := passes_of rfl }
  refine ⟨_, sound_ts fn.body _ _ hX (defBody st) hm, ?_⟩
  have hdl : ds.length = fn.ps := by rw [rr.length, hl, e1]
  refine ⟨y.seal, ds.map Slot.fz ++ List.replicate (fn.ns - fn.ps) Slot.no, g, ?_, G.seal, ?_⟩
  · rw [← hdl]
    exact sr_start e2 ((Reps.anti (fun a z => seal_z.mp z) ⟨[], by simp [Gh.seal]⟩).2 _ _ rr) (by omega)
  · have q : match runFn gl (callN gl Pf n) fn ds g with
        | .ok d g' => ∀ y' H' v, Ext y H y' H' → Good K y' H' g' → Rep K y' H' d v → Q v H'
        | .exc x g' => ∀ y' H' c od, Ext y H y' H' → Good K y' H' g' → XRep K mg y' H' x c od → E c od H'
        | .bad => False := by
      simp only [callN, hp] at q
      exact q
    unfold runFn at q
    rw [if_pos hdl] at q
    show PostS K mg _ _ _ _ (exs gl (callN gl Pf n) _ fn.body g)
    cases he : exs gl (callN gl Pf n) (ds.map Slot.fz ++ List.replicate (fn.ns - fn.ps) Slot.no) fn.body g with
    | bad => rw [he] at q; exact q
    | exc z g' => rw [he] at q; exact fun y' H' c od σ' e G' xr => q _ H' c od (unseal_ext e) (unseal_good G e G') (unseal_x e xr)
    | ok o g' =>
      rw [he] at q
      cases o with
      | rt d => exact fun y' H' v e G' r => q _ H' v (unseal_ext e) (unseal_good G e G') (unseal_rep e r)
      | nx r => exact fun y' H' σ' e G' _ => q _ H' .non (unseal_ext e) (unseal_good G e G') (by simp only [Rep])
      | bk r => exact q.elim
      | ct r => exact q.elim
theorem all_fns (hbn : ∀ s ∈ bnames, mg (Str.ofString s) = none) (hgl : ∀ i d, gl i = some d → ∃ x u v, gs[i]? = some x ∧ mg x = some u ∧ RelV v u ∧ ∀ y H, Rep K y H d v)
    (hff : ∀ i x, fs[i]? = some x → ∃ fn, Pf i = some fn ∧ FF K mg fs gs x fn) : ∀ (n : Nat) (i : Nat) (x : Str), fs[i]? = some x → ∃ fa fd ps, mg x = some (.ref fa) ∧ PySem.W.keepIn K (.ref fa) = true ∧ Binds K fd ps [] ∧ (∀ ds g, ds.length ≠ ps.length → callN gl Pf n i ds g = .bad) ∧
      ((∀ ds g, callN gl Pf n i ds g = .bad) ∨ GFn P w K mg base n fa fd ps (spB K mg ps.length (callN gl Pf n i)))
  | 0, i, x, hi => by
    obtain ⟨fn, _, ⟨qual, st, fa, fd, ps, N, h1, F, B, _⟩⟩ := hff i x hi
    exact ⟨fa, fd, ps, h1, F.kp, B, fun _ _ _ => rfl, .inl fun _ _ => rfl⟩
  | n + 1, i, x, hi => by
    obtain ⟨fn, hp, ⟨qual, st, fa, fd, ps, N, h1, F, B, S, e1, e2, hm⟩⟩ := hff i x hi
    refine ⟨fa, fd, ps, h1, F.kp, B, fun ds g hl => ?_, .inr (fn_step hbn hgl hp F S e1 e2 hm fun j z hj => all_fns hbn hgl hff n j z hj)⟩
    simp only [callN, hp, runFn]
    rw [if_neg (by rw [e1]; exact hl)]
/-- the law's own def, with its object -/
theorem law_fn {n i : Nat} {x qual : Str} {st : Stmt} {fa : Addr} {fd : FuncData} {ps N : List Str} {fn : Fn} (hbn : ∀ s ∈ bnames, mg (Str.ofString s) = none) (hgl : ∀ i d, gl i = some d → ∃ x u v, gs[i]? = some x ∧ mg x = some u ∧ RelV v u ∧ ∀ y H, Rep K y H d v)
    (hff : ∀ i x, fs[i]? = some x → ∃ fn, Pf i = some fn ∧ FF K mg fs gs x fn)
    (hp : Pf i = some fn) (F : Fun K x qual st fa fd) (S : FnScope N ps (defScope st)) (e1 : fn.ps = ps.length) (e2 : fn.ns = N.length) (hm : mSts ⟨N, fs, gs⟩ (defScope st) fn.body (defBody st) = true) : GFn P w K mg base (n + 1) fa fd ps (spB K mg ps.length (callN gl Pf (n + 1) i)) :=
  fn_step hbn hgl hp F S e1 e2 hm fun j z hj => all_fns hbn hgl hff n j z hj
end

/-! ## the law's end -/
def Gh.none : Gh := { A := fun _ => False, W := fun _ => False, al := [] }
theorem none_z (a : Addr) : ¬ Gh.none.Z a := fun z => by
  rcases z with z | z | z
  · exact z
  · exact z
  · cases z
theorem law_callB {P : Program} {w : World} {K : PySem.W.Frag} {mg mb : Str → Option Value} {k : Nat} {fa a : Addr} {fd : FuncData} {x : Str} {Fl : List D → List O → Res D} {s₁ : Shared} {vs : List Value} {ns : List Int}
    (KX : K.In s₁.heap) (hns : s₁.heap.Ns mainGlobals mg) (hb : s₁.heap.Ns builtinsNs mb) (hbb : ∀ x : Str, x ≠ "__name__" → mb x = bootBuiltins x) (hlim : s₁.heap.NoLimit) (hg : s₁.gens = #[])
    (ha : s₁.heap.get? a = some { cls := .type "list", data := .seq vs.toArray }) (hi : IntsAre vs ns) (hl : ns.length ≤ sizeLine) (hr : Room k callerA)
    (F : ∀ base : Heap, K.In base → base.Ns mainGlobals mg → GFn P w K mg base k fa fd [x] (spB K mg 1 Fl)) (hbind : ∀ (s : Shared) (u : Value), BindsTo s fd ⟨[u], []⟩ [(x, u)])
    (hlaw : ∃ g', Fl [.scr ns] [] = .ok (.bl true) g') :
    codeAny (model P w) callerA (.call (.ref fa) ⟨[.ref a], []⟩) (fun r s' => r = .ok (.ret (.bool true)) ∧ OldK s₁.heap s'.heap ∧ s'.os = s₁.os ∧ AllBare s'.gens) s₁ := by
  have rv := vals_ints hi
  obtain ⟨g', hfl⟩ := hlaw
  have core : ∀ H : Hp, Only H → ScrAt K Gh.none H a (ns.map V.int) → HOk P w H s₁.heap → (∀ b u, H b = some u → b = a) → (∀ u, H a = some u → K.lookup a = .none) →
      codeAny (model P w) callerA (.call (.ref fa) ⟨[.ref a], []⟩) (fun r s' => r = .ok (.ret (.bool true)) ∧ OldK s₁.heap s'.heap ∧ s'.os = s₁.os ∧ AllBare s'.gens) s₁ := by
    intro H hO hS hok hA hK
    -- what the base keeps: all but the script
    have kp : ∀ {b : Addr} {o : Obj}, s₁.heap.get? b = some o → (H b = .none) → (hidT s₁.heap H).get? b = some o := fun e n => hidT_get e n
    have dictN : ∀ {b : Addr} {o : Obj} {es : Array DictEntry} {ep : Nat}, s₁.heap.get? b = some o → o.data = .dict es ep → H b = .none := by
      intro b o es ep e d
      cases q : H b with
      | none => rfl
      | some u =>
        have eb := hA b u q
        subst eb
        rw [ha] at e
        cases e
        exact nomatch (show Data.seq vs.toArray _ = Data.dict es ep from d)
    have ns1 : ∀ {b : Addr} {m : Str → Option Value}, s₁.heap.Ns b m → (hidT s₁.heap H).Ns b m := by
      rintro b m ⟨o, es, ep, e, d, r⟩
      exact ⟨o, es, ep, kp e (dictN e d), d, r⟩
    have kin : K.In (hidT s₁.heap H) := by
      intro b o e
      refine kp (KX b o e) ?_
      cases q : H b with
      | none => rfl
      | some u =>
        have eb := hA b u q
        subst eb
        rw [hK u q] at e; cases e
    obtain ⟨mc, c1, c2⟩ := hlim
    have md : Mod K mg (hidT s₁.heap H) := ⟨kin, ns1 hns, ⟨mb, ns1 hb, hbb⟩, ⟨mc, ns1 c1, c2⟩⟩
    have e0 : Env0 P w K mg (hidT s₁.heap H) callerA [] s₁ H := ⟨rfl, md, fun b o e => of_hidT e, Nat.le_of_eq (hidT_size _ _), trivial, fun b hb => (nomatch (show b ∈ ([] : List Addr) from hb)), hok, .of_eq hg⟩
    have hsp : spB K mg 1 Fl [.ref a] H (fun v _ => v = .bl true) fun _ _ _ => False := by
      refine ⟨Gh.none, [], [.scr ns], rfl, .cons ?_ .nil, ⟨fun b z => (none_z b z).elim, fun _ w => w.elim, fun b hb => (nomatch hb), .nil, rfl, fun n b o h => by simp [Gh.none] at h⟩, ?_⟩
      · simp only [Rep]
        exact ⟨a, rfl, hS⟩
      · rw [hfl]
        intro y' H' v _ _ r
        simpa only [Rep] using r
    refine codeAny_mono ((F _ kin (ns1 hns)).run callerA [] s₁ H ⟨[.ref a], []⟩ [.ref a] [.ref a] _ _ hr rfl e0 (hbind s₁ (.ref a)) (.cons rfl .nil) hsp) fun r s' h => ?_
    match r, h with
    | .error e, h =>
      obtain ⟨_, _, _, _, _, _, _, _, _, _, _, _, z⟩ := (show L2.CX P w [] H s₁ (fun _ _ _ => False) e s' from h)
      exact z.elim
    | .ok .next, h => exact False.elim h
    | .ok .brk, h => exact False.elim h
    | .ok .cont, h => exact False.elim h
    | .ok (.ret u), ⟨v, H', os, bare, un, hok', rv', q⟩ =>
      have q : v = .bl true := q
      subst q
      obtain rfl : u = Value.bool true := rv'
      refine ⟨rfl, OldK.of_keep fun b o e => ?_, os, bare⟩
      cases q : H b with
      | none => exact un.keep b o e q (fun z => nomatch (show b ∈ ([] : List Addr) from z)) (by simp)
      | some u =>
        rcases hO b with z | ⟨ob, xs, z⟩
        · rw [q] at z; cases z
        · obtain ⟨e1, _⟩ := hok b _ z
          obtain ⟨e2, _⟩ := hok' b _ (un.frzs b ob _ z)
          rw [e] at e1; cases e1
          exact e2
  have hsz : vs.toArray.size ≤ sizeLine := by rw [List.size_toArray, hi.length]; exact hl
  cases hk : K.lookup a with
  | some o =>
    have e := KX a o hk
    rw [ha] at e
    cases e
    exact core (fun _ => .none) (fun _ => .inl rfl) (.inr ⟨_, vs.toArray, _, hk, rfl, rfl, rfl, hsz, by simpa using rv⟩) (fun b u z => nomatch z) (fun b u z => nomatch z) fun u z => nomatch z
  | none =>
    generalize hob : ({ cls := .type "list", data := .seq vs.toArray } : Obj) = ob at ha
    have hH : ∀ b u, upd (fun _ => Option.none) a (.frz ob (.lst (ns.map V.int))) b = some u → b = a ∧ u = .frz ob (.lst (ns.map V.int)) := fun b u z => by
      by_cases e : b = a
      · subst e; rw [upd_same] at z; cases z; exact ⟨rfl, rfl⟩
      · rw [upd_ne e] at z; cases z
    have ok : HOk P w (upd (fun _ => Option.none) a (.frz ob (.lst (ns.map V.int)))) s₁.heap := fun b u z => by
      obtain ⟨e1, e2⟩ := hH b u z
      subst e1 e2
      exact ⟨ha, by rw [List.length_map]; exact hl, vs, _, rv, by rw [ha, ← hob]⟩
    rw [← hob] at ha
    exact core _ (fun b => by
      by_cases e : b = a
      · subst e; exact .inr ⟨ob, _, upd_same⟩
      · exact .inl (upd_ne e)) (.inl ⟨none_z a, ob, upd_same⟩) ok (fun b u z => (hH b u z).1) fun u _ => hk
theorem walkB {l : PySem.W.OpenLaw} {n k : Nat} {q : Program} {loose : List Str} {XP : (Str → Option Value) → Heap → Prop} {YP : World → Heap → Prop} {d : DefRec} {K : Params → PySem.W.Frag} {Fl : List D → List O → Res D} {x : Str}
    (hn : l.most = some n) (hn2 : n ≤ sizeLine) (hdf : d.params.defaults = []) (hr : Room k callerA)
    (hY : ∀ (w : World) (h : Heap), YP w h → (K w.params).In h)
    (F : ∀ (w : World) (mg : Str → Option Value) (fa : Addr) (h : Heap), (K w.params).In h → h.Ns mainGlobals mg → mg d.name = some (.ref fa) →
      ∃ fd : FuncData, (∀ (s : Shared) (u : Value), BindsTo s fd ⟨[u], []⟩ [(x, u)]) ∧
        ∀ base : Heap, (K w.params).In base → base.Ns mainGlobals mg → GFn l.prog w (K w.params) mg base k fa fd [x] (spB (K w.params) mg 1 Fl))
    (hlaw : ∀ ns : List Int, ns.length ≤ n → ∃ g', Fl [.scr ns] [] = .ok (.bl true) g') :
    PySem.W.WalkO q loose XP YP l.row.toRowW d [] (fun f vs => PySem.call f vs) := by
  refine Att.attach_call hn hdf fun w s₀ s₁ mg mb fa o pm cd doc a vs ns G Y ho hd hcd hmg hobj hints hlen hg => ?_
  have KX := hY w _ Y
  obtain ⟨fd, hb, hF⟩ := F w mg fa _ KX G.T.g hmg
  exact law_callB KX G.T.g G.T.b G.T.builtins G.T.nolimit hg hobj hints (Nat.le_trans hlen hn2) hr hF hb (hlaw ns hlen)
end Bk
end
section
set_option Elab.async false
set_option linter.all false
set_option maxRecDepth 100000
set_option maxHeartbeats 4000000
namespace Bk
open PySem L2
/-! ## the evaluator, read backwards -/
def Okk {α : Type} (R : Res α) (Q : α → List O → Prop) : Prop := match R with
  | .ok a g => Q a g
  | _ => False
section
variable {α β : Type} {R : Res α} {Q Q' : α → List O → Prop} {g : List O}
@[simp] theorem okk_ok {a : α} : Okk (.ok a g) Q = Q a g := rfl
@[simp] theorem okk_bad : Okk (.bad : Res α) Q = False := rfl
@[simp] theorem okk_exc {x : X} : Okk (.exc x g : Res α) Q = False := rfl
@[simp] theorem okk_bind {F : β → List O → Res α} {S : Res β} : Okk (S.bind F) Q = Okk S fun b g => Okk (F b g) Q := by cases S <;> rfl
@[simp] theorem okk_lift {o : Option α} : Okk (lift o g) Q = ∃ a, o = some a ∧ Q a g := by
  cases o with
  | none => simp [lift, Okk]
  | some a => simp [lift, Okk]
@[simp] theorem okk_if {c : Prop} [Decidable c] {a b : Res α} : Okk (if c then a else b) Q = if c then Okk a Q else Okk b Q := by split <;> rfl
@[simp] theorem okk_noX : Okk (noX R) Q = Okk R Q := by cases R <;> rfl
theorem Okk.mono (h : Okk R Q) (k : ∀ a g, Q a g → Q' a g) : Okk R Q' := by
  cases R with
  | ok a g => exact k a g h
  | _ => exact h.elim
theorem Okk.ex (h : Okk R Q) : ∃ a g, R = .ok a g ∧ Q a g := by
  cases R with
  | ok a g => exact ⟨a, g, rfl, h⟩
  | _ => exact h.elim
@[simp] theorem okk_asB {d : D} {Q : Bool → List O → Prop} : Okk (asB d g) Q = ∃ b, d = .bl b ∧ Q b g := by
  cases d <;> simp [asB, Okk]
end
/-- a comprehension: an invariant over what is done -/
theorem okk_loopC {f : List D → D → List O → Res (List D)} {Q : List D → List O → Prop} (I : Nat → List D → List O → Prop) {xs : List D} {g : List O} (h0 : I 0 [] g)
    (hs : ∀ i d acc g, xs[i]? = some d → I i acc g → Okk (f acc d g) (I (i + 1))) (hd : ∀ acc g, I xs.length acc g → Q acc g) : Okk (loopC f xs [] g) Q := by
  have go : ∀ (ys : List D) (i : Nat) (acc : List D) (g : List O), xs.drop i = ys → i ≤ xs.length → I i acc g → Okk (loopC f ys acc g) Q := by
    intro ys
    induction ys with
    | nil =>
      intro i acc g hx hi h
      have : xs.length ≤ i := by
        have := congrArg List.length hx
        simp at this
        omega
      have e : i = xs.length := by omega
      subst e
      exact hd acc g h
    | cons d ys ih =>
      intro i acc g hx hi h
      have hlt : i < xs.length := by
        by_cases q : i < xs.length
        · exact q
        · rw [List.drop_eq_nil_of_le (by omega)] at hx; cases hx
      rw [List.drop_eq_getElem_cons hlt] at hx
      injection hx with e1 e2
      unfold loopC
      rw [okk_bind]
      exact (hs i d acc g (by rw [List.getElem?_eq_getElem hlt, e1]) h).mono fun acc' g' h' => ih (i + 1) acc' g' e2 hlt h'
  exact go xs 0 [] g rfl (Nat.zero_le _) h0
/-- a for: the same; R for what returns -/
theorem okk_loopF {f : List Slot → D → List O → Res Out} {Q : Out → List O → Prop} (I : Nat → List Slot → List O → Prop) {xs : List D} {r : List Slot} {g : List O} (h0 : I 0 r g)
    (hs : ∀ i d r g, xs[i]? = some d → I i r g → Okk (f r d g) fun o g' => match o with
      | .nx r' => I (i + 1) r' g'
      | .ct r' => I (i + 1) r' g'
      | .bk r' => Q (.nx r') g'
      | .rt d => Q (.rt d) g') (hd : ∀ r g, I xs.length r g → Q (.nx r) g) : Okk (loopF f xs r g) Q := by
  have go : ∀ (ys : List D) (i : Nat) (r : List Slot) (g : List O), xs.drop i = ys → i ≤ xs.length → I i r g → Okk (loopF f ys r g) Q := by
    intro ys
    induction ys with
    | nil =>
      intro i r g hx hi h
      have : xs.length ≤ i := by
        have := congrArg List.length hx
        simp at this
        omega
      have e : i = xs.length := by omega
      subst e
      exact hd r g h
    | cons d ys ih =>
      intro i r g hx hi h
      have hlt : i < xs.length := by
        by_cases q : i < xs.length
        · exact q
        · rw [List.drop_eq_nil_of_le (by omega)] at hx; cases hx
      rw [List.drop_eq_getElem_cons hlt] at hx
      injection hx with e1 e2
      unfold loopF
      rw [okk_bind]
      refine (hs i d r g (by rw [List.getElem?_eq_getElem hlt, e1]) h).mono fun o g' h' => ?_
      cases o with
      | nx r' => exact ih (i + 1) r' g' e2 hlt h'
      | ct r' => exact ih (i + 1) r' g' e2 hlt h'
      | bk r' => exact h'
      | rt d => exact h'
  exact go xs 0 r g rfl (Nat.zero_le _) h0

/-! ## the operations on known values -/
section
variable {i j : Int} {xs ys : List D} {x y : Str} {a b : Bool} {d : D} {g : List O} {n : Nat}
@[simp] theorem bo_add : binop .add (.int i) (.int j) = some (.int (i + j)) := rfl
@[simp] theorem bo_sub : binop .sub (.int i) (.int j) = some (.int (i - j)) := rfl
theorem bo_mul (h : (-(2 ^ 64) < i ∧ i < 2 ^ 64) ∨ (-(2 ^ 64) < j ∧ j < 2 ^ 64)) : binop .mul (.int i) (.int j) = some (.int (i * j)) := by simp only [binop]; rw [if_pos h]
theorem bo_fdiv (h : 0 < j ∧ j < 2 ^ 64) : binop .fdiv (.int i) (.int j) = some (.int (i / j)) := by simp only [binop]; rw [if_pos h]
theorem bo_mod (h : 0 < j) : binop .mod (.int i) (.int j) = some (.int (i % j)) := by simp only [binop]; rw [if_pos h]
theorem bo_pow (h : 0 ≤ j ∧ j ≤ 1000 ∧ i.natAbs < 2 ^ 64) : binop .pow (.int i) (.int j) = some (.int (i ^ j.toNat)) := by simp only [binop]; rw [if_pos h]
theorem bo_tup (h : xs.length + ys.length ≤ LIM) : binop .add (.tup xs) (.tup ys) = some (.tup (xs ++ ys)) := by simp only [binop, mkT]; rw [if_pos (by rw [List.length_append]; exact h)]
theorem bo_lst (h : xs.length + ys.length ≤ LIM) : binop .add (.lst xs) (.lst ys) = some (.lst (xs ++ ys)) := by simp only [binop, mkL]; rw [if_pos (by rw [List.length_append]; exact h)]
@[simp] theorem co_lt : cmpop .lt (.int i) (.int j) = some (decide (i < j)) := rfl
@[simp] theorem co_le : cmpop .le (.int i) (.int j) = some (decide (i ≤ j)) := rfl
@[simp] theorem co_gt : cmpop .gt (.int i) (.int j) = some (decide (j < i)) := rfl
@[simp] theorem co_ge : cmpop .ge (.int i) (.int j) = some (decide (j ≤ i)) := rfl
@[simp] theorem co_eqs : cmpop .eq (.str x) (.str y) = some (x == y) := rfl
@[simp] theorem co_nes : cmpop .ne (.str x) (.str y) = some (!(x == y)) := rfl
@[simp] theorem co_eqi : cmpop .eq (.int i) (.int j) = some (i == j) := rfl
@[simp] theorem co_nei : cmpop .ne (.int i) (.int j) = some (!(i == j)) := rfl
@[simp] theorem co_isN : cmpop .isN d .non = some d.isNon := by cases d <;> rfl
@[simp] theorem co_notN : cmpop .notN d .non = some (!d.isNon) := by cases d <;> rfl
@[simp] theorem bg_of {f : Bi} (h : f ≠ .len) : biG g f xs = biD f xs := by
  unfold biG
  split
  · exact absurd rfl h
  · rfl
@[simp] theorem bg_lenL : biG g .len [.lst xs] = some (.int xs.length) := rfl
@[simp] theorem bg_lenT : biG g .len [.tup xs] = some (.int xs.length) := rfl
theorem bg_lenR (h : g[n]? = some (.lst xs)) : biG g .len [.ref n] = some (.int xs.length) := by simp only [biG, h]
@[simp] theorem bi_lenL : biD .len [.lst xs] = some (.int xs.length) := rfl
@[simp] theorem bi_lenT : biD .len [.tup xs] = some (.int xs.length) := rfl
@[simp] theorem bi_abs : biD .abs [.int i] = some (.int i.natAbs) := rfl
@[simp] theorem bi_tupL : biD .tuple [.lst xs] = some (.tup xs) := rfl
@[simp] theorem bi_tupT : biD .tuple [.tup xs] = some (.tup xs) := rfl
@[simp] theorem bi_lstL : biD .list [.lst xs] = some (.lst xs) := rfl
@[simp] theorem bi_lstT : biD .list [.tup xs] = some (.lst xs) := rfl
@[simp] theorem bi_intB : biD .int [.bl b] = some (.int (if b then 1 else 0)) := rfl
@[simp] theorem bi_intI : biD .int [.int i] = some (.int i) := rfl
@[simp] theorem bi_max : biD .max [.int i, .int j] = some (.int (if j > i then j else i)) := rfl
@[simp] theorem bi_min : biD .min [.int i, .int j] = some (.int (if j < i then j else i)) := rfl
theorem bi_repr (h : shw 60 d = true) (h2 : (shown d).length ≤ 16000000) : biD .repr [d] = some (.str (shown d)) := by simp only [biD]; rw [if_pos (by simp [h, h2])]
@[simp] theorem ixd_l : ixD (.lst xs) (.int i) = atI xs i := rfl
@[simp] theorem ixd_t : ixD (.tup xs) (.int i) = atI xs i := rfl
@[simp] theorem de_lst : deref g (.lst xs) = .lst xs := rfl
@[simp] theorem de_tup : deref g (.tup xs) = .tup xs := rfl
theorem de_ref (h : g[n]? = some (.lst xs)) : deref g (.ref n) = .lst xs := by simp only [deref, h]
@[simp] theorem sld_l {lo hi : Option Int} : sliceD (.lst xs) lo hi = some (.lst (cut xs lo hi)) := rfl
@[simp] theorem sld_t {lo hi : Option Int} : sliceD (.tup xs) lo hi = some (.tup (cut xs lo hi)) := rfl
@[simp] theorem op_none : optI [] = some none := rfl
@[simp] theorem op_int : optI [.int i] = some (some i) := rfl
theorem mk_t (h : xs.length ≤ LIM) : mkT xs = some (.tup xs) := if_pos h
theorem mk_l (h : xs.length ≤ LIM) : mkL xs = some (.lst xs) := if_pos h
@[simp] theorem tg_nm {r : List Slot} {k : Nat} : setTg r (.nm k) d = some (r.set k (.fz d)) := rfl
theorem at_nat {α : Type} {l : List α} {z : α} {k : Nat} (h : l[k]? = some z) : atI l (k : Int) = some z := by
  have hl := (List.getElem?_eq_some_iff.mp h).1
  unfold atI ixN
  rw [if_pos (Int.natCast_nonneg k), if_pos (by omega)]
  simpa using h
theorem at_int {α : Type} {l : List α} {z : α} {k : Int} (h0 : 0 ≤ k) (h : l[k.toNat]? = some z) : atI l k = some z := by
  have e : k = (k.toNat : Int) := by omega
  rw [e]
  exact at_nat h
theorem set_int {α : Type} {l : List α} {z : α} {k : Int} (h0 : 0 ≤ k) (h : k.toNat < l.length) : setAt l k z = some (l.set k.toNat z) := by
  unfold setAt ixN
  rw [if_pos h0, if_pos (by omega)]
  rfl
end
/-! ## the decks -/
/-- the deck at o: its cells at i, at most B draws up to now -/
def DK (g : List O) (o B : Nat) : Prop := ∃ (i : Nat) (cells : List Int) (c : Int), o ≠ i ∧ g[o]? = some (.lst [.ref i, .int c]) ∧ g[i]? = some (.lst (cells.map D.int)) ∧ 0 ≤ c ∧ c ≤ (B : Int) ∧ ∀ x ∈ cells, 0 ≤ x
theorem DK.le {g : List O} {o B B' : Nat} (h : DK g o B) (hb : B ≤ B') : DK g o B' := by
  obtain ⟨i, cells, c, h1, h2, h3, h4, h5, h6⟩ := h
  exact ⟨i, cells, c, h1, h2, h3, h4, by omega, h6⟩
def deckFn : Fn := { ps := 1, ns := 2, body := [.ret (.mk (.lst [.mk (.comp (.bi .abs [.var 1]) (.nm 1) .seq [.slice (.var 0) [] [.int 63]] []), .int 0]))] }
def drawFnA : Fn := { ps := 2, ns := 4, body := [.setR (.var 0) (.int 1) (.bin .add (.ix (.var 0) (.int 1)) (.int 1)), .asg (.tp [2, 3]) (.tup [.int 0, .neg (.int 1)]), .iff (.cmp .gt (.bi .len [.ix (.var 0) (.int 0)]) (.int 0)) [.asg (.nm 3) (.bin .mod (.ix (.var 0) (.int 1)) (.bi .len [.ix (.var 0) (.int 0)])), .asg (.nm 2) (.ix (.ix (.var 0) (.int 0)) (.var 3))] [], .iff (.cmp .ge (.var 2) (.bin .pow (.int 10) (.int 18))) [.setR (.ix (.var 0) (.int 0)) (.var 3) (.bin .fdiv (.var 2) (.var 1)), .ret (.bin .mod (.var 2) (.var 1))] [], .ret (.bin .mod (.bin .fdiv (.bin .mod (.bin .pow (.bin .add (.bin .add (.bin .mod (.var 2) (.int 2147483587)) (.bin .mul (.int 7919) (.ix (.var 0) (.int 1)))) (.int 1)) (.int 5)) (.int 2147483647)) (.int 7)) (.var 1))] }
theorem draw_okA {gl : Nat → Option D} {Pf : Nat → Option Fn} {f n o B : Nat} {k : Int} {g : List O} (hP : Pf f = some drawFnA) (h : DK g o B) (hk : 0 < k) (hk2 : k < 2 ^ 64) (hB : B < 2 ^ 40) :
    Okk (callN gl Pf (n + 1) f [.ref o, .int k] g) fun d g' => ∃ v, d = .int v ∧ 0 ≤ v ∧ v < k ∧ DK g' o (B + 1) := by
  obtain ⟨i, cells, c, h1, h2, h3, h4, h5, h6⟩ := h
  unfold callN
  rw [hP]
  have hat0 : ∀ c : Int, atI [D.ref i, D.int c] 0 = some (.ref i) := fun _ => rfl
  have hat1 : ∀ c : Int, atI [D.ref i, D.int c] 1 = some (.int c) := fun _ => rfl
  have hset : ∀ z : D, setAt [D.ref i, D.int c] 1 z = some [.ref i, z] := fun _ => rfl
  have ht : mkT [D.int 0, D.int (-1)] = some (.tup [D.int 0, D.int (-1)]) := rfl
  have ho : o < g.length := (List.getElem?_eq_some_iff.mp h2).1
  have g1 : (g.set o (.lst [.ref i, .int (c + 1)]))[o]? = some (.lst [.ref i, .int (c + 1)]) := by simp [ho]
  have g2 : (g.set o (.lst [.ref i, .int (c + 1)]))[i]? = some (.lst (cells.map D.int)) := by rw [List.getElem?_set_ne h1]; exact h3
  simp [runFn, drawFnA, exs, ex, ev, evs, de_ref h2, h2, hat0, hat1, hset, ht, setTg, de_ref g1, de_ref g2, bg_lenR g2, bo_pow]
  -- what is returned where no cell is big
  have out : ∀ z : Int, 0 ≤ z → ∃ a, binop Bop.mod (D.int z) (D.int 2147483587) = some a ∧ ∃ a_2, binop Bop.mul (D.int 7919) (D.int (c + 1)) = some a_2 ∧ ∃ a_3, binop Bop.add a a_2 = some a_3 ∧ ∃ a, binop Bop.add a_3 (D.int 1) = some a ∧
      ∃ a_4, binop Bop.pow a (D.int 5) = some a_4 ∧ ∃ a, binop Bop.mod a_4 (D.int 2147483647) = some a ∧ ∃ a_5, binop Bop.fdiv a (D.int 7) = some a_5 ∧ ∃ a, binop Bop.mod a_5 (D.int k) = some a ∧
      ∃ v, a = D.int v ∧ 0 ≤ v ∧ v < k ∧ DK (g.set o (O.lst [D.ref i, D.int (c + 1)])) o (B + 1) := by
    intro z hz
    have z1 := Int.emod_nonneg z (show (2147483587 : Int) ≠ 0 by decide)
    have z2 := Int.emod_lt_of_pos z (show (0 : Int) < 2147483587 by decide)
    refine ⟨_, bo_mod (by decide), _, bo_mul (.inl (by decide)), _, bo_add, _, bo_add, _, bo_pow ⟨by decide, by decide, by omega⟩, _, bo_mod (by decide), _, bo_fdiv (by decide), _, bo_mod hk, _, rfl, Int.emod_nonneg _ (by omega), Int.emod_lt_of_pos _ hk, i, cells, c + 1, h1, g1, g2, by omega, by omega, h6⟩
  by_cases hl : 0 < cells.length
  · rw [if_pos hl]
    have i1 := Int.emod_nonneg (c + 1) (show ((cells.length : Nat) : Int) ≠ 0 by omega)
    have i2 := Int.emod_lt_of_pos (c + 1) (show (0 : Int) < ((cells.length : Nat) : Int) by omega)
    generalize hq : (c + 1) % ((cells.length : Nat) : Int) = q at i1 i2
    have hlt : q.toNat < cells.length := by omega
    have hz := h6 _ (List.getElem_mem hlt)
    generalize hze : cells[q.toNat] = z at hz
    have hat : atI (cells.map D.int) q = some (.int z) := at_int i1 (by rw [List.getElem?_map, List.getElem?_eq_getElem hlt, hze]; rfl)
    refine ⟨_, bo_mod (by omega), .int z, by rw [hq]; exact hat, ?_⟩
    by_cases hb : z < 1000000000000000000
    · exact .inl ⟨by simp; omega, out z hz⟩
    · refine .inr ⟨by simp; omega, _, bo_fdiv ⟨hk, hk2⟩, ?_⟩
      have hs : setAt (cells.map D.int) q (D.int (z / k)) = some ((cells.set q.toNat (z / k)).map D.int) := by
        rw [set_int i1 (by rw [List.length_map]; exact hlt), List.map_set]
      have hi2 : i < g.length := (List.getElem?_eq_some_iff.mp h3).1
      rw [hq]
      simp only [g2, hs, lift_some, Res.bind_ok, okk_ok, okk_bind, List.getElem?_cons_succ, List.getElem?_cons_zero, bo_mod hk]
      refine ⟨_, rfl, Int.emod_nonneg _ (by omega), Int.emod_lt_of_pos _ hk, i, cells.set q.toNat (z / k), c + 1, h1, ?_, ?_, by omega, by omega, fun x hx => ?_⟩
      · rw [List.getElem?_set_ne (Ne.symm h1)]; exact g1
      · rw [List.getElem?_set_self (by rw [List.length_set]; exact hi2)]
      · rcases List.mem_or_eq_of_mem_set hx with h | h
        · exact h6 x h
        · rw [h]; exact Int.ediv_nonneg hz (by omega)
  · rw [if_neg hl]
    exact out 0 (by decide)
end Bk
end
section
set_option Elab.async false
set_option linter.all false
set_option maxRecDepth 100000
set_option maxHeartbeats 4000000
namespace Bk
open PySem L2
/-! ## small values: what is shown of them is short -/
def keyV : Key → Bool
  | .inl i => decide (i.natAbs < 10 ^ 40)
  | .inr x => decide (x.length ≤ 60) && x.cps.toList.all fun c => decide (c < 16 ^ 8)
mutual
def okv : D → Bool
  | .non => true | .bl _ => true | .int i => decide (i.natAbs < 10 ^ 40) | .str x => decide (x.length ≤ 60) && x.cps.toList.all fun c => decide (c < 16 ^ 8)
  | .tup ds => okvs ds
  | .lst ds => okvs ds
  | .dct ks ds => okvs ds && ks.all keyV && decide (ks.length = ds.length)
  | .ref _ => false
  | .scr _ => false
def okvs : List D → Bool
  | [] => true
  | d :: ds => okv d && okvs ds
end
mutual
def dep : D → Nat
  | .tup ds => deps ds + 1
  | .lst ds => deps ds + 1
  | .dct _ ds => deps ds + 1
  | _ => 0
def deps : List D → Nat
  | [] => 0
  | d :: ds => max (dep d) (deps ds)
end
mutual
def nod : D → Nat
  | .tup ds => nods ds + 1
  | .lst ds => nods ds + 1
  | .dct ks ds => nods ds + ks.length + 1
  | _ => 1
def nods : List D → Nat
  | [] => 0
  | d :: ds => nod d + nods ds
end
theorem p1900 {n : Nat} (h : n < 10 ^ 40) : n < 2 ^ 1900 := by
  have h1 : (10 : Nat) ^ 40 < 2 ^ 133 := by decide
  exact Nat.lt_of_lt_of_le (Nat.lt_trans h h1) (Nat.pow_le_pow_right (by decide) (by decide))
theorem keyV_S {k : Key} (h : keyV k = true) : keyS k = true := by
  cases k with
  | inl i => exact decide_eq_true (p1900 (of_decide_eq_true h))
  | inr x => rfl
mutual
theorem okv_shw : ∀ (d : D) (n : Nat), okv d = true → dep d ≤ n → shw n d = true
  | .non, n, _, _ => by cases n <;> rfl
  | .bl _, n, _, _ => by cases n <;> rfl
  | .int i, n, h, _ => by
    have h1 : i.natAbs < 2 ^ 1900 := p1900 (of_decide_eq_true (by simpa only [okv] using h))
    cases n <;> exact decide_eq_true h1
  | .str x, n, h, _ => by
    simp only [okv, Bool.and_eq_true, decide_eq_true_eq] at h
    have h1 : decide (x.length ≤ 1000) = true := decide_eq_true (by omega)
    cases n <;> (simp only [shw]; rw [h1, h.2]; rfl)
  | .tup ds, n, h, hd => by
    simp only [okv] at h
    simp only [dep] at hd
    cases n with
    | zero => omega
    | succ n => simp only [shw]; exact okvs_shw ds n h (by omega)
  | .lst ds, n, h, hd => by
    simp only [okv] at h
    simp only [dep] at hd
    cases n with
    | zero => omega
    | succ n => simp only [shw]; exact okvs_shw ds n h (by omega)
  | .dct ks ds, n, h, hd => by
    simp only [okv, Bool.and_eq_true] at h
    simp only [dep] at hd
    cases n with
    | zero => omega
    | succ n =>
      simp only [shw, Bool.and_eq_true]
      refine ⟨⟨okvs_shw ds n h.1.1 (by omega), h.2⟩, ?_⟩
      rw [List.all_eq_true] at h ⊢
      exact fun k hk => keyV_S (h.1.2 k hk)
  | .ref _, _, h, _ => by simp [okv] at h
  | .scr _, _, h, _ => by simp [okv] at h
theorem okvs_shw : ∀ (ds : List D) (n : Nat), okvs ds = true → deps ds ≤ n → shws n ds = true
  | [], _, _, _ => rfl
  | d :: ds, n, h, hd => by
    simp only [okvs, Bool.and_eq_true] at h
    simp only [deps] at hd
    simp only [shws, Bool.and_eq_true]
    exact ⟨okv_shw d n h.1 (by omega), okvs_shw ds n h.2 (by omega)⟩
end
theorem wt_int {i : Int} (h : i.natAbs < 10 ^ 40) : PyData.weight (.int i) ≤ 133 := by
  simp only [PyData.weight]
  split
  · omega
  · rename_i h0
    have hn : i.natAbs ≠ 0 := by
      intro e
      have : i = 0 := by omega
      subst this
      exact h0 rfl
    have h1 : (10 : Nat) ^ 40 < 2 ^ 133 := by decide
    have := (Nat.log2_lt hn (k := 133)).mpr (Nat.lt_trans h h1)
    omega
theorem ls_int {i : Int} (h : i.natAbs < 10 ^ 40) : (PyData.shown (.int i)).length ≤ 60 := by
  simp only [PyData.shown]
  have := int_text_length_le10 (a := i) (k := 40) (by decide) h
  rw [ofString_length]
  omega
mutual
theorem okv_short : ∀ d : D, okv d = true → (pyd d).leavesShort 60 = true ∧ (pyd d).weight + 1 ≤ 200 * nod d
  | .non, _ => by simp [pyd, PyData.leavesShort, PyData.weight, nod]
  | .bl _, _ => by simp [pyd, PyData.leavesShort, PyData.weight, nod]
  | .int i, h => by
    have h1 : i.natAbs < 10 ^ 40 := of_decide_eq_true (by simpa only [okv] using h)
    simp only [pyd, PyData.leavesShort, nod]
    exact ⟨decide_eq_true (ls_int h1), by have := wt_int h1; omega⟩
  | .str x, h => by
    simp only [okv, Bool.and_eq_true, decide_eq_true_eq] at h
    simp only [pyd, PyData.leavesShort, nod, PyData.weight]
    exact ⟨h.2, by have h1 : x.cps.size ≤ 60 := h.1; omega⟩
  | .tup ds, h => by
    simp only [okv] at h
    obtain ⟨a, b⟩ := okvs_short ds h
    simp only [pyd, PyData.leavesShort, nod, PyData.weight]
    exact ⟨a, by omega⟩
  | .lst ds, h => by
    simp only [okv] at h
    obtain ⟨a, b⟩ := okvs_short ds h
    simp only [pyd, PyData.leavesShort, nod, PyData.weight]
    exact ⟨a, by omega⟩
  | .dct ks ds, h => by
    simp only [okv, Bool.and_eq_true] at h
    obtain ⟨a, b⟩ := okvs_short ds h.1.1
    simp only [pyd, PyData.leavesShort, nod, PyData.weight]
    have go : ∀ (ks : List Key) (es : List PyData), ks.all keyV = true → PyData.leavesShortAll 60 es = true → PyData.leavesShortKv 60 ((ks.map keyP).zip es) = true ∧ PyData.weightKv ((ks.map keyP).zip es) ≤ PyData.weightAll es + 200 * ks.length := by
      intro ks
      induction ks with
      | nil => intro es _ _; exact ⟨rfl, by simp [PyData.weightKv]⟩
      | cons k ks ih =>
        intro es hk he
        cases es with
        | nil => exact ⟨rfl, by simp [PyData.weightKv]⟩
        | cons e es =>
          simp only [List.all_cons, Bool.and_eq_true] at hk
          simp only [PyData.leavesShortAll, Bool.and_eq_true] at he
          obtain ⟨p, q⟩ := ih es hk.2 he.2
          have kw : (keyP k).leavesShort 60 = true ∧ (keyP k).weight ≤ 140 := by
            cases k with
            | inl i =>
              have h1 : i.natAbs < 10 ^ 40 := of_decide_eq_true hk.1
              exact ⟨by simp only [keyP, PyData.leavesShort]; exact decide_eq_true (ls_int h1), Nat.le_trans (wt_int h1) (by decide)⟩
            | inr x =>
              have h1 := hk.1
              simp only [keyV, Bool.and_eq_true, decide_eq_true_eq] at h1
              exact ⟨by simp only [keyP, PyData.leavesShort]; exact h1.2, by simp only [keyP, PyData.weight]; have h2 : x.cps.size ≤ 60 := h1.1; omega⟩
          simp only [List.map_cons, List.zip_cons_cons, PyData.leavesShortKv, PyData.weightKv, PyData.weightAll, Bool.and_eq_true, List.length_cons]
          exact ⟨⟨⟨kw.1, he.1⟩, p⟩, by omega⟩
    obtain ⟨p, q⟩ := go ks (pyds ds) h.1.2 a
    exact ⟨p, by omega⟩
  | .ref _, h => by simp [okv] at h
  | .scr _, h => by simp [okv] at h
theorem okvs_short : ∀ ds : List D, okvs ds = true → PyData.leavesShortAll 60 (pyds ds) = true ∧ PyData.weightAll (pyds ds) ≤ 200 * nods ds
  | [], _ => by simp [pyds, PyData.leavesShortAll, PyData.weightAll]
  | d :: ds, h => by
    simp only [okvs, Bool.and_eq_true] at h
    obtain ⟨a, b⟩ := okv_short d h.1
    obtain ⟨p, q⟩ := okvs_short ds h.2
    simp only [pyds, PyData.leavesShortAll, PyData.weightAll, nods, List.length_cons, Bool.and_eq_true]
    exact ⟨⟨a, p⟩, by omega⟩
end
theorem okv_len {d : D} (h : okv d = true) : (shown d).length ≤ 12400 * nod d := by
  obtain ⟨a, b⟩ := okv_short d h
  have := PyData.shown_le 60 (by decide) (pyd d) a
  unfold shown
  omega
theorem bi_reprV {d : D} (h : okv d = true) (hd : dep d ≤ 60) (hn : nod d ≤ 1290) : biD .repr [d] = some (.str (shown d)) := by
  refine bi_repr (okv_shw d 60 h hd) ?_
  have := okv_len h
  omega
end Bk
end
section
set_option Elab.async false
set_option linter.all false
set_option maxRecDepth 100000
set_option maxHeartbeats 4000000
namespace Bk
open PySem L2
/-! ## functions that many laws share -/
section
variable {gl : Nat → Option D} {Pf : Nat → Option Fn} {f n : Nat} {g : List O}
/-- a function's call, to its body -/
theorem okk_call {fn : Fn} {ds : List D} {Q : D → List O → Prop} (hP : Pf f = some fn) (hl : ds.length = fn.ps)
    (h : Okk (exs gl (callN gl Pf n) (ds.map Slot.fz ++ List.replicate (fn.ns - fn.ps) Slot.no) fn.body g) fun o g' => match o with
      | .rt d => Q d g'
      | .nx _ => Q .non g'
      | _ => False) : Okk (callN gl Pf (n + 1) f ds g) Q := by
  unfold callN
  rw [hP]
  simp only [runFn]
  rw [if_pos hl, okk_bind]
  refine h.mono fun o g' h' => ?_
  cases o <;> exact h'
theorem deck_ok {ns : List Int} (hP : Pf f = some deckFn) : Okk (callN gl Pf (n + 1) f [.scr ns] []) fun d g' => d = .ref 1 ∧ DK g' 1 0 := by
  refine okk_call hP rfl ?_
  have hc : ∀ (xs : List Int) (acc : List D) (g : List O), acc.length + xs.length ≤ 100 → loopC (fun acc d g => (lift (biG g Bi.abs [d]) g).bind fun e g => if acc.length < LIM then Res.ok (acc ++ [e]) g else Res.bad) (xs.map D.int) acc g = .ok (acc ++ xs.map fun x => D.int x.natAbs) g := by
    intro xs
    induction xs with
    | nil => intro acc g _; simp [loopC]
    | cons x xs ih =>
      intro acc g hl
      simp only [List.length_cons] at hl
      simp only [List.map_cons, loopC]
      rw [bg_of (by decide), bi_abs]
      simp only [lift_some, Res.bind_ok]
      rw [if_pos (show acc.length < LIM from Nat.lt_of_lt_of_le (show acc.length < 101 by omega) (by decide))]
      simp only [Res.bind_ok]
      rw [ih _ _ (by simp; omega)]
      simp
  have hlen : (cut ns none (some 63)).length ≤ 63 := by
    unfold cut
    rw [List.length_take]
    have h1 : HT.sIx ns.length ns.length (some 63) ≤ 63 := by
      unfold HT.sIx
      simp
      omega
    omega
  simp only [deckFn, exs, ex, ev, evs, List.map_cons, List.map_nil, List.replicate, List.cons_append, List.nil_append, List.getElem?_cons_zero, Res.bind_ok, Nat.reduceSub, op_none, op_int, lift_some, iterD, items, Tg.slots, wipeR, tg_nm, evIf, if_true, List.set_cons_succ, List.set_cons_zero, List.getElem?_cons_succ]
  have e1 : sliceD (.scr ns) none (some 63) = some (.lst ((cut ns none (some 63)).map .int)) := rfl
  rw [e1]
  simp only [lift_some, Res.bind_ok, items]
  rw [hc _ _ _ (by simp; omega)]
  simp only [noX, Res.bind_ok, List.nil_append, List.length_nil, List.length_cons]
  have e2 : ∀ d e : D, mkL [d, e] = some (.lst [d, e]) := fun _ _ => rfl
  rw [e2]
  simp only [lift_some, Res.bind_ok, okk_ok]
  refine ⟨rfl, 0, (cut ns none (some 63)).map fun x => (x.natAbs : Int), 0, by decide, rfl, ?_, by decide, by decide, fun x hx => ?_⟩
  · simp [List.map_map]
  · obtain ⟨z, _, rfl⟩ := List.mem_map.mp hx
    exact Int.natCast_nonneg _
/-- no address is told -/
def plain : D → Bool
  | .ref _ => false
  | .scr _ => false
  | _ => true
def isNum (lo hi : Int) : D → Bool
  | .int i => decide (lo ≤ i) && decide (i ≤ hi)
  | _ => false
def numFn : Fn := { ps := 3, ns := 3, body := [.ret (.band [.isi (.var 0) .int, .not (.isi (.var 0) .bool), .chain .le .le (.var 1) (.var 0) (.var 2)])] }
theorem num_ok {d : D} {lo hi : Int} (hP : Pf f = some numFn) (hd : plain d = true) : callN gl Pf (n + 1) f [d, .int lo, .int hi] g = .ok (.bl (isNum lo hi d)) g := by
  unfold callN
  rw [hP]
  simp only [runFn, numFn, exs, ex, ev, evs, evB, List.map_cons, List.map_nil, List.length_cons, List.length_nil, List.replicate, List.cons_append, List.nil_append, List.getElem?_cons_zero, List.getElem?_cons_succ, Res.bind_ok, Nat.reduceSub, Nat.reduceAdd, if_true]
  cases d with
  | ref k => cases hd
  | scr k => cases hd
  | int i =>
    simp only [isTy, lift_some, Res.bind_ok, asB, isNum, co_le]
    cases h1 : decide (lo ≤ i) <;> cases h2 : decide (i ≤ hi) <;> rfl
  | bl b => rfl
  | non => rfl
  | str x => rfl
  | tup xs => rfl
  | lst xs => rfl
  | dct ks xs => rfl
/-- one of a few, by a number that was drawn -/
theorem pick {xs : List D} {v : Int} {Q : D → Prop} (h0 : 0 ≤ v) (h1 : v < xs.length) (h : ∀ d ∈ xs, Q d) : ∃ d, atI xs v = some d ∧ Q d := by
  have hl : v.toNat < xs.length := by omega
  exact ⟨xs[v.toNat], at_int h0 (List.getElem?_eq_getElem hl), h _ (List.getElem_mem hl)⟩
def towerFnA (fd : Nat) : Fn := { ps := 3, ns := 8, body := [.asg (.tp [5, 6]) (.tup [.ix (.lst [.call fd [.var 0, .bin .add (.var 1) (.int 1)], .var 1]) (.call fd [.var 0, .int 2]), .ix (.lst [.int 4, .int 12, .var 2]) (.call fd [.var 0, .int 3])]), .asg (.nm 3) (.ix (.lst [.int 0, .int 0, .bi .max [.int 0, .bin .sub (.var 2) (.var 6)]]) (.call fd [.var 0, .int 3])), .asg (.nm 4) (.ix (.lst [.int 1, .bin .add (.int 1) (.call fd [.var 0, .int 4]), .bin .add (.int 1) (.call fd [.var 0, .var 6]), .bin .add (.int 1) (.call fd [.var 0, .var 2])]) (.call fd [.var 0, .int 4])), .ret (.tup [.var 4, .bi .tuple [.comp (.bin .add (.bin .add (.int 1) (.var 3)) (.call fd [.var 0, .var 6])) (.nm 7) .range [.var 5] []]])] }
theorem tower_okA {fd o B : Nat} {most high : Int} (hP : Pf f = some (towerFnA fd)) (hd : Pf fd = some drawFnA) (h : DK g o B) (hB : B < 2 ^ 39) (m0 : 0 ≤ most) (m1 : most ≤ 1000) (k0 : 12 ≤ high) (k1 : high < 2 ^ 60) :
    Okk (callN gl Pf (n + 2) f [.ref o, .int most, .int high] g) fun d g' => ∃ (e : Int) (ws : List Int), d = .tup [.int e, .tup (ws.map D.int)] ∧ 1 ≤ e ∧ e ≤ high ∧ (ws.length : Int) ≤ most ∧ (∀ w ∈ ws, 1 ≤ w ∧ w ≤ high) ∧ DK g' o (B + 2000) := by
  refine okk_call hP rfl ?_
  have L2' : ∀ a b : D, mkL [a, b] = some (.lst [a, b]) := fun _ _ => rfl
  have L3 : ∀ a b c : D, mkL [a, b, c] = some (.lst [a, b, c]) := fun _ _ _ => rfl
  have L4 : ∀ a b c d : D, mkL [a, b, c, d] = some (.lst [a, b, c, d]) := fun _ _ _ _ => rfl
  have T2 : ∀ a b : D, mkT [a, b] = some (.tup [a, b]) := fun _ _ => rfl
  have tg2 : ∀ (r : List Slot) (a b : D), setTg r (.tp [5, 6]) (.tup [a, b]) = some ((r.set 5 (.fz a)).set 6 (.fz b)) := fun _ _ _ => rfl
  simp only [towerFnA, exs, ex, ev, evs, evB, evIf, okk_bind, okk_ok, okk_lift, okk_asB, okk_if, okk_noX, lift_some, Res.bind_ok, List.map_cons, List.map_nil, List.length_cons, List.length_nil, List.replicate, List.cons_append, List.nil_append, List.getElem?_cons_zero, List.getElem?_cons_succ, List.set_cons_zero, List.set_cons_succ, Nat.reduceSub, Nat.reduceAdd, if_true, Bool.false_eq_true, if_false, Option.some.injEq, exists_eq_left', bo_add, bo_sub, co_lt, co_le, co_gt, co_ge, co_eqi, co_nei, co_isN, co_notN, bg_lenL, bg_lenT, ixd_l, ixd_t, de_lst, de_tup, tg_nm, Tg.slots, wipeR, iterD, items, op_none, op_int, sld_l, sld_t]
  refine (draw_okA hd h (by omega) (by omega) (by omega)).mono fun _ g1 ⟨v1, e1, a1, b1, h1⟩ => ?_
  subst e1
  simp only [L2', exs, ex, ev, evs, evB, evIf, okk_bind, okk_ok, okk_lift, okk_asB, okk_if, okk_noX, lift_some, Res.bind_ok, List.map_cons, List.map_nil, List.length_cons, List.length_nil, List.replicate, List.cons_append, List.nil_append, List.getElem?_cons_zero, List.getElem?_cons_succ, List.set_cons_zero, List.set_cons_succ, Nat.reduceSub, Nat.reduceAdd, if_true, Bool.false_eq_true, if_false, Option.some.injEq, exists_eq_left', bo_add, bo_sub, co_lt, co_le, co_gt, co_ge, co_eqi, co_nei, co_isN, co_notN, bg_lenL, bg_lenT, ixd_l, ixd_t, de_lst, de_tup, tg_nm, Tg.slots, wipeR, iterD, items, op_none, op_int, sld_l, sld_t]
  refine (draw_okA hd h1 (by decide) (by decide) (by omega)).mono fun _ g2 ⟨v2, e2, a2, b2, h2⟩ => ?_
  subst e2
  obtain ⟨c1, hc1, cnt, rfl, q1, q2⟩ := pick (xs := [D.int v1, D.int most]) (Q := fun d => ∃ c : Int, d = .int c ∧ 0 ≤ c ∧ c ≤ most) a2 b2 (by
    intro d hd
    simp only [List.mem_cons, List.mem_nil_iff, or_false] at hd
    rcases hd with rfl | rfl
    · exact ⟨_, rfl, a1, by omega⟩
    · exact ⟨_, rfl, m0, Int.le_refl _⟩)
  refine ⟨_, hc1, ?_⟩
  simp only [L3, exs, ex, ev, evs, evB, evIf, okk_bind, okk_ok, okk_lift, okk_asB, okk_if, okk_noX, lift_some, Res.bind_ok, List.map_cons, List.map_nil, List.length_cons, List.length_nil, List.replicate, List.cons_append, List.nil_append, List.getElem?_cons_zero, List.getElem?_cons_succ, List.set_cons_zero, List.set_cons_succ, Nat.reduceSub, Nat.reduceAdd, if_true, Bool.false_eq_true, if_false, Option.some.injEq, exists_eq_left', bo_add, bo_sub, co_lt, co_le, co_gt, co_ge, co_eqi, co_nei, co_isN, co_notN, bg_lenL, bg_lenT, ixd_l, ixd_t, de_lst, de_tup, tg_nm, Tg.slots, wipeR, iterD, items, op_none, op_int, sld_l, sld_t]
  refine (draw_okA hd h2 (by decide) (by decide) (by omega)).mono fun _ g3 ⟨v3, e3, a3, b3, h3⟩ => ?_
  subst e3
  obtain ⟨c3, hc3, bnd, rfl, q3, q4⟩ := pick (xs := [D.int 4, D.int 12, D.int high]) (Q := fun d => ∃ c : Int, d = .int c ∧ 4 ≤ c ∧ c ≤ high) a3 b3 (by
    intro d hd
    simp only [List.mem_cons, List.mem_nil_iff, or_false] at hd
    rcases hd with rfl | rfl | rfl
    · exact ⟨_, rfl, by omega, by omega⟩
    · exact ⟨_, rfl, by omega, by omega⟩
    · exact ⟨_, rfl, by omega, by omega⟩)
  refine ⟨_, hc3, ?_⟩
  simp only [T2, tg2, exs, ex, ev, evs, evB, evIf, okk_bind, okk_ok, okk_lift, okk_asB, okk_if, okk_noX, lift_some, Res.bind_ok, List.map_cons, List.map_nil, List.length_cons, List.length_nil, List.replicate, List.cons_append, List.nil_append, List.getElem?_cons_zero, List.getElem?_cons_succ, List.set_cons_zero, List.set_cons_succ, Nat.reduceSub, Nat.reduceAdd, if_true, Bool.false_eq_true, if_false, Option.some.injEq, exists_eq_left', bo_add, bo_sub, co_lt, co_le, co_gt, co_ge, co_eqi, co_nei, co_isN, co_notN, bg_lenL, bg_lenT, ixd_l, ixd_t, de_lst, de_tup, tg_nm, Tg.slots, wipeR, iterD, items, op_none, op_int, sld_l, sld_t]
  have mx : ∀ g : List O, biG g .max [.int 0, .int (high - bnd)] = some (.int (if high - bnd > 0 then high - bnd else 0)) := fun _ => rfl
  simp only [mx, L3, exs, ex, ev, evs, evB, evIf, okk_bind, okk_ok, okk_lift, okk_asB, okk_if, okk_noX, lift_some, Res.bind_ok, List.map_cons, List.map_nil, List.length_cons, List.length_nil, List.replicate, List.cons_append, List.nil_append, List.getElem?_cons_zero, List.getElem?_cons_succ, List.set_cons_zero, List.set_cons_succ, Nat.reduceSub, Nat.reduceAdd, if_true, Bool.false_eq_true, if_false, Option.some.injEq, exists_eq_left', bo_add, bo_sub, co_lt, co_le, co_gt, co_ge, co_eqi, co_nei, co_isN, co_notN, bg_lenL, bg_lenT, ixd_l, ixd_t, de_lst, de_tup, tg_nm, Tg.slots, wipeR, iterD, items, op_none, op_int, sld_l, sld_t]
  generalize hm : (if high - bnd > 0 then high - bnd else 0) = mxv
  have hm1 : 0 ≤ mxv ∧ mxv ≤ high - bnd := by rw [← hm]; split <;> omega
  refine (draw_okA hd h3 (by decide) (by decide) (by omega)).mono fun _ g4 ⟨v4, e4, a4, b4, h4⟩ => ?_
  subst e4
  obtain ⟨c4, hc4, low, rfl, q5, q6⟩ := pick (xs := [D.int 0, D.int 0, D.int mxv]) (Q := fun d => ∃ c : Int, d = .int c ∧ 0 ≤ c ∧ c ≤ high - bnd) a4 b4 (by
    intro d hd
    simp only [List.mem_cons, List.mem_nil_iff, or_false] at hd
    rcases hd with rfl | rfl | rfl
    · exact ⟨_, rfl, by omega, by omega⟩
    · exact ⟨_, rfl, by omega, by omega⟩
    · exact ⟨_, rfl, hm1.1, hm1.2⟩)
  refine ⟨_, hc4, ?_⟩
  simp only [exs, ex, ev, evs, evB, evIf, okk_bind, okk_ok, okk_lift, okk_asB, okk_if, okk_noX, lift_some, Res.bind_ok, List.map_cons, List.map_nil, List.length_cons, List.length_nil, List.replicate, List.cons_append, List.nil_append, List.getElem?_cons_zero, List.getElem?_cons_succ, List.set_cons_zero, List.set_cons_succ, Nat.reduceSub, Nat.reduceAdd, if_true, Bool.false_eq_true, if_false, Option.some.injEq, exists_eq_left', bo_add, bo_sub, co_lt, co_le, co_gt, co_ge, co_eqi, co_nei, co_isN, co_notN, bg_lenL, bg_lenT, ixd_l, ixd_t, de_lst, de_tup, tg_nm, Tg.slots, wipeR, iterD, items, op_none, op_int, sld_l, sld_t]
  refine (draw_okA hd h4 (by decide) (by decide) (by omega)).mono fun _ g5 ⟨v5, e5, a5, b5, h5⟩ => ?_
  subst e5
  simp only [exs, ex, ev, evs, evB, evIf, okk_bind, okk_ok, okk_lift, okk_asB, okk_if, okk_noX, lift_some, Res.bind_ok, List.map_cons, List.map_nil, List.length_cons, List.length_nil, List.replicate, List.cons_append, List.nil_append, List.getElem?_cons_zero, List.getElem?_cons_succ, List.set_cons_zero, List.set_cons_succ, Nat.reduceSub, Nat.reduceAdd, if_true, Bool.false_eq_true, if_false, Option.some.injEq, exists_eq_left', bo_add, bo_sub, co_lt, co_le, co_gt, co_ge, co_eqi, co_nei, co_isN, co_notN, bg_lenL, bg_lenT, ixd_l, ixd_t, de_lst, de_tup, tg_nm, Tg.slots, wipeR, iterD, items, op_none, op_int, sld_l, sld_t]
  refine (draw_okA hd h5 (by omega) (by omega) (by omega)).mono fun _ g6 ⟨v6, e6, a6, b6, h6⟩ => ?_
  subst e6
  simp only [exs, ex, ev, evs, evB, evIf, okk_bind, okk_ok, okk_lift, okk_asB, okk_if, okk_noX, lift_some, Res.bind_ok, List.map_cons, List.map_nil, List.length_cons, List.length_nil, List.replicate, List.cons_append, List.nil_append, List.getElem?_cons_zero, List.getElem?_cons_succ, List.set_cons_zero, List.set_cons_succ, Nat.reduceSub, Nat.reduceAdd, if_true, Bool.false_eq_true, if_false, Option.some.injEq, exists_eq_left', bo_add, bo_sub, co_lt, co_le, co_gt, co_ge, co_eqi, co_nei, co_isN, co_notN, bg_lenL, bg_lenT, ixd_l, ixd_t, de_lst, de_tup, tg_nm, Tg.slots, wipeR, iterD, items, op_none, op_int, sld_l, sld_t]
  refine (draw_okA hd h6 (by omega) (by omega) (by omega)).mono fun _ g7 ⟨v7, e7, a7, b7, h7⟩ => ?_
  subst e7
  simp only [L4, exs, ex, ev, evs, evB, evIf, okk_bind, okk_ok, okk_lift, okk_asB, okk_if, okk_noX, lift_some, Res.bind_ok, List.map_cons, List.map_nil, List.length_cons, List.length_nil, List.replicate, List.cons_append, List.nil_append, List.getElem?_cons_zero, List.getElem?_cons_succ, List.set_cons_zero, List.set_cons_succ, Nat.reduceSub, Nat.reduceAdd, if_true, Bool.false_eq_true, if_false, Option.some.injEq, exists_eq_left', bo_add, bo_sub, co_lt, co_le, co_gt, co_ge, co_eqi, co_nei, co_isN, co_notN, bg_lenL, bg_lenT, ixd_l, ixd_t, de_lst, de_tup, tg_nm, Tg.slots, wipeR, iterD, items, op_none, op_int, sld_l, sld_t]
  refine (draw_okA hd h7 (by decide) (by decide) (by omega)).mono fun _ g8 ⟨v8, e8, a8, b8, h8⟩ => ?_
  subst e8
  obtain ⟨c5, hc5, exc, rfl, q7, q8⟩ := pick (xs := [D.int 1, D.int (1 + v5), D.int (1 + v6), D.int (1 + v7)]) (Q := fun d => ∃ c : Int, d = .int c ∧ 1 ≤ c ∧ c ≤ high) a8 b8 (by
    intro d hd
    simp only [List.mem_cons, List.mem_nil_iff, or_false] at hd
    rcases hd with rfl | rfl | rfl | rfl
    · exact ⟨_, rfl, by omega, by omega⟩
    · exact ⟨_, rfl, by omega, by omega⟩
    · exact ⟨_, rfl, by omega, by omega⟩
    · exact ⟨_, rfl, by omega, by omega⟩)
  refine ⟨_, hc5, ?_⟩
  have hr : (-1000000 ≤ cnt ∧ cnt ≤ 1000000) := ⟨by omega, by omega⟩
  simp only [hr, and_self, exs, ex, ev, evs, evB, evIf, okk_bind, okk_ok, okk_lift, okk_asB, okk_if, okk_noX, lift_some, Res.bind_ok, List.map_cons, List.map_nil, List.length_cons, List.length_nil, List.replicate, List.cons_append, List.nil_append, List.getElem?_cons_zero, List.getElem?_cons_succ, List.set_cons_zero, List.set_cons_succ, Nat.reduceSub, Nat.reduceAdd, if_true, Bool.false_eq_true, if_false, Option.some.injEq, exists_eq_left', bo_add, bo_sub, co_lt, co_le, co_gt, co_ge, co_eqi, co_nei, co_isN, co_notN, bg_lenL, bg_lenT, ixd_l, ixd_t, de_lst, de_tup, tg_nm, Tg.slots, wipeR, iterD, items, op_none, op_int, sld_l, sld_t]
  refine okk_loopC (fun i acc g => ∃ ws : List Int, acc = ws.map D.int ∧ ws.length = i ∧ (∀ w ∈ ws, 1 ≤ w ∧ w ≤ high) ∧ DK g o (B + 8 + i)) ⟨[], rfl, rfl, by simp, h8⟩ ?_ ?_
  · rintro i d acc g ht ⟨ws, rfl, hl, hw, hk⟩
    have hlt : i < cnt.toNat := by
      have := (List.getElem?_eq_some_iff.mp ht).1
      simpa using this
    simp only [exs, ex, ev, evs, evB, evIf, okk_bind, okk_ok, okk_lift, okk_asB, okk_if, okk_noX, lift_some, Res.bind_ok, List.map_cons, List.map_nil, List.length_cons, List.length_nil, List.replicate, List.cons_append, List.nil_append, List.getElem?_cons_zero, List.getElem?_cons_succ, List.set_cons_zero, List.set_cons_succ, Nat.reduceSub, Nat.reduceAdd, if_true, Bool.false_eq_true, if_false, Option.some.injEq, exists_eq_left', bo_add, bo_sub, co_lt, co_le, co_gt, co_ge, co_eqi, co_nei, co_isN, co_notN, bg_lenL, bg_lenT, ixd_l, ixd_t, de_lst, de_tup, tg_nm, Tg.slots, wipeR, iterD, items, op_none, op_int, sld_l, sld_t]
    refine (draw_okA hd hk (by omega) (by omega) (by omega)).mono fun _ g9 ⟨v9, e9, a9, b9, h9⟩ => ?_
    subst e9
    simp only [exs, ex, ev, evs, evB, evIf, okk_bind, okk_ok, okk_lift, okk_asB, okk_if, okk_noX, lift_some, Res.bind_ok, List.map_cons, List.map_nil, List.length_cons, List.length_nil, List.replicate, List.cons_append, List.nil_append, List.getElem?_cons_zero, List.getElem?_cons_succ, List.set_cons_zero, List.set_cons_succ, Nat.reduceSub, Nat.reduceAdd, if_true, Bool.false_eq_true, if_false, Option.some.injEq, exists_eq_left', bo_add, bo_sub, co_lt, co_le, co_gt, co_ge, co_eqi, co_nei, co_isN, co_notN, bg_lenL, bg_lenT, ixd_l, ixd_t, de_lst, de_tup, tg_nm, Tg.slots, wipeR, iterD, items, op_none, op_int, sld_l, sld_t]
    have hlen : (ws.map D.int).length < LIM := by rw [List.length_map, hl]; exact Nat.lt_of_lt_of_le (show i < 1001 by omega) (by decide)
    rw [if_pos hlen]
    refine ⟨ws ++ [1 + low + v9], by rw [List.map_append]; rfl, by simp [hl], fun w hw' => ?_, h9⟩
    rcases List.mem_append.mp hw' with h | h
    · exact hw w h
    · have : w = 1 + low + v9 := by simpa using h
      omega
  · rintro acc g ⟨ws, rfl, hl, hw, hk⟩
    simp only [List.length_map, List.length_range] at hl hk
    exact ⟨_, rfl, exc, ws, rfl, q7, q8, by omega, hw, hk.le (by omega)⟩
end
/-- is it a tuple -/
def isTup : D → Bool
  | .tup _ => true
  | _ => false
theorem ty_tup {d : D} (h : plain d = true) : isTy d .tuple = some (isTup d) := by
  cases d <;> first | rfl | cases h
theorem okk_eq {α : Type} {R : Res α} {a : α} {g : List O} (h : Okk R fun b g' => b = a ∧ g' = g) : R = .ok a g := by
  cases R with
  | ok b g' => obtain ⟨rfl, rfl⟩ := h; rfl
  | exc x g' => cases h
  | bad => cases h
theorem okk_of {α : Type} {R : Res α} {a : α} {g : List O} {Q : α → List O → Prop} (e : R = .ok a g) (h : Q a g) : Okk R Q := by rw [e]; exact h
end Bk
end
section
set_option Elab.async false
set_option linter.all false
set_option maxRecDepth 100000
set_option maxHeartbeats 0
namespace T
open PySem L2 Bk
def top (i : Nat) : Stmt := PySem.Challenge.pw_basketrope_k00_towers_judged.main.body.getD i (.Pass ⟨0, 0, 0, 0⟩)
abbrev f_is_number : Nat := 0
abbrev f_is_excess : Nat := 1
abbrev f_is_weight : Nat := 2
abbrev f_tower_error : Nat := 3
abbrev f_is_tower : Nat := 4
abbrev f__law_deck : Nat := 5
abbrev f__law_draw : Nat := 6
abbrev f__law_same : Nat := 7
abbrev f__law_is_number : Nat := 8
abbrev f__law_tower : Nat := 9
abbrev f__law_odd : Nat := 10
abbrev f__law_error : Nat := 11
abbrev f__law_weights : Nat := 12
abbrev f__law_changed : Nat := 13
abbrev f_law : Nat := 14
abbrev c_MAX_EXCESS : Nat := 0
abbrev c_MAX_WEIGHT : Nat := 1
abbrev c_MAX_PEOPLE : Nat := 2
def fs : List Str := [Str.ofString "is_number", Str.ofString "is_excess", Str.ofString "is_weight", Str.ofString "tower_error", Str.ofString "is_tower", Str.ofString "_law_deck", Str.ofString "_law_draw", Str.ofString "_law_same", Str.ofString "_law_is_number", Str.ofString "_law_tower", Str.ofString "_law_odd", Str.ofString "_law_error", Str.ofString "_law_weights", Str.ofString "_law_changed", Str.ofString "law"]
def gs : List Str := [Str.ofString "MAX_EXCESS", Str.ofString "MAX_WEIGHT", Str.ofString "MAX_PEOPLE"]
def gl : Nat → Option D := fun i => [D.int 1000000, D.int 1000000, D.int 24][i]?
def N_is_number : List Str := [Str.ofString "value", Str.ofString "low", Str.ofString "high"]
def b_is_number : Fn := { ps := 3, ns := 3, body := [.ret (.band [.isi (.var 0) .int, .not (.isi (.var 0) .bool), .chain .le .le (.var 1) (.var 0) (.var 2)])] }
def N_is_excess : List Str := [Str.ofString "value"]
def b_is_excess : Fn := { ps := 1, ns := 1, body := [.ret (.call f_is_number [.var 0, .int 1, .glob c_MAX_EXCESS])] }
def N_is_weight : List Str := [Str.ofString "value"]
def b_is_weight : Fn := { ps := 1, ns := 1, body := [.ret (.call f_is_number [.var 0, .int 1, .glob c_MAX_WEIGHT])] }
def N_tower_error : List Str := [Str.ofString "value", Str.ofString "excess", Str.ofString "weights", Str.ofString "person", Str.ofString "weight"]
def b_tower_error : Fn := { ps := 1, ns := 5, body := [.iff (.bor [.not (.isi (.var 0) .tuple), .cmp .ne (.bi .len [.var 0]) (.int 2)]) [.ret (.tup [.non, .str "tower"])] [], .asg (.tp [1, 2]) (.var 0), .iff (.not (.call f_is_excess [.var 1])) [.ret (.tup [.non, .str "excess"])] [], .iff (.bor [.not (.isi (.var 2) .tuple), .cmp .gt (.bi .len [.var 2]) (.glob c_MAX_PEOPLE)]) [.ret (.tup [.non, .str "weights"])] [], .for_ (.tp [3, 4]) .enum [.var 2] [.iff (.not (.call f_is_weight [.var 4])) [.ret (.tup [.var 3, .str "weight"])] []], .ret (.non)] }
def N_is_tower : List Str := [Str.ofString "value"]
def b_is_tower : Fn := { ps := 1, ns := 1, body := [.ret (.cmp .isN (.call f_tower_error [.var 0]) (.non))] }
def N__law_deck : List Str := [Str.ofString "script", Str.ofString "cell"]
def b__law_deck : Fn := { ps := 1, ns := 2, body := [.ret (.mk (.lst [.mk (.comp (.bi .abs [.var 1]) (.nm 1) .seq [.slice (.var 0) [] [.int 63]] []), .int 0]))] }
def N__law_draw : List Str := [Str.ofString "deck", Str.ofString "limit", Str.ofString "cell", Str.ofString "index"]
def b__law_draw : Fn := { ps := 2, ns := 4, body := [.setR (.var 0) (.int 1) (.bin .add (.ix (.var 0) (.int 1)) (.int 1)), .asg (.tp [2, 3]) (.tup [.int 0, .neg (.int 1)]), .iff (.cmp .gt (.bi .len [.ix (.var 0) (.int 0)]) (.int 0)) [.asg (.nm 3) (.bin .mod (.ix (.var 0) (.int 1)) (.bi .len [.ix (.var 0) (.int 0)])), .asg (.nm 2) (.ix (.ix (.var 0) (.int 0)) (.var 3))] [], .iff (.cmp .ge (.var 2) (.bin .pow (.int 10) (.int 18))) [.setR (.ix (.var 0) (.int 0)) (.var 3) (.bin .fdiv (.var 2) (.var 1)), .ret (.bin .mod (.var 2) (.var 1))] [], .ret (.bin .mod (.bin .fdiv (.bin .mod (.bin .pow (.bin .add (.bin .add (.bin .mod (.var 2) (.int 2147483587)) (.bin .mul (.int 7919) (.ix (.var 0) (.int 1)))) (.int 1)) (.int 5)) (.int 2147483647)) (.int 7)) (.var 1))] }
def N__law_same : List Str := [Str.ofString "value", Str.ofString "due"]
def b__law_same : Fn := { ps := 2, ns := 2, body := [.ret (.cmp .eq (.bi .repr [.var 0]) (.bi .repr [.var 1]))] }
def N__law_is_number : List Str := [Str.ofString "value", Str.ofString "low", Str.ofString "high"]
def b__law_is_number : Fn := { ps := 3, ns := 3, body := [.ret (.band [.isi (.var 0) .int, .not (.isi (.var 0) .bool), .chain .le .le (.var 1) (.var 0) (.var 2)])] }
def N__law_tower : List Str := [Str.ofString "deck", Str.ofString "most", Str.ofString "high", Str.ofString "low", Str.ofString "excess", Str.ofString "count", Str.ofString "bound", Str.ofString "k"]
def b__law_tower : Fn := { ps := 3, ns := 8, body := [.asg (.tp [5, 6]) (.tup [.ix (.lst [.call f__law_draw [.var 0, .bin .add (.var 1) (.int 1)], .var 1]) (.call f__law_draw [.var 0, .int 2]), .ix (.lst [.int 4, .int 12, .var 2]) (.call f__law_draw [.var 0, .int 3])]), .asg (.nm 3) (.ix (.lst [.int 0, .int 0, .bi .max [.int 0, .bin .sub (.var 2) (.var 6)]]) (.call f__law_draw [.var 0, .int 3])), .asg (.nm 4) (.ix (.lst [.int 1, .bin .add (.int 1) (.call f__law_draw [.var 0, .int 4]), .bin .add (.int 1) (.call f__law_draw [.var 0, .var 6]), .bin .add (.int 1) (.call f__law_draw [.var 0, .var 2])]) (.call f__law_draw [.var 0, .int 4])), .ret (.tup [.var 4, .bi .tuple [.comp (.bin .add (.bin .add (.int 1) (.var 3)) (.call f__law_draw [.var 0, .var 6])) (.nm 7) .range [.var 5] []]])] }
def N__law_odd : List Str := [Str.ofString "deck", Str.ofString "some"]
def b__law_odd : Fn := { ps := 1, ns := 2, body := [.asg (.nm 1) (.lst [.non, .bl true, .bl false, .neg (.int 1), .int 0, .int 1, .bin .pow (.int 10) (.int 6), .bin .add (.bin .pow (.int 10) (.int 6)) (.int 1), .bin .pow (.int 10) (.int 39), .str "", .str "1", .tup [], .lst [], .dct0, .tup [.int 0], .lst [.int 1], .tup [.bl true]]), .ret (.ix (.bin .add (.var 1) (.lst [.tup [.int 0, .int 1], .tup [.int 1, .int 0], .tup [.tup [], .tup []], .tup [.tup [.int 0], .tup []], .tup [.int 1, .tup [.int 1]], .tup [.tup []], .dct1 "a" (.int 1)])) (.call f__law_draw [.var 0, .int 24]))] }
def N__law_error : List Str := [Str.ofString "value", Str.ofString "wrong", Str.ofString "k"]
def b__law_error : Fn := { ps := 1, ns := 3, body := [.iff (.bor [.not (.isi (.var 0) .tuple), .cmp .ne (.bi .len [.var 0]) (.int 2)]) [.ret (.tup [.non, .str "tower"])] [], .iff (.not (.call f__law_is_number [.ix (.var 0) (.int 0), .int 1, .bin .pow (.int 10) (.int 6)])) [.ret (.tup [.non, .str "excess"])] [], .iff (.bor [.not (.isi (.ix (.var 0) (.int 1)) .tuple), .cmp .gt (.bi .len [.ix (.var 0) (.int 1)]) (.int 24)]) [.ret (.tup [.non, .str "weights"])] [], .asg (.nm 1) (.comp (.var 2) (.nm 2) .range [.bi .len [.ix (.var 0) (.int 1)]] [.not (.call f__law_is_number [.ix (.ix (.var 0) (.int 1)) (.var 2), .int 1, .bin .pow (.int 10) (.int 6)])]), .ret (.ife (.cmp .eq (.var 1) (.lst [])) (.non) (.tup [.ix (.var 1) (.int 0), .str "weight"]))] }
def N__law_weights : List Str := [Str.ofString "deck", Str.ofString "weights", Str.ofString "some", Str.ofString "new", Str.ofString "found", Str.ofString "at", Str.ofString "strange", Str.ofString "head", Str.ofString "tail", Str.ofString "more"]
def b__law_weights : Fn := { ps := 2, ns := 10, body := [.par [5, 6] [.call f__law_draw [.var 0, .bin .add (.bi .len [.var 1]) (.int 1)], .call f__law_odd [.var 0]], .asg (.nm 2) (.bin .add (.var 1) (.tup [.int 1])), .asg (.nm 3) (.ix (.lst [.var 6, .int 0, .bin .pow (.int 10) (.int 6), .bin .add (.bin .pow (.int 10) (.int 6)) (.int 1), .neg (.int 1), .cmp .eq (.ix (.var 2) (.var 5)) (.int 1), .tup [.ix (.var 2) (.var 5)], .bi .str [.ix (.var 2) (.var 5)]]) (.call f__law_draw [.var 0, .int 8])), .par [7, 8, 9] [.slice (.var 1) [] [.var 5], .slice (.var 1) [.bin .add (.var 5) (.int 1)] [], .bin .mul (.var 2) (.int 25)], .asg (.nm 4) (.lst [.bin .add (.bin .add (.var 7) (.tup [.var 3])) (.var 8), .bin .add (.bin .add (.var 7) (.tup [.var 3])) (.slice (.var 1) [.var 5] []), .bin .add (.var 7) (.var 8), .bi .list [.var 1], .tup [], .var 6]), .ret (.ix (.bin .add (.bin .add (.bin .mul (.slice (.var 4) [] [.int 2]) (.int 3)) (.var 4)) (.lst [.slice (.var 9) [] [.int 24], .slice (.var 9) [] [.int 25]])) (.call f__law_draw [.var 0, .int 14]))] }
def N__law_changed : List Str := [Str.ofString "deck", Str.ofString "tower", Str.ofString "new", Str.ofString "some", Str.ofString "excess", Str.ofString "weights", Str.ofString "other", Str.ofString "strange"]
def b__law_changed : Fn := { ps := 2, ns := 8, body := [.asg (.tp [4, 5]) (.var 1), .par [6, 7] [.call f__law_weights [.var 0, .var 5], .call f__law_odd [.var 0]], .asg (.nm 2) (.ix (.lst [.int 0, .neg (.int 1), .bin .pow (.int 10) (.int 6), .bin .add (.bin .pow (.int 10) (.int 6)) (.int 1), .cmp .eq (.var 4) (.int 1), .bi .str [.var 4], .tup [.var 4], .var 7]) (.call f__law_draw [.var 0, .int 8])), .asg (.nm 3) (.lst [.tup [.var 4, .var 6], .tup [.var 2, .var 5], .tup [.var 2, .var 6], .bi .list [.var 1], .tup [.var 4], .bin .add (.var 1) (.tup [.var 5]), .var 7]), .ret (.ix (.bin .add (.bin .add (.bin .mul (.slice (.var 3) [] [.int 3]) (.int 2)) (.var 3)) (.lst [.tup [.var 5, .var 4], .tup [.var 4, .var 7], .tup [.var 7, .var 6]])) (.call f__law_draw [.var 0, .int 16]))] }
def N_law : List Str := [Str.ofString "script", Str.ofString "deck", Str.ofString "turn", Str.ofString "tower", Str.ofString "twin", Str.ofString "values", Str.ofString "value", Str.ofString "excess", Str.ofString "weights", Str.ofString "before", Str.ofString "due", Str.ofString "k", Str.ofString "one", Str.ofString "again"]
def b_law : Fn := { ps := 1, ns := 14, body := [.asg (.nm 1) (.call f__law_deck [.var 0]), .for_ (.nm 2) .range [.int 8] [.asg (.nm 3) (.call f__law_tower [.var 1, .ix (.lst [.int 24, .int 4]) (.bin .mod (.var 2) (.int 2)), .bin .pow (.int 10) (.int 6)]), .asg (.tp [7, 8]) (.var 3), .asg (.nm 4) (.tup [.ix (.lst [.var 7, .cmp .eq (.var 7) (.int 1)]) (.bi .int [.cmp .eq (.var 7) (.int 1)]), .bi .tuple [.comp (.ix (.lst [.var 12, .cmp .eq (.var 12) (.int 1)]) (.bi .int [.cmp .eq (.var 12) (.int 1)])) (.nm 12) .seq [.var 8] []]]), .asg (.nm 5) (.lst [.var 3, .var 4, .var 3, .tup [.int 1, .tup []], .tup [.bl true, .tup []], .tup [.int 1, .tup [.bl true]], .tup [.int 1, .tup [.int 1]], .tup [.int 0, .tup [.int 0]], .call f__law_odd [.var 1]]), .for_ (.nm 6) .seq [.bin .add (.var 5) (.comp (.call f__law_changed [.var 1, .var 3]) (.nm 11) .range [.int 14] [])] [.par [9, 10] [.bi .repr [.var 6], .call f__law_error [.var 6]], .iff (.not (.call f__law_same [.comp (.call f_tower_error [.var 6]) (.nm 13) .range [.int 2] [], .lst [.var 10, .var 10]])) [.ret (.bl false)] [], .iff (.bor [.cmp .ne (.bi .repr [.call f_is_tower [.var 6]]) (.bi .repr [.cmp .isN (.var 10) (.non)]), .cmp .ne (.bi .repr [.var 6]) (.var 9)]) [.ret (.bl false)] []]], .ret (.bl true)] }
def P : Nat → Option Fn := fun i => [b_is_number, b_is_excess, b_is_weight, b_tower_error, b_is_tower, b__law_deck, b__law_draw, b__law_same, b__law_is_number, b__law_tower, b__law_odd, b__law_error, b__law_weights, b__law_changed, b_law][i]?
theorem m_is_number : mSts ⟨N_is_number, fs, gs⟩ (defScope (top 4)) (b_is_number).body (defBody (top 4)) = true := by decide +kernel
theorem s_is_number : FnScope N_is_number [Str.ofString "value", Str.ofString "low", Str.ofString "high"] (defScope (top 4)) := C8.fnScope_by (by decide +kernel)
theorem m_is_excess : mSts ⟨N_is_excess, fs, gs⟩ (defScope (top 5)) (b_is_excess).body (defBody (top 5)) = true := by decide +kernel
theorem s_is_excess : FnScope N_is_excess [Str.ofString "value"] (defScope (top 5)) := C8.fnScope_by (by decide +kernel)
theorem m_is_weight : mSts ⟨N_is_weight, fs, gs⟩ (defScope (top 6)) (b_is_weight).body (defBody (top 6)) = true := by decide +kernel
theorem s_is_weight : FnScope N_is_weight [Str.ofString "value"] (defScope (top 6)) := C8.fnScope_by (by decide +kernel)
theorem m_tower_error : mSts ⟨N_tower_error, fs, gs⟩ (defScope (top 7)) (b_tower_error).body (defBody (top 7)) = true := by decide +kernel
theorem s_tower_error : FnScope N_tower_error [Str.ofString "value"] (defScope (top 7)) := C8.fnScope_by (by decide +kernel)
theorem m_is_tower : mSts ⟨N_is_tower, fs, gs⟩ (defScope (top 8)) (b_is_tower).body (defBody (top 8)) = true := by decide +kernel
theorem s_is_tower : FnScope N_is_tower [Str.ofString "value"] (defScope (top 8)) := C8.fnScope_by (by decide +kernel)
theorem m__law_deck : mSts ⟨N__law_deck, fs, gs⟩ (defScope (top 10)) (b__law_deck).body (defBody (top 10)) = true := by decide +kernel
theorem s__law_deck : FnScope N__law_deck [Str.ofString "script"] (defScope (top 10)) := C8.fnScope_by (by decide +kernel)
theorem m__law_draw : mSts ⟨N__law_draw, fs, gs⟩ (defScope (top 11)) (b__law_draw).body (defBody (top 11)) = true := by decide +kernel
theorem s__law_draw : FnScope N__law_draw [Str.ofString "deck", Str.ofString "limit"] (defScope (top 11)) := C8.fnScope_by (by decide +kernel)
theorem m__law_same : mSts ⟨N__law_same, fs, gs⟩ (defScope (top 12)) (b__law_same).body (defBody (top 12)) = true := by decide +kernel
theorem s__law_same : FnScope N__law_same [Str.ofString "value", Str.ofString "due"] (defScope (top 12)) := C8.fnScope_by (by decide +kernel)
theorem m__law_is_number : mSts ⟨N__law_is_number, fs, gs⟩ (defScope (top 13)) (b__law_is_number).body (defBody (top 13)) = true := by decide +kernel
theorem s__law_is_number : FnScope N__law_is_number [Str.ofString "value", Str.ofString "low", Str.ofString "high"] (defScope (top 13)) := C8.fnScope_by (by decide +kernel)
theorem m__law_tower : mSts ⟨N__law_tower, fs, gs⟩ (defScope (top 14)) (b__law_tower).body (defBody (top 14)) = true := by decide +kernel
theorem s__law_tower : FnScope N__law_tower [Str.ofString "deck", Str.ofString "most", Str.ofString "high"] (defScope (top 14)) := C8.fnScope_by (by decide +kernel)
theorem m__law_odd : mSts ⟨N__law_odd, fs, gs⟩ (defScope (top 15)) (b__law_odd).body (defBody (top 15)) = true := by decide +kernel
theorem s__law_odd : FnScope N__law_odd [Str.ofString "deck"] (defScope (top 15)) := C8.fnScope_by (by decide +kernel)
theorem m__law_error : mSts ⟨N__law_error, fs, gs⟩ (defScope (top 16)) (b__law_error).body (defBody (top 16)) = true := by decide +kernel
theorem s__law_error : FnScope N__law_error [Str.ofString "value"] (defScope (top 16)) := C8.fnScope_by (by decide +kernel)
theorem m__law_weights : mSts ⟨N__law_weights, fs, gs⟩ (defScope (top 17)) (b__law_weights).body (defBody (top 17)) = true := by decide +kernel
theorem s__law_weights : FnScope N__law_weights [Str.ofString "deck", Str.ofString "weights"] (defScope (top 17)) := C8.fnScope_by (by decide +kernel)
theorem m__law_changed : mSts ⟨N__law_changed, fs, gs⟩ (defScope (top 18)) (b__law_changed).body (defBody (top 18)) = true := by decide +kernel
theorem s__law_changed : FnScope N__law_changed [Str.ofString "deck", Str.ofString "tower"] (defScope (top 18)) := C8.fnScope_by (by decide +kernel)
theorem m_law : mSts ⟨N_law, fs, gs⟩ (defScope (top 19)) (b_law).body (defBody (top 19)) = true := by decide +kernel
theorem s_law : FnScope N_law [Str.ofString "script"] (defScope (top 19)) := C8.fnScope_by (by decide +kernel)
theorem all_mk {l : PySem.W.OpenLaw} {w : World} {K : PySem.W.Frag} {h : Heap} {mg : Str → Option Value} {fa : Addr} (X : K.In h) (G : h.Ns mainGlobals mg) (hfa : mg "law" = some (.ref fa))
    {g0 g1 g2 g3 g4 g5 g6 g7 g8 g9 g10 g11 g12 g13 g14 : Addr} {od0 an0 od1 an1 od2 an2 od3 an3 od4 an4 od5 an5 od6 an6 od7 an7 od8 an8 od9 an9 od10 an10 od11 an11 od12 an12 od13 an13 od14 an14 : Option Addr} {sl0 sl1 sl2 sl3 sl4 sl5 sl6 sl7 sl8 sl9 sl10 sl11 sl12 sl13 sl14 : Array (Option Value)} {oc0 kV0 dc0 pm0 cd0 ct0 oc1 kV1 dc1 pm1 cd1 ct1 oc2 kV2 dc2 pm2 cd2 ct2 oc3 kV3 dc3 pm3 cd3 ct3 oc4 kV4 dc4 pm4 cd4 ct4 oc5 kV5 dc5 pm5 cd5 ct5 oc6 kV6 dc6 pm6 cd6 ct6 oc7 kV7 dc7 pm7 cd7 ct7 oc8 kV8 dc8 pm8 cd8 ct8 oc9 kV9 dc9 pm9 cd9 ct9 oc10 kV10 dc10 pm10 cd10 ct10 oc11 kV11 dc11 pm11 cd11 ct11 oc12 kV12 dc12 pm12 cd12 ct12 oc13 kV13 dc13 pm13 cd13 ct13 oc14 kV14 dc14 pm14 cd14 ct14 : Value} {u0 u1 u2 : Value} {t0 t1 t2 : Tok}
    (a0 : PySem.W.nsIn K mainGlobals "is_number" = some (some (.ref g0))) (l0 : K.lookup g0 = some ⟨oc0, od0, .func (PySem.W.fnOf "is_number" "is_number" (defArgs (top 4)) (defBody (top 4)) (defScope (top 4)) .none kV0 dc0 pm0 an0 cd0 ct0), sl0⟩) (e0 : PySem.W.codeIn K cd0 "is_number" = true) (k0 : PySem.W.keepIn K (.ref g0) = true)
    (a1 : PySem.W.nsIn K mainGlobals "is_excess" = some (some (.ref g1))) (l1 : K.lookup g1 = some ⟨oc1, od1, .func (PySem.W.fnOf "is_excess" "is_excess" (defArgs (top 5)) (defBody (top 5)) (defScope (top 5)) .none kV1 dc1 pm1 an1 cd1 ct1), sl1⟩) (e1 : PySem.W.codeIn K cd1 "is_excess" = true) (k1 : PySem.W.keepIn K (.ref g1) = true)
    (a2 : PySem.W.nsIn K mainGlobals "is_weight" = some (some (.ref g2))) (l2 : K.lookup g2 = some ⟨oc2, od2, .func (PySem.W.fnOf "is_weight" "is_weight" (defArgs (top 6)) (defBody (top 6)) (defScope (top 6)) .none kV2 dc2 pm2 an2 cd2 ct2), sl2⟩) (e2 : PySem.W.codeIn K cd2 "is_weight" = true) (k2 : PySem.W.keepIn K (.ref g2) = true)
    (a3 : PySem.W.nsIn K mainGlobals "tower_error" = some (some (.ref g3))) (l3 : K.lookup g3 = some ⟨oc3, od3, .func (PySem.W.fnOf "tower_error" "tower_error" (defArgs (top 7)) (defBody (top 7)) (defScope (top 7)) .none kV3 dc3 pm3 an3 cd3 ct3), sl3⟩) (e3 : PySem.W.codeIn K cd3 "tower_error" = true) (k3 : PySem.W.keepIn K (.ref g3) = true)
    (a4 : PySem.W.nsIn K mainGlobals "is_tower" = some (some (.ref g4))) (l4 : K.lookup g4 = some ⟨oc4, od4, .func (PySem.W.fnOf "is_tower" "is_tower" (defArgs (top 8)) (defBody (top 8)) (defScope (top 8)) .none kV4 dc4 pm4 an4 cd4 ct4), sl4⟩) (e4 : PySem.W.codeIn K cd4 "is_tower" = true) (k4 : PySem.W.keepIn K (.ref g4) = true)
    (a5 : PySem.W.nsIn K mainGlobals "_law_deck" = some (some (.ref g5))) (l5 : K.lookup g5 = some ⟨oc5, od5, .func (PySem.W.fnOf "_law_deck" "_law_deck" (defArgs (top 10)) (defBody (top 10)) (defScope (top 10)) .none kV5 dc5 pm5 an5 cd5 ct5), sl5⟩) (e5 : PySem.W.codeIn K cd5 "_law_deck" = true) (k5 : PySem.W.keepIn K (.ref g5) = true)
    (a6 : PySem.W.nsIn K mainGlobals "_law_draw" = some (some (.ref g6))) (l6 : K.lookup g6 = some ⟨oc6, od6, .func (PySem.W.fnOf "_law_draw" "_law_draw" (defArgs (top 11)) (defBody (top 11)) (defScope (top 11)) .none kV6 dc6 pm6 an6 cd6 ct6), sl6⟩) (e6 : PySem.W.codeIn K cd6 "_law_draw" = true) (k6 : PySem.W.keepIn K (.ref g6) = true)
    (a7 : PySem.W.nsIn K mainGlobals "_law_same" = some (some (.ref g7))) (l7 : K.lookup g7 = some ⟨oc7, od7, .func (PySem.W.fnOf "_law_same" "_law_same" (defArgs (top 12)) (defBody (top 12)) (defScope (top 12)) .none kV7 dc7 pm7 an7 cd7 ct7), sl7⟩) (e7 : PySem.W.codeIn K cd7 "_law_same" = true) (k7 : PySem.W.keepIn K (.ref g7) = true)
    (a8 : PySem.W.nsIn K mainGlobals "_law_is_number" = some (some (.ref g8))) (l8 : K.lookup g8 = some ⟨oc8, od8, .func (PySem.W.fnOf "_law_is_number" "_law_is_number" (defArgs (top 13)) (defBody (top 13)) (defScope (top 13)) .none kV8 dc8 pm8 an8 cd8 ct8), sl8⟩) (e8 : PySem.W.codeIn K cd8 "_law_is_number" = true) (k8 : PySem.W.keepIn K (.ref g8) = true)
    (a9 : PySem.W.nsIn K mainGlobals "_law_tower" = some (some (.ref g9))) (l9 : K.lookup g9 = some ⟨oc9, od9, .func (PySem.W.fnOf "_law_tower" "_law_tower" (defArgs (top 14)) (defBody (top 14)) (defScope (top 14)) .none kV9 dc9 pm9 an9 cd9 ct9), sl9⟩) (e9 : PySem.W.codeIn K cd9 "_law_tower" = true) (k9 : PySem.W.keepIn K (.ref g9) = true)
    (a10 : PySem.W.nsIn K mainGlobals "_law_odd" = some (some (.ref g10))) (l10 : K.lookup g10 = some ⟨oc10, od10, .func (PySem.W.fnOf "_law_odd" "_law_odd" (defArgs (top 15)) (defBody (top 15)) (defScope (top 15)) .none kV10 dc10 pm10 an10 cd10 ct10), sl10⟩) (e10 : PySem.W.codeIn K cd10 "_law_odd" = true) (k10 : PySem.W.keepIn K (.ref g10) = true)
    (a11 : PySem.W.nsIn K mainGlobals "_law_error" = some (some (.ref g11))) (l11 : K.lookup g11 = some ⟨oc11, od11, .func (PySem.W.fnOf "_law_error" "_law_error" (defArgs (top 16)) (defBody (top 16)) (defScope (top 16)) .none kV11 dc11 pm11 an11 cd11 ct11), sl11⟩) (e11 : PySem.W.codeIn K cd11 "_law_error" = true) (k11 : PySem.W.keepIn K (.ref g11) = true)
    (a12 : PySem.W.nsIn K mainGlobals "_law_weights" = some (some (.ref g12))) (l12 : K.lookup g12 = some ⟨oc12, od12, .func (PySem.W.fnOf "_law_weights" "_law_weights" (defArgs (top 17)) (defBody (top 17)) (defScope (top 17)) .none kV12 dc12 pm12 an12 cd12 ct12), sl12⟩) (e12 : PySem.W.codeIn K cd12 "_law_weights" = true) (k12 : PySem.W.keepIn K (.ref g12) = true)
    (a13 : PySem.W.nsIn K mainGlobals "_law_changed" = some (some (.ref g13))) (l13 : K.lookup g13 = some ⟨oc13, od13, .func (PySem.W.fnOf "_law_changed" "_law_changed" (defArgs (top 18)) (defBody (top 18)) (defScope (top 18)) .none kV13 dc13 pm13 an13 cd13 ct13), sl13⟩) (e13 : PySem.W.codeIn K cd13 "_law_changed" = true) (k13 : PySem.W.keepIn K (.ref g13) = true)
    (a14 : PySem.W.nsIn K mainGlobals "law" = some (some (.ref g14))) (l14 : K.lookup g14 = some ⟨oc14, od14, .func (PySem.W.fnOf "law" "law" (defArgs (top 19)) (defBody (top 19)) (defScope (top 19)) .none kV14 dc14 pm14 an14 cd14 ct14), sl14⟩) (e14 : PySem.W.codeIn K cd14 "law" = true) (k14 : PySem.W.keepIn K (.ref g14) = true)
    (x0 : PySem.W.nsIn K mainGlobals "MAX_EXCESS" = some (some u0)) (y0 : u0 = .int 1000000 t0)
    (x1 : PySem.W.nsIn K mainGlobals "MAX_WEIGHT" = some (some u1)) (y1 : u1 = .int 1000000 t1)
    (x2 : PySem.W.nsIn K mainGlobals "MAX_PEOPLE" = some (some u2)) (y2 : u2 = .int 24 t2)
    (z0 : PySem.W.nsIn K mainGlobals "len" = some none)
    (z1 : PySem.W.nsIn K mainGlobals "abs" = some none)
    (z2 : PySem.W.nsIn K mainGlobals "sum" = some none)
    (z3 : PySem.W.nsIn K mainGlobals "tuple" = some none)
    (z4 : PySem.W.nsIn K mainGlobals "list" = some none)
    (z5 : PySem.W.nsIn K mainGlobals "sorted" = some none)
    (z6 : PySem.W.nsIn K mainGlobals "int" = some none)
    (z7 : PySem.W.nsIn K mainGlobals "str" = some none)
    (z8 : PySem.W.nsIn K mainGlobals "repr" = some none)
    (z9 : PySem.W.nsIn K mainGlobals "max" = some none)
    (z10 : PySem.W.nsIn K mainGlobals "min" = some none)
    (z11 : PySem.W.nsIn K mainGlobals "all" = some none)
    (z12 : PySem.W.nsIn K mainGlobals "range" = some none)
    (z13 : PySem.W.nsIn K mainGlobals "enumerate" = some none)
    (z14 : PySem.W.nsIn K mainGlobals "zip" = some none)
    (z15 : PySem.W.nsIn K mainGlobals "isinstance" = some none)
    (z16 : PySem.W.nsIn K mainGlobals "set" = some none)
    (z17 : PySem.W.nsIn K mainGlobals "bool" = some none)
    (z18 : PySem.W.nsIn K mainGlobals "dict" = some none)
    : ∃ fd : FuncData, (∀ (s : Shared) (v : Value), BindsTo s fd ⟨[v], []⟩ [("script", v)]) ∧ ∀ base : Heap, K.In base → base.Ns mainGlobals mg → GFn l.prog w K mg base 12 fa fd ["script"] (spB K mg 1 (callN gl P 12 f_law)) := by
  have e := hfa.symm.trans (PySem.W.mg_of X G a14)
  cases e
  have F0 := fun_mk (st := (top 4)) l0 e0 k0
  have B0 := F0.binds (ps := [Str.ofString "value", Str.ofString "low", Str.ofString "high"]) fun _ _ _ _ _ _ us hl => match us, hl with | [_, _, _], _ => rfl
  have F1 := fun_mk (st := (top 5)) l1 e1 k1
  have B1 := F1.binds (ps := [Str.ofString "value"]) fun _ _ _ _ _ _ us hl => match us, hl with | [_], _ => rfl
  have F2 := fun_mk (st := (top 6)) l2 e2 k2
  have B2 := F2.binds (ps := [Str.ofString "value"]) fun _ _ _ _ _ _ us hl => match us, hl with | [_], _ => rfl
  have F3 := fun_mk (st := (top 7)) l3 e3 k3
  have B3 := F3.binds (ps := [Str.ofString "value"]) fun _ _ _ _ _ _ us hl => match us, hl with | [_], _ => rfl
  have F4 := fun_mk (st := (top 8)) l4 e4 k4
  have B4 := F4.binds (ps := [Str.ofString "value"]) fun _ _ _ _ _ _ us hl => match us, hl with | [_], _ => rfl
  have F5 := fun_mk (st := (top 10)) l5 e5 k5
  have B5 := F5.binds (ps := [Str.ofString "script"]) fun _ _ _ _ _ _ us hl => match us, hl with | [_], _ => rfl
  have F6 := fun_mk (st := (top 11)) l6 e6 k6
  have B6 := F6.binds (ps := [Str.ofString "deck", Str.ofString "limit"]) fun _ _ _ _ _ _ us hl => match us, hl with | [_, _], _ => rfl
  have F7 := fun_mk (st := (top 12)) l7 e7 k7
  have B7 := F7.binds (ps := [Str.ofString "value", Str.ofString "due"]) fun _ _ _ _ _ _ us hl => match us, hl with | [_, _], _ => rfl
  have F8 := fun_mk (st := (top 13)) l8 e8 k8
  have B8 := F8.binds (ps := [Str.ofString "value", Str.ofString "low", Str.ofString "high"]) fun _ _ _ _ _ _ us hl => match us, hl with | [_, _, _], _ => rfl
  have F9 := fun_mk (st := (top 14)) l9 e9 k9
  have B9 := F9.binds (ps := [Str.ofString "deck", Str.ofString "most", Str.ofString "high"]) fun _ _ _ _ _ _ us hl => match us, hl with | [_, _, _], _ => rfl
  have F10 := fun_mk (st := (top 15)) l10 e10 k10
  have B10 := F10.binds (ps := [Str.ofString "deck"]) fun _ _ _ _ _ _ us hl => match us, hl with | [_], _ => rfl
  have F11 := fun_mk (st := (top 16)) l11 e11 k11
  have B11 := F11.binds (ps := [Str.ofString "value"]) fun _ _ _ _ _ _ us hl => match us, hl with | [_], _ => rfl
  have F12 := fun_mk (st := (top 17)) l12 e12 k12
  have B12 := F12.binds (ps := [Str.ofString "deck", Str.ofString "weights"]) fun _ _ _ _ _ _ us hl => match us, hl with | [_, _], _ => rfl
  have F13 := fun_mk (st := (top 18)) l13 e13 k13
  have B13 := F13.binds (ps := [Str.ofString "deck", Str.ofString "tower"]) fun _ _ _ _ _ _ us hl => match us, hl with | [_, _], _ => rfl
  have F14 := fun_mk (st := (top 19)) l14 e14 k14
  have B14 := F14.binds (ps := [Str.ofString "script"]) fun _ _ _ _ _ _ us hl => match us, hl with | [_], _ => rfl
  have hbn : ∀ s ∈ bnames, mg (Str.ofString s) = none := by
    intro s hs
    simp only [bnames, List.mem_cons, List.mem_nil_iff, or_false] at hs
    rcases hs with rfl | rfl | rfl | rfl | rfl | rfl | rfl | rfl | rfl | rfl | rfl | rfl | rfl | rfl | rfl | rfl | rfl | rfl | rfl
    · exact PySem.W.mg_none_of X G z0
    · exact PySem.W.mg_none_of X G z1
    · exact PySem.W.mg_none_of X G z2
    · exact PySem.W.mg_none_of X G z3
    · exact PySem.W.mg_none_of X G z4
    · exact PySem.W.mg_none_of X G z5
    · exact PySem.W.mg_none_of X G z6
    · exact PySem.W.mg_none_of X G z7
    · exact PySem.W.mg_none_of X G z8
    · exact PySem.W.mg_none_of X G z9
    · exact PySem.W.mg_none_of X G z10
    · exact PySem.W.mg_none_of X G z11
    · exact PySem.W.mg_none_of X G z12
    · exact PySem.W.mg_none_of X G z13
    · exact PySem.W.mg_none_of X G z14
    · exact PySem.W.mg_none_of X G z15
    · exact PySem.W.mg_none_of X G z16
    · exact PySem.W.mg_none_of X G z17
    · exact PySem.W.mg_none_of X G z18
  have hgl : ∀ i d, gl i = some d → ∃ x u v, gs[i]? = some x ∧ mg x = some u ∧ RelV v u ∧ ∀ y H, Rep K y H d v := by
    intro i d hd
    match i, hd with
    | 0, hd => exact ⟨_, _, .int 1000000, rfl, PySem.W.mg_of X G x0, ⟨_, y0⟩, fun y H => by cases hd; simp only [Rep]⟩
    | 1, hd => exact ⟨_, _, .int 1000000, rfl, PySem.W.mg_of X G x1, ⟨_, y1⟩, fun y H => by cases hd; simp only [Rep]⟩
    | 2, hd => exact ⟨_, _, .int 24, rfl, PySem.W.mg_of X G x2, ⟨_, y2⟩, fun y H => by cases hd; simp only [Rep]⟩
    | i + 3, hd => cases hd
  have hff : ∀ i x, fs[i]? = some x → ∃ fn, P i = some fn ∧ FF K mg fs gs x fn := by
    intro i x hx
    match i, hx with
    | 0, hx => exact ⟨b_is_number, rfl, by cases hx; exact ⟨_, _, _, _, _, _, PySem.W.mg_of X G a0, F0, B0, s_is_number, rfl, rfl, m_is_number⟩⟩
    | 1, hx => exact ⟨b_is_excess, rfl, by cases hx; exact ⟨_, _, _, _, _, _, PySem.W.mg_of X G a1, F1, B1, s_is_excess, rfl, rfl, m_is_excess⟩⟩
    | 2, hx => exact ⟨b_is_weight, rfl, by cases hx; exact ⟨_, _, _, _, _, _, PySem.W.mg_of X G a2, F2, B2, s_is_weight, rfl, rfl, m_is_weight⟩⟩
    | 3, hx => exact ⟨b_tower_error, rfl, by cases hx; exact ⟨_, _, _, _, _, _, PySem.W.mg_of X G a3, F3, B3, s_tower_error, rfl, rfl, m_tower_error⟩⟩
    | 4, hx => exact ⟨b_is_tower, rfl, by cases hx; exact ⟨_, _, _, _, _, _, PySem.W.mg_of X G a4, F4, B4, s_is_tower, rfl, rfl, m_is_tower⟩⟩
    | 5, hx => exact ⟨b__law_deck, rfl, by cases hx; exact ⟨_, _, _, _, _, _, PySem.W.mg_of X G a5, F5, B5, s__law_deck, rfl, rfl, m__law_deck⟩⟩
    | 6, hx => exact ⟨b__law_draw, rfl, by cases hx; exact ⟨_, _, _, _, _, _, PySem.W.mg_of X G a6, F6, B6, s__law_draw, rfl, rfl, m__law_draw⟩⟩
    | 7, hx => exact ⟨b__law_same, rfl, by cases hx; exact ⟨_, _, _, _, _, _, PySem.W.mg_of X G a7, F7, B7, s__law_same, rfl, rfl, m__law_same⟩⟩
    | 8, hx => exact ⟨b__law_is_number, rfl, by cases hx; exact ⟨_, _, _, _, _, _, PySem.W.mg_of X G a8, F8, B8, s__law_is_number, rfl, rfl, m__law_is_number⟩⟩
    | 9, hx => exact ⟨b__law_tower, rfl, by cases hx; exact ⟨_, _, _, _, _, _, PySem.W.mg_of X G a9, F9, B9, s__law_tower, rfl, rfl, m__law_tower⟩⟩
    | 10, hx => exact ⟨b__law_odd, rfl, by cases hx; exact ⟨_, _, _, _, _, _, PySem.W.mg_of X G a10, F10, B10, s__law_odd, rfl, rfl, m__law_odd⟩⟩
    | 11, hx => exact ⟨b__law_error, rfl, by cases hx; exact ⟨_, _, _, _, _, _, PySem.W.mg_of X G a11, F11, B11, s__law_error, rfl, rfl, m__law_error⟩⟩
    | 12, hx => exact ⟨b__law_weights, rfl, by cases hx; exact ⟨_, _, _, _, _, _, PySem.W.mg_of X G a12, F12, B12, s__law_weights, rfl, rfl, m__law_weights⟩⟩
    | 13, hx => exact ⟨b__law_changed, rfl, by cases hx; exact ⟨_, _, _, _, _, _, PySem.W.mg_of X G a13, F13, B13, s__law_changed, rfl, rfl, m__law_changed⟩⟩
    | 14, hx => exact ⟨b_law, rfl, by cases hx; exact ⟨_, _, _, _, _, _, PySem.W.mg_of X G a14, F14, B14, s_law, rfl, rfl, m_law⟩⟩
    | i + 15, hx => cases hx
  exact ⟨_, fun s v => .of_eq rfl, fun base _ _ => law_fn hbn hgl hff (i := f_law) rfl F14 s_law rfl rfl m_law⟩
end T
end
section
set_option Elab.async false
set_option linter.all false
set_option maxRecDepth 100000
set_option maxHeartbeats 4000000
namespace T
open PySem L2 Bk
section
variable {n o B : Nat} {g : List O}
theorem pickB {xs : List D} {v : Int} {q : D → Bool} (h : xs.all q = true) (h0 : 0 ≤ v) (h1 : v < xs.length) : ∃ d, atI xs v = some d ∧ q d = true := by
  rw [List.all_eq_true] at h
  exact pick (Q := fun d => q d = true) h0 h1 h
/-- no more than n nodes, d deep -/
def sm (a b : Nat) (d : D) : Bool := okv d && decide (dep d ≤ a) && decide (nod d ≤ b)
theorem sm_ok {a b : Nat} {d : D} (h : sm a b d = true) : okv d = true ∧ dep d ≤ a ∧ nod d ≤ b := by
  unfold sm at h
  simp only [Bool.and_eq_true, decide_eq_true_eq] at h
  exact ⟨h.1.1, h.1.2, h.2⟩
theorem okv_plain {d : D} (h : okv d = true) : plain d = true := by
  cases d <;> first | rfl | (simp [okv] at h; done)
theorem odd_ok (h : DK g o B) (hB : B < 2 ^ 39) : Okk (callN gl P (n + 2) f__law_odd [.ref o] g) fun d g' => sm 2 4 d = true ∧ DK g' o (B + 1) := by
  refine okk_call (fn := b__law_odd) rfl rfl ?_
  have p1 : binop .pow (.int 10) (.int 6) = some (.int 1000000) := rfl
  have p2 : binop .pow (.int 10) (.int 39) = some (.int (10 ^ 39)) := rfl
  simp only [b__law_odd]
  simp only [p1, p2, mkT, mkL, LIM, Nat.reduceLeDiff, exs, ex, ev, evs, evB, evIf, okk_bind, okk_ok, okk_lift, okk_asB, okk_if, okk_noX, lift_some, Res.bind_ok, List.map_cons, List.map_nil, List.length_cons, List.length_nil, List.replicate, List.cons_append, List.nil_append, List.getElem?_cons_zero, List.getElem?_cons_succ, List.set_cons_zero, List.set_cons_succ, Nat.reduceSub, Nat.reduceAdd, if_true, Bool.false_eq_true, if_false, Option.some.injEq, exists_eq_left', bo_add, bo_sub, co_lt, co_le, co_gt, co_ge, co_eqi, co_nei, co_isN, co_notN, bg_lenL, bg_lenT, ixd_l, ixd_t, de_lst, de_tup, tg_nm, Tg.slots, wipeR, iterD, items, op_none, op_int, sld_l, sld_t]
  refine ⟨_, bo_lst (by decide), ?_⟩
  simp only [exs, ex, ev, evs, evB, evIf, okk_bind, okk_ok, okk_lift, okk_asB, okk_if, okk_noX, lift_some, Res.bind_ok, List.map_cons, List.map_nil, List.length_cons, List.length_nil, List.replicate, List.cons_append, List.nil_append, List.getElem?_cons_zero, List.getElem?_cons_succ, List.set_cons_zero, List.set_cons_succ, Nat.reduceSub, Nat.reduceAdd, if_true, Bool.false_eq_true, if_false, Option.some.injEq, exists_eq_left', bo_add, bo_sub, co_lt, co_le, co_gt, co_ge, co_eqi, co_nei, co_isN, co_notN, bg_lenL, bg_lenT, ixd_l, ixd_t, de_lst, de_tup, tg_nm, Tg.slots, wipeR, iterD, items, op_none, op_int, sld_l, sld_t]
  refine (draw_okA rfl h (by decide) (by decide) (by omega)).mono fun _ g1 ⟨v1, e1, a1, b1, h1⟩ => ?_
  subst e1
  obtain ⟨d, hd, hq⟩ := pickB (q := sm 2 4) (v := v1) (xs := [D.non, D.bl true, D.bl false, D.int (-1), D.int 0, D.int 1, D.int 1000000, D.int (1000000 + 1), D.int (10 ^ 39), D.str (Str.ofString ""), D.str (Str.ofString "1"), .tup [], .lst [], D.dct [] [], .tup [D.int 0], .lst [D.int 1], .tup [D.bl true]] ++ [.tup [D.int 0, D.int 1], .tup [D.int 1, D.int 0], .tup [.tup [], .tup []], .tup [.tup [D.int 0], .tup []], .tup [D.int 1, .tup [D.int 1]], .tup [.tup []], .dct [.inr (Str.ofString "a")] [D.int 1]]) (by decide +kernel) a1 (by simpa using b1)
  exact ⟨d, hd, hq, h1⟩
end
end T
end
section
set_option Elab.async false
set_option linter.all false
set_option maxRecDepth 100000
set_option maxHeartbeats 4000000
namespace T
open PySem L2 Bk
def okW (d : D) : Bool := isNum 1 1000000 d
def badF : List D → Nat → D
  | [], _ => .non
  | w :: ws, k => if okW w then badF ws (k + 1) else .tup [.int k, .str (Str.ofString "weight")]
def badL : List D → Nat → List D
  | [], _ => []
  | w :: ws, k => if okW w then badL ws (k + 1) else .int k :: badL ws (k + 1)
theorem badFL (ws : List D) (k : Nat) : badF ws k = match badL ws k with
    | [] => .non
    | x :: _ => .tup [x, .str (Str.ofString "weight")] := by
  induction ws generalizing k with
  | nil => rfl
  | cons w ws ih =>
    unfold badF badL
    split
    · exact ih _
    · rfl
theorem shpBad (ws : List D) (k : Nat) : shps 59 (badL ws k) = true := by
  induction ws generalizing k with
  | nil => rfl
  | cons w ws ih =>
    unfold badL
    split
    · exact ih _
    · exact ih _
def terr : D → D
  | .tup [e, w] => if okW e then (match w with
    | .tup ws => if 24 < ws.length then .tup [.non, .str (Str.ofString "weights")] else badF ws 0
    | _ => .tup [.non, .str (Str.ofString "weights")]) else .tup [.non, .str (Str.ofString "excess")]
  | _ => .tup [.non, .str (Str.ofString "tower")]
section
variable {n : Nat} {g : List O}
theorem exc_ok {d : D} (h : plain d = true) : callN gl P (n + 2) f_is_excess [d] g = .ok (.bl (okW d)) g := by
  refine okk_eq ?_
  refine okk_call (fn := b_is_excess) rfl rfl ?_
  have q : gl c_MAX_EXCESS = some (.int 1000000) := rfl
  simp only [b_is_excess]
  simp only [q, num_ok (Pf := P) (f := f_is_number) rfl h, okW, exs, ex, ev, evs, evB, evIf, okk_bind, okk_ok, okk_lift, okk_asB, okk_if, okk_noX, lift_some, Res.bind_ok, List.map_cons, List.map_nil, List.length_cons, List.length_nil, List.replicate, List.cons_append, List.nil_append, List.getElem?_cons_zero, List.getElem?_cons_succ, List.set_cons_zero, List.set_cons_succ, Nat.reduceSub, Nat.reduceAdd, if_true, Bool.false_eq_true, if_false, Option.some.injEq, exists_eq_left', bo_add, bo_sub, co_lt, co_le, co_gt, co_ge, co_eqi, co_nei, co_isN, co_notN, bg_lenL, bg_lenT, ixd_l, ixd_t, de_lst, de_tup, tg_nm, Tg.slots, wipeR, iterD, items, op_none, op_int, sld_l, sld_t, D.bl.injEq, Bool.not_true, Bool.not_false, Bool.true_eq_false, and_true, isTup]
theorem wei_ok {d : D} (h : plain d = true) : callN gl P (n + 2) f_is_weight [d] g = .ok (.bl (okW d)) g := by
  refine okk_eq ?_
  refine okk_call (fn := b_is_weight) rfl rfl ?_
  have q : gl c_MAX_WEIGHT = some (.int 1000000) := rfl
  simp only [b_is_weight]
  simp only [q, num_ok (Pf := P) (f := f_is_number) rfl h, okW, exs, ex, ev, evs, evB, evIf, okk_bind, okk_ok, okk_lift, okk_asB, okk_if, okk_noX, lift_some, Res.bind_ok, List.map_cons, List.map_nil, List.length_cons, List.length_nil, List.replicate, List.cons_append, List.nil_append, List.getElem?_cons_zero, List.getElem?_cons_succ, List.set_cons_zero, List.set_cons_succ, Nat.reduceSub, Nat.reduceAdd, if_true, Bool.false_eq_true, if_false, Option.some.injEq, exists_eq_left', bo_add, bo_sub, co_lt, co_le, co_gt, co_ge, co_eqi, co_nei, co_isN, co_notN, bg_lenL, bg_lenT, ixd_l, ixd_t, de_lst, de_tup, tg_nm, Tg.slots, wipeR, iterD, items, op_none, op_int, sld_l, sld_t, D.bl.injEq, Bool.not_true, Bool.not_false, Bool.true_eq_false, and_true, isTup]
theorem okvs_get {ws : List D} (h : okvs ws = true) : ∀ {i : Nat} {d : D}, ws[i]? = some d → okv d = true := by
  induction ws with
  | nil => intro i d hi; cases i <;> cases hi
  | cons w ws ih =>
    intro i d hi
    simp only [okvs, Bool.and_eq_true] at h
    cases i with
    | zero => cases hi; exact h.1
    | succ i => exact ih h.2 hi
theorem te_ok {d : D} (h : okv d = true) : callN gl P (n + 3) f_tower_error [d] g = .ok (terr d) g := by
  refine okk_eq ?_
  refine okk_call (fn := b_tower_error) rfl rfl ?_
  have q : gl c_MAX_PEOPLE = some (.int 24) := rfl
  have T2 : ∀ a b : D, mkT [a, b] = some (.tup [a, b]) := fun _ _ => rfl
  simp only [b_tower_error]
  simp only [q, T2, ty_tup (okv_plain h), exs, ex, ev, evs, evB, evIf, okk_bind, okk_ok, okk_lift, okk_asB, okk_if, okk_noX, lift_some, Res.bind_ok, List.map_cons, List.map_nil, List.length_cons, List.length_nil, List.replicate, List.cons_append, List.nil_append, List.getElem?_cons_zero, List.getElem?_cons_succ, List.set_cons_zero, List.set_cons_succ, Nat.reduceSub, Nat.reduceAdd, if_true, Bool.false_eq_true, if_false, Option.some.injEq, exists_eq_left', bo_add, bo_sub, co_lt, co_le, co_gt, co_ge, co_eqi, co_nei, co_isN, co_notN, bg_lenL, bg_lenT, ixd_l, ixd_t, de_lst, de_tup, tg_nm, Tg.slots, wipeR, iterD, items, op_none, op_int, sld_l, sld_t, D.bl.injEq, Bool.not_true, Bool.not_false, Bool.true_eq_false, and_true, isTup]
  cases d with
  | ref k => cases h
  | scr k => cases h
  | tup xs =>
    simp only [q, T2, exs, ex, ev, evs, evB, evIf, okk_bind, okk_ok, okk_lift, okk_asB, okk_if, okk_noX, lift_some, Res.bind_ok, List.map_cons, List.map_nil, List.length_cons, List.length_nil, List.replicate, List.cons_append, List.nil_append, List.getElem?_cons_zero, List.getElem?_cons_succ, List.set_cons_zero, List.set_cons_succ, Nat.reduceSub, Nat.reduceAdd, if_true, Bool.false_eq_true, if_false, Option.some.injEq, exists_eq_left', bo_add, bo_sub, co_lt, co_le, co_gt, co_ge, co_eqi, co_nei, co_isN, co_notN, bg_lenL, bg_lenT, ixd_l, ixd_t, de_lst, de_tup, tg_nm, Tg.slots, wipeR, iterD, items, op_none, op_int, sld_l, sld_t, D.bl.injEq, Bool.not_true, Bool.not_false, Bool.true_eq_false, and_true, isTup]
    match xs, h with
    | [], h => simp only [exs, ex, ev, evs, evB, evIf, okk_bind, okk_ok, okk_lift, okk_asB, okk_if, okk_noX, lift_some, Res.bind_ok, List.map_cons, List.map_nil, List.length_cons, List.length_nil, List.replicate, List.cons_append, List.nil_append, List.getElem?_cons_zero, List.getElem?_cons_succ, List.set_cons_zero, List.set_cons_succ, Nat.reduceSub, Nat.reduceAdd, if_true, Bool.false_eq_true, if_false, Option.some.injEq, exists_eq_left', bo_add, bo_sub, co_lt, co_le, co_gt, co_ge, co_eqi, co_nei, co_isN, co_notN, bg_lenL, bg_lenT, ixd_l, ixd_t, de_lst, de_tup, tg_nm, Tg.slots, wipeR, iterD, items, op_none, op_int, sld_l, sld_t, D.bl.injEq, Bool.not_true, Bool.not_false, Bool.true_eq_false, and_true, isTup]
               exact rfl
    | [a], h => exact rfl
    | a :: b :: c :: r, h =>
      have e : ((((a :: b :: c :: r).length : Nat) : Int) == 2) = false := by
        simp only [List.length_cons, beq_eq_false_iff_ne]; omega
      rw [e]
      exact rfl
    | [e, w], h =>
      simp only [okv, okvs, Bool.and_eq_true] at h
      have t2 : ∀ (r : List Slot) (a b : D), setTg r (.tp [1, 2]) (.tup [a, b]) = some ((r.set 1 (.fz a)).set 2 (.fz b)) := fun _ _ _ => rfl
      have h2 : ((([e, w].length : Nat) : Int) == 2) = true := rfl
      rw [h2]
      simp only [q, T2, t2, exc_ok (okv_plain h.1), ty_tup (okv_plain h.2.1), exs, ex, ev, evs, evB, evIf, okk_bind, okk_ok, okk_lift, okk_asB, okk_if, okk_noX, lift_some, Res.bind_ok, List.map_cons, List.map_nil, List.length_cons, List.length_nil, List.replicate, List.cons_append, List.nil_append, List.getElem?_cons_zero, List.getElem?_cons_succ, List.set_cons_zero, List.set_cons_succ, Nat.reduceSub, Nat.reduceAdd, if_true, Bool.false_eq_true, if_false, Option.some.injEq, exists_eq_left', bo_add, bo_sub, co_lt, co_le, co_gt, co_ge, co_eqi, co_nei, co_isN, co_notN, bg_lenL, bg_lenT, ixd_l, ixd_t, de_lst, de_tup, tg_nm, Tg.slots, wipeR, iterD, items, op_none, op_int, sld_l, sld_t, D.bl.injEq, Bool.not_true, Bool.not_false, Bool.true_eq_false, and_true, isTup]
      simp only [terr]
      by_cases he : okW e = true
      · rw [he]
        cases w with
        | ref k => cases h.2.1
        | scr k => cases h.2.1
        | tup ws =>
          simp only [exs, ex, ev, evs, evB, evIf, okk_bind, okk_ok, okk_lift, okk_asB, okk_if, okk_noX, lift_some, Res.bind_ok, List.map_cons, List.map_nil, List.length_cons, List.length_nil, List.replicate, List.cons_append, List.nil_append, List.getElem?_cons_zero, List.getElem?_cons_succ, List.set_cons_zero, List.set_cons_succ, Nat.reduceSub, Nat.reduceAdd, if_true, Bool.false_eq_true, if_false, Option.some.injEq, exists_eq_left', bo_add, bo_sub, co_lt, co_le, co_gt, co_ge, co_eqi, co_nei, co_isN, co_notN, bg_lenL, bg_lenT, ixd_l, ixd_t, de_lst, de_tup, tg_nm, Tg.slots, wipeR, iterD, items, op_none, op_int, sld_l, sld_t, D.bl.injEq, Bool.not_true, Bool.not_false, Bool.true_eq_false, and_true, isTup]
          by_cases hl : 24 < ws.length
          · rw [decide_eq_true (show (24 : Int) < ws.length by omega)]
            simp only [exs, ex, ev, evs, evB, evIf, okk_bind, okk_ok, okk_lift, okk_asB, okk_if, okk_noX, lift_some, Res.bind_ok, List.map_cons, List.map_nil, List.length_cons, List.length_nil, List.replicate, List.cons_append, List.nil_append, List.getElem?_cons_zero, List.getElem?_cons_succ, List.set_cons_zero, List.set_cons_succ, Nat.reduceSub, Nat.reduceAdd, if_true, Bool.false_eq_true, if_false, Option.some.injEq, exists_eq_left', bo_add, bo_sub, co_lt, co_le, co_gt, co_ge, co_eqi, co_nei, co_isN, co_notN, bg_lenL, bg_lenT, ixd_l, ixd_t, de_lst, de_tup, tg_nm, Tg.slots, wipeR, iterD, items, op_none, op_int, sld_l, sld_t, D.bl.injEq, Bool.not_true, Bool.not_false, Bool.true_eq_false, and_true, isTup]
            rw [if_pos hl]
          · rw [decide_eq_false (show ¬ (24 : Int) < ws.length by omega)]
            simp only [exs, ex, ev, evs, evB, evIf, okk_bind, okk_ok, okk_lift, okk_asB, okk_if, okk_noX, lift_some, Res.bind_ok, List.map_cons, List.map_nil, List.length_cons, List.length_nil, List.replicate, List.cons_append, List.nil_append, List.getElem?_cons_zero, List.getElem?_cons_succ, List.set_cons_zero, List.set_cons_succ, Nat.reduceSub, Nat.reduceAdd, if_true, Bool.false_eq_true, if_false, Option.some.injEq, exists_eq_left', bo_add, bo_sub, co_lt, co_le, co_gt, co_ge, co_eqi, co_nei, co_isN, co_notN, bg_lenL, bg_lenT, ixd_l, ixd_t, de_lst, de_tup, tg_nm, Tg.slots, wipeR, iterD, items, op_none, op_int, sld_l, sld_t, D.bl.injEq, Bool.not_true, Bool.not_false, Bool.true_eq_false, and_true, isTup]
            rw [if_neg hl]
            refine ⟨_, rfl, okk_loopF (fun i r g' => g' = g ∧ badF ws 0 = badF (ws.drop i) i ∧ ∃ a b, r = [.fz (.tup [e, .tup ws]), .fz e, .fz (.tup ws), a, b]) ⟨rfl, rfl, _, _, rfl⟩ ?_ ?_⟩
            · intro i d r g' hi ⟨hg, hb, a, b, hr⟩
              subst hg hr
              rw [List.getElem?_map, List.getElem?_zipIdx] at hi
              cases hw : ws[i]? with
              | none => rw [hw] at hi; cases hi
              | some z =>
                rw [hw] at hi
                simp only [Option.map_some, Nat.zero_add, Option.some.injEq] at hi
                subst hi
                have hz : okv z = true := okvs_get (by simpa only [okv] using h.2.1) hw
                have t3 : ∀ (r : List Slot) (a b : D), setTg r (.tp [3, 4]) (.tup [a, b]) = some ((r.set 3 (.fz a)).set 4 (.fz b)) := fun _ _ _ => rfl
                have hdr : ws.drop i = z :: ws.drop (i + 1) := by
                  obtain ⟨hlt, rfl⟩ := List.getElem?_eq_some_iff.mp hw
                  exact List.drop_eq_getElem_cons hlt
                rw [hdr, badF] at hb
                simp only [t3, T2, wei_ok (okv_plain hz), exs, ex, ev, evs, evB, evIf, okk_bind, okk_ok, okk_lift, okk_asB, okk_if, okk_noX, lift_some, Res.bind_ok, List.map_cons, List.map_nil, List.length_cons, List.length_nil, List.replicate, List.cons_append, List.nil_append, List.getElem?_cons_zero, List.getElem?_cons_succ, List.set_cons_zero, List.set_cons_succ, Nat.reduceSub, Nat.reduceAdd, if_true, Bool.false_eq_true, if_false, Option.some.injEq, exists_eq_left', bo_add, bo_sub, co_lt, co_le, co_gt, co_ge, co_eqi, co_nei, co_isN, co_notN, bg_lenL, bg_lenT, ixd_l, ixd_t, de_lst, de_tup, tg_nm, Tg.slots, wipeR, iterD, items, op_none, op_int, sld_l, sld_t, D.bl.injEq, Bool.not_true, Bool.not_false, Bool.true_eq_false, and_true, isTup]
                by_cases hq : okW z = true
                · rw [if_pos hq] at hb
                  rw [hq]
                  simp only [exs, ex, ev, evs, evB, evIf, okk_bind, okk_ok, okk_lift, okk_asB, okk_if, okk_noX, lift_some, Res.bind_ok, List.map_cons, List.map_nil, List.length_cons, List.length_nil, List.replicate, List.cons_append, List.nil_append, List.getElem?_cons_zero, List.getElem?_cons_succ, List.set_cons_zero, List.set_cons_succ, Nat.reduceSub, Nat.reduceAdd, if_true, Bool.false_eq_true, if_false, Option.some.injEq, exists_eq_left', bo_add, bo_sub, co_lt, co_le, co_gt, co_ge, co_eqi, co_nei, co_isN, co_notN, bg_lenL, bg_lenT, ixd_l, ixd_t, de_lst, de_tup, tg_nm, Tg.slots, wipeR, iterD, items, op_none, op_int, sld_l, sld_t, D.bl.injEq, Bool.not_true, Bool.not_false, Bool.true_eq_false, and_true, isTup]
                  exact ⟨trivial, hb, _, _, rfl⟩
                · rw [Bool.not_eq_true] at hq
                  rw [hq, if_neg Bool.false_ne_true] at hb
                  rw [hq]
                  simp only [exs, ex, ev, evs, evB, evIf, okk_bind, okk_ok, okk_lift, okk_asB, okk_if, okk_noX, lift_some, Res.bind_ok, List.map_cons, List.map_nil, List.length_cons, List.length_nil, List.replicate, List.cons_append, List.nil_append, List.getElem?_cons_zero, List.getElem?_cons_succ, List.set_cons_zero, List.set_cons_succ, Nat.reduceSub, Nat.reduceAdd, if_true, Bool.false_eq_true, if_false, Option.some.injEq, exists_eq_left', bo_add, bo_sub, co_lt, co_le, co_gt, co_ge, co_eqi, co_nei, co_isN, co_notN, bg_lenL, bg_lenT, ixd_l, ixd_t, de_lst, de_tup, tg_nm, Tg.slots, wipeR, iterD, items, op_none, op_int, sld_l, sld_t, D.bl.injEq, Bool.not_true, Bool.not_false, Bool.true_eq_false, and_true, isTup]
                  exact hb.symm
            · intro r g' ⟨hg, hb, _⟩
              subst hg
              rw [List.length_map, List.length_zipIdx, List.drop_length] at hb
              simp only [exs, ex, ev, evs, evB, evIf, okk_bind, okk_ok, okk_lift, okk_asB, okk_if, okk_noX, lift_some, Res.bind_ok, List.map_cons, List.map_nil, List.length_cons, List.length_nil, List.replicate, List.cons_append, List.nil_append, List.getElem?_cons_zero, List.getElem?_cons_succ, List.set_cons_zero, List.set_cons_succ, Nat.reduceSub, Nat.reduceAdd, if_true, Bool.false_eq_true, if_false, Option.some.injEq, exists_eq_left', bo_add, bo_sub, co_lt, co_le, co_gt, co_ge, co_eqi, co_nei, co_isN, co_notN, bg_lenL, bg_lenT, ixd_l, ixd_t, de_lst, de_tup, tg_nm, Tg.slots, wipeR, iterD, items, op_none, op_int, sld_l, sld_t, D.bl.injEq, Bool.not_true, Bool.not_false, Bool.true_eq_false, and_true, isTup]
              exact hb.symm
        | _ => simp only [T2, exs, ex, ev, evs, evB, evIf, okk_bind, okk_ok, okk_lift, okk_asB, okk_if, okk_noX, lift_some, Res.bind_ok, List.map_cons, List.map_nil, List.length_cons, List.length_nil, List.replicate, List.cons_append, List.nil_append, List.getElem?_cons_zero, List.getElem?_cons_succ, List.set_cons_zero, List.set_cons_succ, Nat.reduceSub, Nat.reduceAdd, if_true, Bool.false_eq_true, if_false, Option.some.injEq, exists_eq_left', bo_add, bo_sub, co_lt, co_le, co_gt, co_ge, co_eqi, co_nei, co_isN, co_notN, bg_lenL, bg_lenT, ixd_l, ixd_t, de_lst, de_tup, tg_nm, Tg.slots, wipeR, iterD, items, op_none, op_int, sld_l, sld_t, D.bl.injEq, Bool.not_true, Bool.not_false, Bool.true_eq_false, and_true, isTup]
      · rw [Bool.not_eq_true] at he
        rw [he]
        simp only [exs, ex, ev, evs, evB, evIf, okk_bind, okk_ok, okk_lift, okk_asB, okk_if, okk_noX, lift_some, Res.bind_ok, List.map_cons, List.map_nil, List.length_cons, List.length_nil, List.replicate, List.cons_append, List.nil_append, List.getElem?_cons_zero, List.getElem?_cons_succ, List.set_cons_zero, List.set_cons_succ, Nat.reduceSub, Nat.reduceAdd, if_true, Bool.false_eq_true, if_false, Option.some.injEq, exists_eq_left', bo_add, bo_sub, co_lt, co_le, co_gt, co_ge, co_eqi, co_nei, co_isN, co_notN, bg_lenL, bg_lenT, ixd_l, ixd_t, de_lst, de_tup, tg_nm, Tg.slots, wipeR, iterD, items, op_none, op_int, sld_l, sld_t, D.bl.injEq, Bool.not_true, Bool.not_false, Bool.true_eq_false, and_true, isTup]
  | _ => simp only [exs, ex, ev, evs, evB, evIf, okk_bind, okk_ok, okk_lift, okk_asB, okk_if, okk_noX, lift_some, Res.bind_ok, List.map_cons, List.map_nil, List.length_cons, List.length_nil, List.replicate, List.cons_append, List.nil_append, List.getElem?_cons_zero, List.getElem?_cons_succ, List.set_cons_zero, List.set_cons_succ, Nat.reduceSub, Nat.reduceAdd, if_true, Bool.false_eq_true, if_false, Option.some.injEq, exists_eq_left', bo_add, bo_sub, co_lt, co_le, co_gt, co_ge, co_eqi, co_nei, co_isN, co_notN, bg_lenL, bg_lenT, ixd_l, ixd_t, de_lst, de_tup, tg_nm, Tg.slots, wipeR, iterD, items, op_none, op_int, sld_l, sld_t, D.bl.injEq, Bool.not_true, Bool.not_false, Bool.true_eq_false, and_true, isTup]
         rfl
end
end T
end
section
set_option Elab.async false
set_option linter.all false
set_option maxRecDepth 100000
set_option maxHeartbeats 4000000
namespace T
open PySem L2 Bk
section
variable {n : Nat} {g : List O}
theorem lnum_ok {d : D} {lo hi : Int} (h : plain d = true) : callN gl P (n + 1) f__law_is_number [d, .int lo, .int hi] g = .ok (.bl (isNum lo hi d)) g :=
  num_ok (Pf := P) (f := f__law_is_number) rfl h
theorem badL_len (ws : List D) (k : Nat) : (badL ws k).length ≤ ws.length := by
  induction ws generalizing k with
  | nil => exact Nat.le_refl _
  | cons w ws ih =>
    unfold badL
    have := ih (k + 1)
    split <;> simp only [List.length_cons] <;> omega
theorem rng_get {k i : Nat} {d : D} (h : ((List.range k).map fun i => D.int (i : Nat))[i]? = some d) : i < k ∧ d = .int (i : Nat) := by
  rw [List.getElem?_map] at h
  cases q : (List.range k)[i]? with
  | none => rw [q] at h; cases h
  | some z =>
    obtain ⟨hlt, e⟩ := List.getElem?_eq_some_iff.mp q
    rw [List.getElem_range] at e
    subst e
    rw [q] at h
    exact ⟨by simpa using hlt, by cases h; rfl⟩
theorem le_ok {d : D} (h : okv d = true) : callN gl P (n + 3) f__law_error [d] g = .ok (terr d) g := by
  refine okk_eq ?_
  refine okk_call (fn := b__law_error) rfl rfl ?_
  have T2 : ∀ a b : D, mkT [a, b] = some (.tup [a, b]) := fun _ _ => rfl
  have L0 : mkL [] = some (.lst []) := rfl
  have p1 : binop .pow (.int 10) (.int 6) = some (.int 1000000) := rfl
  simp only [b__law_error]
  simp only [T2, p1, ty_tup (okv_plain h), exs, ex, ev, evs, evB, evIf, okk_bind, okk_ok, okk_lift, okk_asB, okk_if, okk_noX, lift_some, Res.bind_ok, List.map_cons, List.map_nil, List.length_cons, List.length_nil, List.replicate, List.cons_append, List.nil_append, List.getElem?_cons_zero, List.getElem?_cons_succ, List.set_cons_zero, List.set_cons_succ, Nat.reduceSub, Nat.reduceAdd, if_true, Bool.false_eq_true, if_false, Option.some.injEq, exists_eq_left', bo_add, bo_sub, co_lt, co_le, co_gt, co_ge, co_eqi, co_nei, co_isN, co_notN, bg_lenL, bg_lenT, ixd_l, ixd_t, de_lst, de_tup, tg_nm, Tg.slots, wipeR, iterD, items, op_none, op_int, sld_l, sld_t, D.bl.injEq, Bool.not_true, Bool.not_false, Bool.true_eq_false, and_true, isTup]
  cases d with
  | ref k => cases h
  | scr k => cases h
  | tup xs =>
    simp only [T2, exs, ex, ev, evs, evB, evIf, okk_bind, okk_ok, okk_lift, okk_asB, okk_if, okk_noX, lift_some, Res.bind_ok, List.map_cons, List.map_nil, List.length_cons, List.length_nil, List.replicate, List.cons_append, List.nil_append, List.getElem?_cons_zero, List.getElem?_cons_succ, List.set_cons_zero, List.set_cons_succ, Nat.reduceSub, Nat.reduceAdd, if_true, Bool.false_eq_true, if_false, Option.some.injEq, exists_eq_left', bo_add, bo_sub, co_lt, co_le, co_gt, co_ge, co_eqi, co_nei, co_isN, co_notN, bg_lenL, bg_lenT, ixd_l, ixd_t, de_lst, de_tup, tg_nm, Tg.slots, wipeR, iterD, items, op_none, op_int, sld_l, sld_t, D.bl.injEq, Bool.not_true, Bool.not_false, Bool.true_eq_false, and_true, isTup]
    match xs, h with
    | [], h => simp only [exs, ex, ev, evs, evB, evIf, okk_bind, okk_ok, okk_lift, okk_asB, okk_if, okk_noX, lift_some, Res.bind_ok, List.map_cons, List.map_nil, List.length_cons, List.length_nil, List.replicate, List.cons_append, List.nil_append, List.getElem?_cons_zero, List.getElem?_cons_succ, List.set_cons_zero, List.set_cons_succ, Nat.reduceSub, Nat.reduceAdd, if_true, Bool.false_eq_true, if_false, Option.some.injEq, exists_eq_left', bo_add, bo_sub, co_lt, co_le, co_gt, co_ge, co_eqi, co_nei, co_isN, co_notN, bg_lenL, bg_lenT, ixd_l, ixd_t, de_lst, de_tup, tg_nm, Tg.slots, wipeR, iterD, items, op_none, op_int, sld_l, sld_t, D.bl.injEq, Bool.not_true, Bool.not_false, Bool.true_eq_false, and_true, isTup]
               exact rfl
    | [a], h => exact rfl
    | a :: b :: c :: r, h =>
      have e : ((((a :: b :: c :: r).length : Nat) : Int) == 2) = false := by
        simp only [List.length_cons, beq_eq_false_iff_ne]; omega
      rw [e]
      exact rfl
    | [e, w], h =>
      simp only [okv, okvs, Bool.and_eq_true] at h
      have h2 : ((([e, w].length : Nat) : Int) == 2) = true := rfl
      have a0 : atI [e, w] 0 = some e := rfl
      have a1 : atI [e, w] 1 = some w := rfl
      rw [h2]
      simp only [T2, p1, a0, a1, lnum_ok (okv_plain h.1), ty_tup (okv_plain h.2.1), exs, ex, ev, evs, evB, evIf, okk_bind, okk_ok, okk_lift, okk_asB, okk_if, okk_noX, lift_some, Res.bind_ok, List.map_cons, List.map_nil, List.length_cons, List.length_nil, List.replicate, List.cons_append, List.nil_append, List.getElem?_cons_zero, List.getElem?_cons_succ, List.set_cons_zero, List.set_cons_succ, Nat.reduceSub, Nat.reduceAdd, if_true, Bool.false_eq_true, if_false, Option.some.injEq, exists_eq_left', bo_add, bo_sub, co_lt, co_le, co_gt, co_ge, co_eqi, co_nei, co_isN, co_notN, bg_lenL, bg_lenT, ixd_l, ixd_t, de_lst, de_tup, tg_nm, Tg.slots, wipeR, iterD, items, op_none, op_int, sld_l, sld_t, D.bl.injEq, Bool.not_true, Bool.not_false, Bool.true_eq_false, and_true, isTup]
      simp only [terr, okW]
      by_cases he : isNum 1 1000000 e = true
      · simp only [he, Bool.not_true, Bool.false_eq_true, if_true, if_false]
        cases w with
        | ref k => cases h.2.1
        | scr k => cases h.2.1
        | tup ws =>
          simp only [exs, ex, ev, evs, evB, evIf, okk_bind, okk_ok, okk_lift, okk_asB, okk_if, okk_noX, lift_some, Res.bind_ok, List.map_cons, List.map_nil, List.length_cons, List.length_nil, List.replicate, List.cons_append, List.nil_append, List.getElem?_cons_zero, List.getElem?_cons_succ, List.set_cons_zero, List.set_cons_succ, Nat.reduceSub, Nat.reduceAdd, if_true, Bool.false_eq_true, if_false, Option.some.injEq, exists_eq_left', bo_add, bo_sub, co_lt, co_le, co_gt, co_ge, co_eqi, co_nei, co_isN, co_notN, bg_lenL, bg_lenT, ixd_l, ixd_t, de_lst, de_tup, tg_nm, Tg.slots, wipeR, iterD, items, op_none, op_int, sld_l, sld_t, D.bl.injEq, Bool.not_true, Bool.not_false, Bool.true_eq_false, and_true, isTup]
          by_cases hl : 24 < ws.length
          · rw [decide_eq_true (show (24 : Int) < ws.length by omega)]
            simp only [exs, ex, ev, evs, evB, evIf, okk_bind, okk_ok, okk_lift, okk_asB, okk_if, okk_noX, lift_some, Res.bind_ok, List.map_cons, List.map_nil, List.length_cons, List.length_nil, List.replicate, List.cons_append, List.nil_append, List.getElem?_cons_zero, List.getElem?_cons_succ, List.set_cons_zero, List.set_cons_succ, Nat.reduceSub, Nat.reduceAdd, if_true, Bool.false_eq_true, if_false, Option.some.injEq, exists_eq_left', bo_add, bo_sub, co_lt, co_le, co_gt, co_ge, co_eqi, co_nei, co_isN, co_notN, bg_lenL, bg_lenT, ixd_l, ixd_t, de_lst, de_tup, tg_nm, Tg.slots, wipeR, iterD, items, op_none, op_int, sld_l, sld_t, D.bl.injEq, Bool.not_true, Bool.not_false, Bool.true_eq_false, and_true, isTup]
            rw [if_pos hl]
          · rw [decide_eq_false (show ¬ (24 : Int) < ws.length by omega)]
            have h5 : -1000000 ≤ (ws.length : Int) ∧ (ws.length : Int) ≤ 1000000 := by omega
            simp only [if_neg hl, if_pos h5, exs, ex, ev, evs, evB, evIf, okk_bind, okk_ok, okk_lift, okk_asB, okk_if, okk_noX, lift_some, Res.bind_ok, List.map_cons, List.map_nil, List.length_cons, List.length_nil, List.replicate, List.cons_append, List.nil_append, List.getElem?_cons_zero, List.getElem?_cons_succ, List.set_cons_zero, List.set_cons_succ, Nat.reduceSub, Nat.reduceAdd, if_true, Bool.false_eq_true, if_false, Option.some.injEq, exists_eq_left', bo_add, bo_sub, co_lt, co_le, co_gt, co_ge, co_eqi, co_nei, co_isN, co_notN, bg_lenL, bg_lenT, ixd_l, ixd_t, de_lst, de_tup, tg_nm, Tg.slots, wipeR, iterD, items, op_none, op_int, sld_l, sld_t, D.bl.injEq, Bool.not_true, Bool.not_false, Bool.true_eq_false, and_true, isTup]
            refine okk_loopC (fun i acc g' => g' = g ∧ badL ws 0 = acc ++ badL (ws.drop i) i) ⟨rfl, rfl⟩ ?_ ?_
            · intro i d acc g' hi ⟨hg, hb⟩
              subst hg
              obtain ⟨hlt, rfl⟩ := rng_get hi
              rw [Int.toNat_natCast] at hlt
              have hw : ws[i]? = some ws[i] := List.getElem?_eq_getElem hlt
              have hz : okv ws[i] = true := okvs_get (by simpa only [okv] using h.2.1) hw
              have hal : acc.length < LIM := by
                have q1 := badL_len ws 0
                rw [hb, List.length_append] at q1
                exact Nat.lt_of_le_of_lt (show acc.length ≤ 24 by omega) (by decide)
              rw [List.drop_eq_getElem_cons hlt, badL] at hb
              simp only [at_nat hw, p1, lnum_ok (okv_plain hz), exs, ex, ev, evs, evB, evIf, okk_bind, okk_ok, okk_lift, okk_asB, okk_if, okk_noX, lift_some, Res.bind_ok, List.map_cons, List.map_nil, List.length_cons, List.length_nil, List.replicate, List.cons_append, List.nil_append, List.getElem?_cons_zero, List.getElem?_cons_succ, List.set_cons_zero, List.set_cons_succ, Nat.reduceSub, Nat.reduceAdd, if_true, Bool.false_eq_true, if_false, Option.some.injEq, exists_eq_left', bo_add, bo_sub, co_lt, co_le, co_gt, co_ge, co_eqi, co_nei, co_isN, co_notN, bg_lenL, bg_lenT, ixd_l, ixd_t, de_lst, de_tup, tg_nm, Tg.slots, wipeR, iterD, items, op_none, op_int, sld_l, sld_t, D.bl.injEq, Bool.not_true, Bool.not_false, Bool.true_eq_false, and_true, isTup]
              by_cases hq : isNum 1 1000000 ws[i] = true
              · rw [if_pos (by exact hq)] at hb
                simp only [hq]
                simp only [exs, ex, ev, evs, evB, evIf, okk_bind, okk_ok, okk_lift, okk_asB, okk_if, okk_noX, lift_some, Res.bind_ok, List.map_cons, List.map_nil, List.length_cons, List.length_nil, List.replicate, List.cons_append, List.nil_append, List.getElem?_cons_zero, List.getElem?_cons_succ, List.set_cons_zero, List.set_cons_succ, Nat.reduceSub, Nat.reduceAdd, if_true, Bool.false_eq_true, if_false, Option.some.injEq, exists_eq_left', bo_add, bo_sub, co_lt, co_le, co_gt, co_ge, co_eqi, co_nei, co_isN, co_notN, bg_lenL, bg_lenT, ixd_l, ixd_t, de_lst, de_tup, tg_nm, Tg.slots, wipeR, iterD, items, op_none, op_int, sld_l, sld_t, D.bl.injEq, Bool.not_true, Bool.not_false, Bool.true_eq_false, and_true, isTup]
                exact ⟨trivial, hb⟩
              · rw [if_neg (by exact hq)] at hb
                rw [Bool.not_eq_true] at hq
                simp only [hq]
                simp only [hal, exs, ex, ev, evs, evB, evIf, okk_bind, okk_ok, okk_lift, okk_asB, okk_if, okk_noX, lift_some, Res.bind_ok, List.map_cons, List.map_nil, List.length_cons, List.length_nil, List.replicate, List.cons_append, List.nil_append, List.getElem?_cons_zero, List.getElem?_cons_succ, List.set_cons_zero, List.set_cons_succ, Nat.reduceSub, Nat.reduceAdd, if_true, Bool.false_eq_true, if_false, Option.some.injEq, exists_eq_left', bo_add, bo_sub, co_lt, co_le, co_gt, co_ge, co_eqi, co_nei, co_isN, co_notN, bg_lenL, bg_lenT, ixd_l, ixd_t, de_lst, de_tup, tg_nm, Tg.slots, wipeR, iterD, items, op_none, op_int, sld_l, sld_t, D.bl.injEq, Bool.not_true, Bool.not_false, Bool.true_eq_false, and_true, isTup]
                exact ⟨trivial, by rw [hb, List.append_assoc]; rfl⟩
            · intro acc g' ⟨hg, hb⟩
              subst hg
              rw [List.length_map, List.length_range, Int.toNat_natCast, List.drop_length] at hb
              simp only [badL, List.append_nil] at hb
              subst hb
              have h6 : shps 59 (badL ws 0) = true := shpBad ws 0
              have h7 : cmpop .eq (.lst (badL ws 0)) (.lst []) = some (eqDs (badL ws 0) []) := by
                simp only [cmpop, shp, h6, shps, eqD, Bool.and_self, if_true]
              rw [badFL]
              cases hB : badL ws 0 with
              | nil =>
                rw [hB] at h7
                simp only [L0, h7, eqDs, exs, ex, ev, evs, evB, evIf, okk_bind, okk_ok, okk_lift, okk_asB, okk_if, okk_noX, lift_some, Res.bind_ok, List.map_cons, List.map_nil, List.length_cons, List.length_nil, List.replicate, List.cons_append, List.nil_append, List.getElem?_cons_zero, List.getElem?_cons_succ, List.set_cons_zero, List.set_cons_succ, Nat.reduceSub, Nat.reduceAdd, if_true, Bool.false_eq_true, if_false, Option.some.injEq, exists_eq_left', bo_add, bo_sub, co_lt, co_le, co_gt, co_ge, co_eqi, co_nei, co_isN, co_notN, bg_lenL, bg_lenT, ixd_l, ixd_t, de_lst, de_tup, tg_nm, Tg.slots, wipeR, iterD, items, op_none, op_int, sld_l, sld_t, D.bl.injEq, Bool.not_true, Bool.not_false, Bool.true_eq_false, and_true, isTup]
              | cons x r =>
                rw [hB] at h7
                have a2 : atI (x :: r) 0 = some x := at_int (Int.le_refl 0) rfl
                simp only [L0, h7, eqDs, T2, a2, exs, ex, ev, evs, evB, evIf, okk_bind, okk_ok, okk_lift, okk_asB, okk_if, okk_noX, lift_some, Res.bind_ok, List.map_cons, List.map_nil, List.length_cons, List.length_nil, List.replicate, List.cons_append, List.nil_append, List.getElem?_cons_zero, List.getElem?_cons_succ, List.set_cons_zero, List.set_cons_succ, Nat.reduceSub, Nat.reduceAdd, if_true, Bool.false_eq_true, if_false, Option.some.injEq, exists_eq_left', bo_add, bo_sub, co_lt, co_le, co_gt, co_ge, co_eqi, co_nei, co_isN, co_notN, bg_lenL, bg_lenT, ixd_l, ixd_t, de_lst, de_tup, tg_nm, Tg.slots, wipeR, iterD, items, op_none, op_int, sld_l, sld_t, D.bl.injEq, Bool.not_true, Bool.not_false, Bool.true_eq_false, and_true, isTup]
        | _ => simp only [T2, exs, ex, ev, evs, evB, evIf, okk_bind, okk_ok, okk_lift, okk_asB, okk_if, okk_noX, lift_some, Res.bind_ok, List.map_cons, List.map_nil, List.length_cons, List.length_nil, List.replicate, List.cons_append, List.nil_append, List.getElem?_cons_zero, List.getElem?_cons_succ, List.set_cons_zero, List.set_cons_succ, Nat.reduceSub, Nat.reduceAdd, if_true, Bool.false_eq_true, if_false, Option.some.injEq, exists_eq_left', bo_add, bo_sub, co_lt, co_le, co_gt, co_ge, co_eqi, co_nei, co_isN, co_notN, bg_lenL, bg_lenT, ixd_l, ixd_t, de_lst, de_tup, tg_nm, Tg.slots, wipeR, iterD, items, op_none, op_int, sld_l, sld_t, D.bl.injEq, Bool.not_true, Bool.not_false, Bool.true_eq_false, and_true, isTup]
      · rw [Bool.not_eq_true] at he
        simp only [he]
        simp only [exs, ex, ev, evs, evB, evIf, okk_bind, okk_ok, okk_lift, okk_asB, okk_if, okk_noX, lift_some, Res.bind_ok, List.map_cons, List.map_nil, List.length_cons, List.length_nil, List.replicate, List.cons_append, List.nil_append, List.getElem?_cons_zero, List.getElem?_cons_succ, List.set_cons_zero, List.set_cons_succ, Nat.reduceSub, Nat.reduceAdd, if_true, Bool.false_eq_true, if_false, Option.some.injEq, exists_eq_left', bo_add, bo_sub, co_lt, co_le, co_gt, co_ge, co_eqi, co_nei, co_isN, co_notN, bg_lenL, bg_lenT, ixd_l, ixd_t, de_lst, de_tup, tg_nm, Tg.slots, wipeR, iterD, items, op_none, op_int, sld_l, sld_t, D.bl.injEq, Bool.not_true, Bool.not_false, Bool.true_eq_false, and_true, isTup]
  | _ => simp only [exs, ex, ev, evs, evB, evIf, okk_bind, okk_ok, okk_lift, okk_asB, okk_if, okk_noX, lift_some, Res.bind_ok, List.map_cons, List.map_nil, List.length_cons, List.length_nil, List.replicate, List.cons_append, List.nil_append, List.getElem?_cons_zero, List.getElem?_cons_succ, List.set_cons_zero, List.set_cons_succ, Nat.reduceSub, Nat.reduceAdd, if_true, Bool.false_eq_true, if_false, Option.some.injEq, exists_eq_left', bo_add, bo_sub, co_lt, co_le, co_gt, co_ge, co_eqi, co_nei, co_isN, co_notN, bg_lenL, bg_lenT, ixd_l, ixd_t, de_lst, de_tup, tg_nm, Tg.slots, wipeR, iterD, items, op_none, op_int, sld_l, sld_t, D.bl.injEq, Bool.not_true, Bool.not_false, Bool.true_eq_false, and_true, isTup]
         rfl
end
end T
end
section
set_option Elab.async false
set_option linter.all false
set_option maxRecDepth 100000
set_option maxHeartbeats 4000000
namespace T
open PySem L2 Bk
section
variable {n o B : Nat} {g : List O}
/-- items: all okv, a deep at most, b nodes in all -/
def sms (a b : Nat) (xs : List D) : Prop := okvs xs = true ∧ deps xs ≤ a ∧ nods xs ≤ b
theorem okvs_app (xs ys : List D) : okvs (xs ++ ys) = (okvs xs && okvs ys) := by
  induction xs with
  | nil => rfl
  | cons x xs ih => simp only [List.cons_append, okvs, ih, Bool.and_assoc]
theorem deps_app (xs ys : List D) : deps (xs ++ ys) = max (deps xs) (deps ys) := by
  induction xs with
  | nil => simp [deps]
  | cons x xs ih => simp only [List.cons_append, deps, ih]; omega
theorem nods_app (xs ys : List D) : nods (xs ++ ys) = nods xs + nods ys := by
  induction xs with
  | nil => simp [nods]
  | cons x xs ih => simp only [List.cons_append, nods, ih]; omega
theorem sms_app {a b c : Nat} {xs ys : List D} (h : sms a b xs) (k : sms a c ys) : sms a (b + c) (xs ++ ys) := by
  refine ⟨by rw [okvs_app, h.1, k.1]; rfl, ?_, ?_⟩
  · rw [deps_app]; have := h.2.1; have := k.2.1; omega
  · rw [nods_app]; have := h.2.2; have := k.2.2; omega
theorem sms_one {a b : Nat} {d : D} (h : sm a b d = true) : sms a b [d] := by
  have := sm_ok h
  refine ⟨by simp only [okvs, this.1, Bool.and_self], by simp only [deps]; omega, by simp only [nods]; omega⟩
theorem sms_left {a b : Nat} {xs ys : List D} (h : sms a b (xs ++ ys)) : sms a b xs := by
  obtain ⟨h1, h2, h3⟩ := h
  rw [okvs_app, Bool.and_eq_true] at h1
  rw [deps_app] at h2
  rw [nods_app] at h3
  exact ⟨h1.1, by omega, by omega⟩
theorem sms_right {a b : Nat} {xs ys : List D} (h : sms a b (xs ++ ys)) : sms a b ys := by
  obtain ⟨h1, h2, h3⟩ := h
  rw [okvs_app, Bool.and_eq_true] at h1
  rw [deps_app] at h2
  rw [nods_app] at h3
  exact ⟨h1.2, by omega, by omega⟩
theorem sms_cut {a b : Nat} {xs : List D} {lo hi : Option Int} (h : sms a b xs) : sms a b (cut xs lo hi) := by
  unfold cut
  have h1 : sms a b (xs.drop (HT.sIx xs.length 0 lo)) := by
    rw [← List.take_append_drop (HT.sIx xs.length 0 lo) xs] at h
    exact sms_right h
  rw [← List.take_append_drop (HT.sIx xs.length xs.length hi - HT.sIx xs.length 0 lo) (xs.drop (HT.sIx xs.length 0 lo))] at h1
  exact sms_left h1
theorem sms_tup {a b : Nat} {xs : List D} (h : sms a b xs) : sm (a + 1) (b + 1) (.tup xs) = true := by
  obtain ⟨h1, h2, h3⟩ := h
  have e1 : okv (.tup xs) = true := by simp only [okv, h1]
  have e2 : dep (.tup xs) ≤ a + 1 := by simp only [dep]; omega
  have e3 : nod (.tup xs) ≤ b + 1 := by simp only [nod]; omega
  unfold sm
  rw [e1, decide_eq_true e2, decide_eq_true e3]
  rfl
theorem sms_lst {a b : Nat} {xs : List D} (h : sms a b xs) : sm (a + 1) (b + 1) (.lst xs) = true := by
  obtain ⟨h1, h2, h3⟩ := h
  have e1 : okv (.lst xs) = true := by simp only [okv, h1]
  have e2 : dep (.lst xs) ≤ a + 1 := by simp only [dep]; omega
  have e3 : nod (.lst xs) ≤ b + 1 := by simp only [nod]; omega
  unfold sm
  rw [e1, decide_eq_true e2, decide_eq_true e3]
  rfl
theorem sm_le {a b a' b' : Nat} {d : D} (h : sm a b d = true) (h1 : a ≤ a') (h2 : b ≤ b') : sm a' b' d = true := by
  have := sm_ok h
  simp only [sm, this.1, Bool.true_and, Bool.and_eq_true, decide_eq_true_eq]
  omega
theorem sms_le {a b a' b' : Nat} {xs : List D} (h : sms a b xs) (h1 : a ≤ a') (h2 : b ≤ b') : sms a' b' xs := by
  obtain ⟨h3, h4, h5⟩ := h
  exact ⟨h3, by omega, by omega⟩
theorem sms_ints {ws : List Int} (h : ∀ w ∈ ws, 1 ≤ w ∧ w ≤ 1000000) : sms 0 ws.length (ws.map D.int) := by
  induction ws with
  | nil => exact ⟨rfl, Nat.le_refl _, Nat.le_refl _⟩
  | cons w ws ih =>
    have h1 := ih fun x hx => h x (List.mem_cons_of_mem _ hx)
    have h2 := h w (List.mem_cons_self ..)
    have h3 : sm 0 1 (.int w) = true := by
      have : w.natAbs < 10 ^ 40 := Nat.lt_of_le_of_lt (show w.natAbs ≤ 1000000 by omega) (by decide)
      simp only [sm, okv, dep, nod, this, decide_true, Nat.le_refl, Bool.and_self]
    have := sms_app (sms_one h3) h1
    rw [Nat.add_comm] at this
    exact this
theorem sm_str {i : Int} (h : i.natAbs < 10 ^ 40) : sm 0 1 (.str (Str.ofString (toString i))) = true := by
  have h1 : (Str.ofString (toString i)).length ≤ 60 := by
    have := int_text_length_le10 (a := i) (k := 40) (by decide) h
    rw [ofString_length]
    omega
  have h2 : ((Str.ofString (toString i)).cps.toList.all fun c => decide (c < 16 ^ 8)) = true := by
    rw [Str.ofString_eq_toList]
    rw [List.all_eq_true]
    intro c hc
    simp only [List.mem_map] at hc
    obtain ⟨x, _, rfl⟩ := hc
    have : x.toNat < 1114112 := by
      show x.val.toNat < 1114112
      rcases x.valid with q | ⟨_, q⟩
      · exact Nat.lt_trans q (by decide)
      · exact q
    exact decide_eq_true (Nat.lt_trans this (by decide))
  simp only [sm, okv, dep, nod, h1, h2, decide_true, Nat.le_refl, Bool.and_self]
theorem terr_sm {d : D} (h : okv d = true) : sm 1 3 (terr d) = true := by
  have go : ∀ (ws : List D) (k : Nat), k + ws.length ≤ 1000 → sm 1 3 (badF ws k) = true := by
    intro ws
    induction ws with
    | nil => intro k _; rfl
    | cons w ws ih =>
      intro k hk
      simp only [List.length_cons] at hk
      unfold badF
      split
      · exact ih _ (by omega)
      · have : ((k : Nat) : Int).natAbs < 10 ^ 40 := Nat.lt_of_le_of_lt (show _ ≤ 1000 by omega) (by decide)
        have h1 : sm 0 1 (.int (k : Nat)) = true := by
          simp only [sm, okv, dep, nod, this, decide_true, Nat.le_refl, Bool.and_self]
        exact sm_le (sms_tup (sms_app (sms_one h1) (sms_one (show sm 0 1 (.str (Str.ofString "weight")) = true by decide))) ) (Nat.le_refl _) (Nat.le_refl _)
  unfold terr
  split
  · split
    · split
      · split
        · decide
        · exact go _ _ (by omega)
      · decide
    · decide
  · decide
theorem same_ok {d : D} (h : okv d = true) (h1 : dep d ≤ 60) (h2 : nod d ≤ 1290) : callN gl P (n + 1) f__law_same [d, d] g = .ok (.bl true) g := by
  refine okk_eq ?_
  refine okk_call (fn := b__law_same) rfl rfl ?_
  have b1 : biG g .repr [d] = some (.str (shown d)) := (bg_of (by decide)).trans (bi_reprV h h1 h2)
  have b2 : (shown d == shown d) = true := by simp
  simp only [b__law_same]
  simp only [b1, co_eqs, b2, exs, ex, ev, evs, evB, evIf, okk_bind, okk_ok, okk_lift, okk_asB, okk_if, okk_noX, lift_some, Res.bind_ok, List.map_cons, List.map_nil, List.length_cons, List.length_nil, List.replicate, List.cons_append, List.nil_append, List.getElem?_cons_zero, List.getElem?_cons_succ, List.set_cons_zero, List.set_cons_succ, Nat.reduceSub, Nat.reduceAdd, if_true, Bool.false_eq_true, if_false, Option.some.injEq, exists_eq_left', bo_add, bo_sub, co_lt, co_le, co_gt, co_ge, co_eqi, co_nei, co_isN, co_notN, bg_lenL, bg_lenT, ixd_l, ixd_t, de_lst, de_tup, tg_nm, Tg.slots, wipeR, iterD, items, op_none, op_int, sld_l, sld_t, D.bl.injEq, Bool.not_true, Bool.not_false, Bool.true_eq_false, and_true, isTup]
theorem is_ok {d : D} (h : okv d = true) : callN gl P (n + 4) f_is_tower [d] g = .ok (.bl (terr d).isNon) g := by
  refine okk_eq ?_
  refine okk_call (fn := b_is_tower) rfl rfl ?_
  simp only [b_is_tower]
  simp only [te_ok h, exs, ex, ev, evs, evB, evIf, okk_bind, okk_ok, okk_lift, okk_asB, okk_if, okk_noX, lift_some, Res.bind_ok, List.map_cons, List.map_nil, List.length_cons, List.length_nil, List.replicate, List.cons_append, List.nil_append, List.getElem?_cons_zero, List.getElem?_cons_succ, List.set_cons_zero, List.set_cons_succ, Nat.reduceSub, Nat.reduceAdd, if_true, Bool.false_eq_true, if_false, Option.some.injEq, exists_eq_left', bo_add, bo_sub, co_lt, co_le, co_gt, co_ge, co_eqi, co_nei, co_isN, co_notN, bg_lenL, bg_lenT, ixd_l, ixd_t, de_lst, de_tup, tg_nm, Tg.slots, wipeR, iterD, items, op_none, op_int, sld_l, sld_t, D.bl.injEq, Bool.not_true, Bool.not_false, Bool.true_eq_false, and_true, isTup]
theorem get_int {ws : List Int} {j : Nat} {d : D} (h : (ws.map D.int)[j]? = some d) : ∃ w, d = .int w ∧ w ∈ ws := by
  rw [List.getElem?_map] at h
  cases q : ws[j]? with
  | none => rw [q] at h; cases h
  | some z => rw [q] at h; cases h; exact ⟨z, rfl, List.mem_of_getElem? q⟩
theorem int_sm {w : Int} (h : 1 ≤ w ∧ w ≤ 1000000) : sm 0 1 (.int w) = true := by
  have : w.natAbs < 10 ^ 40 := Nat.lt_of_le_of_lt (show w.natAbs ≤ 1000000 by omega) (by decide)
  simp only [sm, okv, dep, nod, this, decide_true, Nat.le_refl, Bool.and_self]
theorem nod_pos (d : D) : 1 ≤ nod d := by cases d <;> simp only [nod] <;> omega
theorem len_nods (xs : List D) : xs.length ≤ nods xs := by
  induction xs with
  | nil => exact Nat.le_refl _
  | cons x xs ih => have := nod_pos x; simp only [nods, List.length_cons]; omega
theorem sadd {a b a' c : Nat} {xs ys : List D} (h : sms a b xs) (k : sms a' c ys) (hb : b ≤ 1000) (hc : c ≤ 1000) : binop .add (.tup xs) (.tup ys) = some (.tup (xs ++ ys)) := by
  have h1 := len_nods xs
  have h2 := len_nods ys
  have h3 := h.2.2
  have h4 := k.2.2
  exact bo_tup (Nat.le_trans (show _ ≤ 2000 by omega) (by decide))
theorem sms_all {a : Nat} : ∀ {xs : List D}, (∀ d ∈ xs, sm a 1 d = true) → sms a xs.length xs
  | [], _ => ⟨rfl, Nat.zero_le _, Nat.le_refl _⟩
  | d :: xs, h => by
    have := sms_app (sms_one (h d (List.mem_cons_self ..))) (sms_all fun x hx => h x (List.mem_cons_of_mem _ hx))
    rw [Nat.add_comm] at this
    exact this
theorem cut_len {α : Type} (xs : List α) (k : Nat) : (cut xs none (some (k : Int))).length ≤ k := by
  unfold cut
  rw [List.length_take]
  have h1 : HT.sIx xs.length xs.length (some (k : Int)) ≤ k := by
    unfold HT.sIx
    simp only
    rw [if_neg (by omega)]
    omega
  omega
theorem cut_mem {α : Type} {xs : List α} {lo hi : Option Int} {x : α} (h : x ∈ cut xs lo hi) : x ∈ xs := List.mem_of_mem_drop (List.mem_of_mem_take h)
theorem weights_ok {ws : List Int} (h : DK g o B) (hB : B < 2 ^ 38) (hl : ws.length ≤ 24) (hw : ∀ w ∈ ws, 1 ≤ w ∧ w ≤ 1000000) :
    Okk (callN gl P (n + 3) f__law_weights [.ref o, .tup (ws.map D.int)] g) fun d g' => sm 4 60 d = true ∧ DK g' o (B + 4) := by
  refine okk_call (fn := b__law_weights) rfl rfl ?_
  have hin : ∀ w ∈ ws ++ [1], 1 ≤ w ∧ w ≤ 1000000 := by
    intro w hm
    rcases List.mem_append.mp hm with q | q
    · exact hw w q
    · simp only [List.mem_singleton] at q
      subst q
      decide
  have p1 : binop .pow (.int 10) (.int 6) = some (.int 1000000) := rfl
  have tA : binop .add (.tup (ws.map D.int)) (.tup [.int 1]) = some (.tup ((ws ++ [1]).map D.int)) := by
    rw [bo_tup (Nat.le_trans (show _ ≤ 25 by simp; omega) (by decide)), List.map_append]
    rfl
  simp only [b__law_weights]
  try simp only [exs, ex, ev, evs, evB, evIf, okk_bind, okk_ok, okk_lift, okk_asB, okk_if, okk_noX, lift_some, Res.bind_ok, List.map_cons, List.map_nil, List.length_cons, List.length_nil, List.replicate, List.cons_append, List.nil_append, List.getElem?_cons_zero, List.getElem?_cons_succ, List.set_cons_zero, List.set_cons_succ, Nat.reduceSub, Nat.reduceAdd, if_true, Bool.false_eq_true, if_false, Option.some.injEq, exists_eq_left', bo_add, bo_sub, co_lt, co_le, co_gt, co_ge, co_eqi, co_nei, co_isN, co_notN, bg_lenL, bg_lenT, ixd_l, ixd_t, de_lst, de_tup, tg_nm, Tg.slots, wipeR, iterD, items, op_none, op_int, sld_l, sld_t, D.bl.injEq, Bool.not_true, Bool.not_false, Bool.true_eq_false, and_true, isTup]
  have hll : (((ws.map D.int).length : Nat) : Int) = ws.length := by rw [List.length_map]
  rw [hll]
  refine (draw_okA rfl h (by omega) (by omega) (by omega)).mono fun _ g1 ⟨v1, e1, a1, b1, h1⟩ => ?_
  subst e1
  refine (odd_ok h1 (by omega)).mono fun z g2 ⟨hz, h2⟩ => ?_
  try simp only [p1, tA, List.zip_cons_cons, List.zip_nil_left, List.foldl_cons, List.foldl_nil, mkT, mkL, LIM, Nat.reduceLeDiff, exs, ex, ev, evs, evB, evIf, okk_bind, okk_ok, okk_lift, okk_asB, okk_if, okk_noX, lift_some, Res.bind_ok, List.map_cons, List.map_nil, List.length_cons, List.length_nil, List.replicate, List.cons_append, List.nil_append, List.getElem?_cons_zero, List.getElem?_cons_succ, List.set_cons_zero, List.set_cons_succ, Nat.reduceSub, Nat.reduceAdd, if_true, Bool.false_eq_true, if_false, Option.some.injEq, exists_eq_left', bo_add, bo_sub, co_lt, co_le, co_gt, co_ge, co_eqi, co_nei, co_isN, co_notN, bg_lenL, bg_lenT, ixd_l, ixd_t, de_lst, de_tup, tg_nm, Tg.slots, wipeR, iterD, items, op_none, op_int, sld_l, sld_t, D.bl.injEq, Bool.not_true, Bool.not_false, Bool.true_eq_false, and_true, isTup]
  have hv : v1.toNat < (ws ++ [1]).length := by rw [List.length_append, List.length_singleton]; omega
  have hat : ((ws ++ [1]).map D.int)[v1.toNat]? = some (.int (ws ++ [1])[v1.toNat]) := by
    rw [List.getElem?_map, List.getElem?_eq_getElem hv]
    rfl
  have hwa := hin _ (List.getElem_mem hv)
  generalize (ws ++ [1])[v1.toNat] = wa at hat hwa
  refine ⟨_, at_int a1 hat, ?_⟩
  try simp only [exs, ex, ev, evs, evB, evIf, okk_bind, okk_ok, okk_lift, okk_asB, okk_if, okk_noX, lift_some, Res.bind_ok, List.map_cons, List.map_nil, List.length_cons, List.length_nil, List.replicate, List.cons_append, List.nil_append, List.getElem?_cons_zero, List.getElem?_cons_succ, List.set_cons_zero, List.set_cons_succ, Nat.reduceSub, Nat.reduceAdd, if_true, Bool.false_eq_true, if_false, Option.some.injEq, exists_eq_left', bo_add, bo_sub, co_lt, co_le, co_gt, co_ge, co_eqi, co_nei, co_isN, co_notN, bg_lenL, bg_lenT, ixd_l, ixd_t, de_lst, de_tup, tg_nm, Tg.slots, wipeR, iterD, items, op_none, op_int, sld_l, sld_t, D.bl.injEq, Bool.not_true, Bool.not_false, Bool.true_eq_false, and_true, isTup]
  refine ⟨_, at_int a1 hat, ?_⟩
  try simp only [exs, ex, ev, evs, evB, evIf, okk_bind, okk_ok, okk_lift, okk_asB, okk_if, okk_noX, lift_some, Res.bind_ok, List.map_cons, List.map_nil, List.length_cons, List.length_nil, List.replicate, List.cons_append, List.nil_append, List.getElem?_cons_zero, List.getElem?_cons_succ, List.set_cons_zero, List.set_cons_succ, Nat.reduceSub, Nat.reduceAdd, if_true, Bool.false_eq_true, if_false, Option.some.injEq, exists_eq_left', bo_add, bo_sub, co_lt, co_le, co_gt, co_ge, co_eqi, co_nei, co_isN, co_notN, bg_lenL, bg_lenT, ixd_l, ixd_t, de_lst, de_tup, tg_nm, Tg.slots, wipeR, iterD, items, op_none, op_int, sld_l, sld_t, D.bl.injEq, Bool.not_true, Bool.not_false, Bool.true_eq_false, and_true, isTup]
  refine ⟨_, at_int a1 hat, ?_⟩
  have hwn : wa.natAbs < 10 ^ 40 := Nat.lt_of_le_of_lt (show wa.natAbs ≤ 1000000 by omega) (by decide)
  have s1 : ∀ g : List O, biG g .str [.int wa] = some (.str (Str.ofString (toString wa))) := fun g => by
    rw [bg_of (by decide)]
    simp only [biD]
    rw [if_pos (p1900 hwn)]
  try simp only [s1, exs, ex, ev, evs, evB, evIf, okk_bind, okk_ok, okk_lift, okk_asB, okk_if, okk_noX, lift_some, Res.bind_ok, List.map_cons, List.map_nil, List.length_cons, List.length_nil, List.replicate, List.cons_append, List.nil_append, List.getElem?_cons_zero, List.getElem?_cons_succ, List.set_cons_zero, List.set_cons_succ, Nat.reduceSub, Nat.reduceAdd, if_true, Bool.false_eq_true, if_false, Option.some.injEq, exists_eq_left', bo_add, bo_sub, co_lt, co_le, co_gt, co_ge, co_eqi, co_nei, co_isN, co_notN, bg_lenL, bg_lenT, ixd_l, ixd_t, de_lst, de_tup, tg_nm, Tg.slots, wipeR, iterD, items, op_none, op_int, sld_l, sld_t, D.bl.injEq, Bool.not_true, Bool.not_false, Bool.true_eq_false, and_true, isTup]
  refine (draw_okA rfl h2 (by decide) (by decide) (by omega)).mono fun _ g3 ⟨v3, e3, a3, b3, h3⟩ => ?_
  subst e3
  have hq : [z, .int 0, .int 1000000, .int (1000000 + 1), .int (-1), .bl (wa == 1), .tup [.int wa], .str (Str.ofString (toString wa))].all (sm 2 4) = true := by
    simp only [List.all_cons, List.all_nil, hz, Bool.true_and, Bool.and_true]
    rw [sm_le (sms_tup (sms_one (int_sm hwa))) (by decide) (by decide), sm_le (sm_str hwn) (by decide) (by decide)]
    cases wa == 1 <;> decide
  obtain ⟨nw, hnw, hs⟩ := pickB hq a3 (by simpa using b3)
  refine ⟨_, hnw, ?_⟩
  try simp only [exs, ex, ev, evs, evB, evIf, okk_bind, okk_ok, okk_lift, okk_asB, okk_if, okk_noX, lift_some, Res.bind_ok, List.map_cons, List.map_nil, List.length_cons, List.length_nil, List.replicate, List.cons_append, List.nil_append, List.getElem?_cons_zero, List.getElem?_cons_succ, List.set_cons_zero, List.set_cons_succ, Nat.reduceSub, Nat.reduceAdd, if_true, Bool.false_eq_true, if_false, Option.some.injEq, exists_eq_left', bo_add, bo_sub, co_lt, co_le, co_gt, co_ge, co_eqi, co_nei, co_isN, co_notN, bg_lenL, bg_lenT, ixd_l, ixd_t, de_lst, de_tup, tg_nm, Tg.slots, wipeR, iterD, items, op_none, op_int, sld_l, sld_t, D.bl.injEq, Bool.not_true, Bool.not_false, Bool.true_eq_false, and_true, isTup]
  have hW := sms_le (sms_ints hw) (Nat.le_refl _) hl
  have hA := sms_cut (lo := none) (hi := some v1) hW
  have hT := sms_cut (lo := some (v1 + 1)) (hi := none) hW
  have hR := sms_cut (lo := some v1) (hi := none) hW
  generalize cut (ws.map D.int) none (some v1) = A at hA ⊢
  generalize cut (ws.map D.int) (some (v1 + 1)) none = C at hT ⊢
  generalize cut (ws.map D.int) (some v1) none = R at hR ⊢
  have hA' := sms_le hA (show 0 ≤ 2 by decide) (Nat.le_refl _)
  have hN := sms_app hA' (sms_one hs)
  have hmul : binop .mul (.tup ((ws ++ [1]).map D.int)) (.int 25) = some (.tup (List.replicate 25 ((ws ++ [1]).map D.int)).flatten) := by
    simp only [binop]
    rw [if_pos ⟨by simp, by decide, by decide, by simp; omega⟩]
    rfl
  have hM : ∀ d ∈ (List.replicate 25 ((ws ++ [1]).map D.int)).flatten, sm 0 1 d = true := by
    intro d hd
    obtain ⟨l, hl1, hl2⟩ := List.mem_flatten.mp hd
    rw [(List.mem_replicate.mp hl1).2] at hl2
    obtain ⟨w, hw1, rfl⟩ := List.mem_map.mp hl2
    exact int_sm (hin w hw1)
  generalize (List.replicate 25 ((ws ++ [1]).map D.int)).flatten = M at hmul hM
  have hc : ∀ k : Nat, k ≤ 25 → sm 4 60 (.tup (cut M none (some (k : Int)))) = true := by
    intro k hk
    have := sms_all (a := 0) (xs := cut M none (some (k : Int))) fun d hd => hM d (cut_mem hd)
    have h5 := cut_len M k
    exact sm_le (sms_tup this) (by decide) (by omega)
  have h24 := hc 24 (by decide)
  have h25 := hc 25 (by decide)
  refine ⟨_, hmul, _, sadd hA (sms_one hs) (by decide) (by decide), _, sadd hN hT (by decide) (by decide), _, sadd hA (sms_one hs) (by decide) (by decide), _, sadd hN hR (by decide) (by decide), _, sadd hA hT (by decide) (by decide), _, bg_of (by decide), _, rfl, _, rfl, _, rfl, _, rfl, _, rfl, ?_⟩
  refine (draw_okA rfl h3 (by decide) (by decide) (by omega)).mono fun _ g4 ⟨v4, e4, a4, b4, h4⟩ => ?_
  subst e4
  have f0 := sm_le (sms_tup (sms_app hN (sms_le hT (Nat.zero_le 2) (Nat.le_refl _)))) (show 2 + 1 ≤ 4 by decide) (show 24 + 4 + 24 + 1 ≤ 60 by decide)
  have f1 := sm_le (sms_tup (sms_app hN (sms_le hR (Nat.zero_le 2) (Nat.le_refl _)))) (show 2 + 1 ≤ 4 by decide) (show 24 + 4 + 24 + 1 ≤ 60 by decide)
  have f2 := sm_le (sms_tup (sms_app hA hT)) (show 0 + 1 ≤ 4 by decide) (show 24 + 24 + 1 ≤ 60 by decide)
  have f3 := sm_le (sms_lst hW) (show 0 + 1 ≤ 4 by decide) (show 24 + 1 ≤ 60 by decide)
  have f5 := sm_le hz (show 2 ≤ 4 by decide) (show 4 ≤ 60 by decide)
  have hq2 : [D.tup (A ++ [nw] ++ C), .tup (A ++ [nw] ++ R), .tup (A ++ [nw] ++ C), .tup (A ++ [nw] ++ R), .tup (A ++ [nw] ++ C), .tup (A ++ [nw] ++ R), .tup (A ++ [nw] ++ C), .tup (A ++ [nw] ++ R), .tup (A ++ C), .lst (ws.map D.int), .tup [], z, .tup (cut M none (some ((24 : Nat) : Int))), .tup (cut M none (some ((25 : Nat) : Int)))].all (sm 4 60) = true := by
    simp only [List.all_cons, List.all_nil, f0, f1, f2, f3, f5, h24, h25, Bool.true_and, Bool.and_true]
    decide
  obtain ⟨y, hy, hys⟩ := pickB hq2 a4 (by simpa using b4)
  exact ⟨y, hy, hys, h4.le (by omega)⟩
end
end T
end
section
set_option Elab.async false
set_option linter.all false
set_option maxRecDepth 100000
set_option maxHeartbeats 4000000
namespace T
open PySem L2 Bk
section
variable {n o B : Nat} {g : List O}
theorem sm_pair {a b a' b' : Nat} {x y : D} (h : sm a b x = true) (k : sm a' b' y = true) (h1 : a ≤ 4) (h2 : a' ≤ 4) (h3 : b ≤ 60) (h4 : b' ≤ 60) : sm 6 130 (.tup [x, y]) = true :=
  sm_le (sms_tup (sms_app (sms_one (sm_le h h1 h3)) (sms_one (sm_le k h2 h4)))) (by decide) (by decide)
theorem changed_ok {e : Int} {ws : List Int} (h : DK g o B) (hB : B < 2 ^ 37) (he : 1 ≤ e ∧ e ≤ 1000000) (hl : ws.length ≤ 24) (hw : ∀ w ∈ ws, 1 ≤ w ∧ w ≤ 1000000) :
    Okk (callN gl P (n + 4) f__law_changed [.ref o, .tup [.int e, .tup (ws.map D.int)]] g) fun d g' => sm 6 130 d = true ∧ DK g' o (B + 10) := by
  refine okk_call (fn := b__law_changed) rfl rfl ?_
  have p1 : binop .pow (.int 10) (.int 6) = some (.int 1000000) := rfl
  have t2 : ∀ (r : List Slot) (a b : D), setTg r (.tp [4, 5]) (.tup [a, b]) = some ((r.set 4 (.fz a)).set 5 (.fz b)) := fun _ _ _ => rfl
  simp only [b__law_changed]
  simp only [t2, exs, ex, ev, evs, evB, evIf, okk_bind, okk_ok, okk_lift, okk_asB, okk_if, okk_noX, lift_some, Res.bind_ok, List.map_cons, List.map_nil, List.length_cons, List.length_nil, List.replicate, List.cons_append, List.nil_append, List.getElem?_cons_zero, List.getElem?_cons_succ, List.set_cons_zero, List.set_cons_succ, Nat.reduceSub, Nat.reduceAdd, if_true, Bool.false_eq_true, if_false, Option.some.injEq, exists_eq_left', bo_add, bo_sub, co_lt, co_le, co_gt, co_ge, co_eqi, co_nei, co_isN, co_notN, bg_lenL, bg_lenT, ixd_l, ixd_t, de_lst, de_tup, tg_nm, Tg.slots, wipeR, iterD, items, op_none, op_int, sld_l, sld_t, D.bl.injEq, Bool.not_true, Bool.not_false, Bool.true_eq_false, and_true, isTup]
  refine (weights_ok h (by omega) hl hw).mono fun y g1 ⟨hy, h1⟩ => ?_
  try simp only [exs, ex, ev, evs, evB, evIf, okk_bind, okk_ok, okk_lift, okk_asB, okk_if, okk_noX, lift_some, Res.bind_ok, List.map_cons, List.map_nil, List.length_cons, List.length_nil, List.replicate, List.cons_append, List.nil_append, List.getElem?_cons_zero, List.getElem?_cons_succ, List.set_cons_zero, List.set_cons_succ, Nat.reduceSub, Nat.reduceAdd, if_true, Bool.false_eq_true, if_false, Option.some.injEq, exists_eq_left', bo_add, bo_sub, co_lt, co_le, co_gt, co_ge, co_eqi, co_nei, co_isN, co_notN, bg_lenL, bg_lenT, ixd_l, ixd_t, de_lst, de_tup, tg_nm, Tg.slots, wipeR, iterD, items, op_none, op_int, sld_l, sld_t, D.bl.injEq, Bool.not_true, Bool.not_false, Bool.true_eq_false, and_true, isTup]
  refine (odd_ok h1 (by omega)).mono fun z g2 ⟨hz, h2⟩ => ?_
  have hen : e.natAbs < 10 ^ 40 := Nat.lt_of_le_of_lt (show e.natAbs ≤ 1000000 by omega) (by decide)
  have s1 : ∀ g : List O, biG g .str [.int e] = some (.str (Str.ofString (toString e))) := fun g => by
    rw [bg_of (by decide)]
    simp only [biD]
    rw [if_pos (p1900 hen)]
  simp only [p1, s1, List.zip_cons_cons, List.zip_nil_left, List.foldl_cons, List.foldl_nil, mkT, mkL, LIM, Nat.reduceLeDiff, exs, ex, ev, evs, evB, evIf, okk_bind, okk_ok, okk_lift, okk_asB, okk_if, okk_noX, lift_some, Res.bind_ok, List.map_cons, List.map_nil, List.length_cons, List.length_nil, List.replicate, List.cons_append, List.nil_append, List.getElem?_cons_zero, List.getElem?_cons_succ, List.set_cons_zero, List.set_cons_succ, Nat.reduceSub, Nat.reduceAdd, if_true, Bool.false_eq_true, if_false, Option.some.injEq, exists_eq_left', bo_add, bo_sub, co_lt, co_le, co_gt, co_ge, co_eqi, co_nei, co_isN, co_notN, bg_lenL, bg_lenT, ixd_l, ixd_t, de_lst, de_tup, tg_nm, Tg.slots, wipeR, iterD, items, op_none, op_int, sld_l, sld_t, D.bl.injEq, Bool.not_true, Bool.not_false, Bool.true_eq_false, and_true, isTup]
  refine (draw_okA rfl h2 (by decide) (by decide) (by omega)).mono fun _ g3 ⟨v3, e3, a3, b3, h3⟩ => ?_
  subst e3
  have hq : [D.int 0, .int (-1), .int 1000000, .int (1000000 + 1), .bl (e == 1), .str (Str.ofString (toString e)), .tup [.int e], z].all (sm 2 4) = true := by
    simp only [List.all_cons, List.all_nil, hz, Bool.true_and, Bool.and_true]
    rw [sm_le (sms_tup (sms_one (int_sm he))) (by decide) (by decide), sm_le (sm_str hen) (by decide) (by decide)]
    cases e == 1 <;> decide
  obtain ⟨nw, hnw, hs⟩ := pickB hq a3 (by simpa using b3)
  refine ⟨_, hnw, ?_⟩
  try simp only [exs, ex, ev, evs, evB, evIf, okk_bind, okk_ok, okk_lift, okk_asB, okk_if, okk_noX, lift_some, Res.bind_ok, List.map_cons, List.map_nil, List.length_cons, List.length_nil, List.replicate, List.cons_append, List.nil_append, List.getElem?_cons_zero, List.getElem?_cons_succ, List.set_cons_zero, List.set_cons_succ, Nat.reduceSub, Nat.reduceAdd, if_true, Bool.false_eq_true, if_false, Option.some.injEq, exists_eq_left', bo_add, bo_sub, co_lt, co_le, co_gt, co_ge, co_eqi, co_nei, co_isN, co_notN, bg_lenL, bg_lenT, ixd_l, ixd_t, de_lst, de_tup, tg_nm, Tg.slots, wipeR, iterD, items, op_none, op_int, sld_l, sld_t, D.bl.injEq, Bool.not_true, Bool.not_false, Bool.true_eq_false, and_true, isTup]
  have hW : sm 1 25 (.tup (ws.map D.int)) = true := sms_tup (sms_le (sms_ints hw) (Nat.le_refl _) hl)
  have hE := int_sm he
  generalize D.tup (ws.map D.int) = W at hW ⊢
  have f0 := sm_pair hE hy (by decide) (by decide) (by decide) (by decide)
  have f1 := sm_pair hs hW (by decide) (by decide) (by decide) (by decide)
  have f2 := sm_pair hs hy (by decide) (by decide) (by decide) (by decide)
  have f3 : sm 6 130 (.lst [.int e, W]) = true := sm_le (sms_lst (sms_app (sms_one (sm_le hE (show 0 ≤ 1 by decide) (Nat.le_refl 1))) (sms_one hW))) (by decide) (by decide)
  have f4 : sm 6 130 (.tup [.int e]) = true := sm_le (sms_tup (sms_one hE)) (by decide) (by decide)
  have f5 : sm 6 130 (.tup ([.int e, W] ++ [W])) = true := sm_le (sms_tup (sms_app (sms_app (sms_one (sm_le hE (show 0 ≤ 1 by decide) (Nat.le_refl 1))) (sms_one hW)) (sms_one hW))) (by decide) (by decide)
  have f6 : sm 6 130 z = true := sm_le hz (by decide) (by decide)
  have f7 := sm_pair hW hE (by decide) (by decide) (by decide) (by decide)
  have f8 := sm_pair hE hz (by decide) (by decide) (by decide) (by decide)
  have f9 := sm_pair hz hy (by decide) (by decide) (by decide) (by decide)
  have hq2 : [D.tup [.int e, y], .tup [nw, W], .tup [nw, y], D.tup [.int e, y], .tup [nw, W], .tup [nw, y], D.tup [.int e, y], .tup [nw, W], .tup [nw, y], .lst [.int e, W], .tup [.int e], .tup ([.int e, W] ++ [W]), z, .tup [W, .int e], .tup [.int e, z], .tup [z, y]].all (sm 6 130) = true := by
    simp only [List.all_cons, List.all_nil, f0, f1, f2, f3, f4, f5, f6, f7, f8, f9, Bool.true_and, Bool.and_true]
  refine ⟨_, bg_of (by decide), _, bo_tup (show 3 ≤ 1000000 by decide), _, rfl, _, rfl, _, rfl, ?_⟩
  refine (draw_okA rfl h3 (by decide) (by decide) (by omega)).mono fun _ g4 ⟨v4, e4, a4, b4, h4⟩ => ?_
  subst e4
  obtain ⟨q, hq, hqs⟩ := pickB hq2 a4 (by simpa using b4)
  exact ⟨q, hq, hqs, h4.le (by omega)⟩
end
end T
end
section
set_option Elab.async false
set_option linter.all false
set_option maxRecDepth 100000
set_option maxHeartbeats 4000000
namespace T
open PySem L2 Bk
section
variable {n o B : Nat} {g : List O}
def twv (x : Int) : D := if x == 1 then .bl true else .int x
theorem tw_at (x : Int) : atI [.int x, .bl (x == 1)] (if (x == 1) = true then 1 else 0) = some (twv x) := by
  unfold twv
  cases h : (x == 1) <;> rfl
theorem tw_sm {x : Int} (h : 1 ≤ x ∧ x ≤ 1000000) : sm 0 1 (twv x) = true := by
  unfold twv
  split
  · decide
  · exact int_sm h
theorem law_ok (ns : List Int) : Okk (callN gl P (n + 6) f_law [.scr ns] []) fun d _ => d = .bl true := by
  refine okk_call (fn := b_law) rfl rfl ?_
  have p1 : binop .pow (.int 10) (.int 6) = some (.int 1000000) := rfl
  have t2 : ∀ (r : List Slot) (a b : D), setTg r (.tp [7, 8]) (.tup [a, b]) = some ((r.set 7 (.fz a)).set 8 (.fz b)) := fun _ _ _ => rfl
  have L2' : ∀ a b : D, mkL [a, b] = some (.lst [a, b]) := fun _ _ => rfl
  have T2 : ∀ a b : D, mkT [a, b] = some (.tup [a, b]) := fun _ _ => rfl
  have T1 : ∀ a : D, mkT [a] = some (.tup [a]) := fun _ => rfl
  have T0 : mkT [] = some (.tup []) := rfl
  have L9 : ∀ a b c d e f g h i : D, mkL [a, b, c, d, e, f, g, h, i] = some (.lst [a, b, c, d, e, f, g, h, i]) := fun _ _ _ _ _ _ _ _ _ => rfl
  have bm : ∀ j : Int, binop .mod (.int j) (.int 2) = some (.int (j % 2)) := fun j => bo_mod (by decide)
  have bI : ∀ (g : List O) (b : Bool), biG g .int [.bl b] = some (.int (if b = true then 1 else 0)) := fun g b => by
    rw [bg_of (by decide), bi_intB]
  simp only [b_law]
  try simp only [exs, ex, ev, evs, evB, evIf, okk_bind, okk_ok, okk_lift, okk_asB, okk_if, okk_noX, lift_some, Res.bind_ok, List.map_cons, List.map_nil, List.length_cons, List.length_nil, List.replicate, List.cons_append, List.nil_append, List.getElem?_cons_zero, List.getElem?_cons_succ, List.set_cons_zero, List.set_cons_succ, Nat.reduceSub, Nat.reduceAdd, if_true, Bool.false_eq_true, if_false, Option.some.injEq, exists_eq_left', bo_add, bo_sub, co_lt, co_le, co_gt, co_ge, co_eqi, co_nei, co_isN, co_notN, bg_lenL, bg_lenT, ixd_l, ixd_t, de_lst, de_tup, tg_nm, Tg.slots, wipeR, iterD, items, op_none, op_int, sld_l, sld_t, D.bl.injEq, Bool.not_true, Bool.not_false, Bool.true_eq_false, and_true, isTup]
  refine (deck_ok (Pf := P) (f := f__law_deck) rfl).mono fun d g1 ⟨hd, h1⟩ => ?_
  subst hd
  try simp only [exs, ex, ev, evs, evB, evIf, okk_bind, okk_ok, okk_lift, okk_asB, okk_if, okk_noX, lift_some, Res.bind_ok, List.map_cons, List.map_nil, List.length_cons, List.length_nil, List.replicate, List.cons_append, List.nil_append, List.getElem?_cons_zero, List.getElem?_cons_succ, List.set_cons_zero, List.set_cons_succ, Nat.reduceSub, Nat.reduceAdd, if_true, Bool.false_eq_true, if_false, Option.some.injEq, exists_eq_left', bo_add, bo_sub, co_lt, co_le, co_gt, co_ge, co_eqi, co_nei, co_isN, co_notN, bg_lenL, bg_lenT, ixd_l, ixd_t, de_lst, de_tup, tg_nm, Tg.slots, wipeR, iterD, items, op_none, op_int, sld_l, sld_t, D.bl.injEq, Bool.not_true, Bool.not_false, Bool.true_eq_false, and_true, isTup]
  refine ⟨_, rfl, okk_loopF (fun i r g' => DK g' 1 (3000 * i) ∧ ∃ s2 s3 s4 s5 s6 s7 s8 s9 s10, r = [.fz (.scr ns), .fz (.ref 1), s2, s3, s4, s5, s6, s7, s8, s9, s10, .no, .no, .no]) ⟨h1, _, _, _, _, _, _, _, _, _, rfl⟩ ?_ ?_⟩
  · intro i d r g' hi ⟨h, s2, s3, s4, s5, s6, s7, s8, s9, s10, hr⟩
    subst hr
    obtain ⟨hlt, rfl⟩ := rng_get hi
    have hlt8 : i < 8 := hlt
    simp only [L2', p1, bm, exs, ex, ev, evs, evB, evIf, okk_bind, okk_ok, okk_lift, okk_asB, okk_if, okk_noX, lift_some, Res.bind_ok, List.map_cons, List.map_nil, List.length_cons, List.length_nil, List.replicate, List.cons_append, List.nil_append, List.getElem?_cons_zero, List.getElem?_cons_succ, List.set_cons_zero, List.set_cons_succ, Nat.reduceSub, Nat.reduceAdd, if_true, Bool.false_eq_true, if_false, Option.some.injEq, exists_eq_left', bo_add, bo_sub, co_lt, co_le, co_gt, co_ge, co_eqi, co_nei, co_isN, co_notN, bg_lenL, bg_lenT, ixd_l, ixd_t, de_lst, de_tup, tg_nm, Tg.slots, wipeR, iterD, items, op_none, op_int, sld_l, sld_t, D.bl.injEq, Bool.not_true, Bool.not_false, Bool.true_eq_false, and_true, isTup]
    obtain ⟨c, hc, m, rfl, q1, q2⟩ := pick (xs := [D.int 24, D.int 4]) (v := (i : Int) % 2) (Q := fun d => ∃ c : Int, d = .int c ∧ 0 ≤ c ∧ c ≤ 24) (by omega) (show (i : Int) % 2 < 2 by omega) (by
      intro d hd
      simp only [List.mem_cons, List.mem_nil_iff, or_false] at hd
      rcases hd with rfl | rfl
      · exact ⟨_, rfl, by decide, by decide⟩
      · exact ⟨_, rfl, by decide, by decide⟩)
    refine ⟨_, hc, ?_⟩
    refine (tower_okA (Pf := P) (f := f__law_tower) (fd := f__law_draw) rfl rfl h (by omega) q1 (by omega) (by decide) (by decide)).mono fun d g2 ⟨e, ws, hd, he1, he2, hl, hw, h2⟩ => ?_
    subst hd
    have hl24 : ws.length ≤ 24 := by omega
    simp only [t2, L2', T2, T1, T0, bI, tw_at, exs, ex, ev, evs, evB, evIf, okk_bind, okk_ok, okk_lift, okk_asB, okk_if, okk_noX, lift_some, Res.bind_ok, List.map_cons, List.map_nil, List.length_cons, List.length_nil, List.replicate, List.cons_append, List.nil_append, List.getElem?_cons_zero, List.getElem?_cons_succ, List.set_cons_zero, List.set_cons_succ, Nat.reduceSub, Nat.reduceAdd, if_true, Bool.false_eq_true, if_false, Option.some.injEq, exists_eq_left', bo_add, bo_sub, co_lt, co_le, co_gt, co_ge, co_eqi, co_nei, co_isN, co_notN, bg_lenL, bg_lenT, ixd_l, ixd_t, de_lst, de_tup, tg_nm, Tg.slots, wipeR, iterD, items, op_none, op_int, sld_l, sld_t, D.bl.injEq, Bool.not_true, Bool.not_false, Bool.true_eq_false, and_true, isTup]
    refine okk_loopC (fun i acc g' => g' = g2 ∧ acc = (ws.take i).map twv) ⟨rfl, rfl⟩ ?_ ?_
    · intro j d acc g' hj ⟨hg, hacc⟩
      subst hg hacc
      obtain ⟨w, rfl, hwm⟩ := get_int hj
      have hal : ((ws.take j).map twv).length < LIM := by
        rw [List.length_map, List.length_take]
        exact Nat.lt_of_le_of_lt (show _ ≤ 24 by omega) (by decide)
      simp only [L2', bI, tw_at, hal, exs, ex, ev, evs, evB, evIf, okk_bind, okk_ok, okk_lift, okk_asB, okk_if, okk_noX, lift_some, Res.bind_ok, List.map_cons, List.map_nil, List.length_cons, List.length_nil, List.replicate, List.cons_append, List.nil_append, List.getElem?_cons_zero, List.getElem?_cons_succ, List.set_cons_zero, List.set_cons_succ, Nat.reduceSub, Nat.reduceAdd, if_true, Bool.false_eq_true, if_false, Option.some.injEq, exists_eq_left', bo_add, bo_sub, co_lt, co_le, co_gt, co_ge, co_eqi, co_nei, co_isN, co_notN, bg_lenL, bg_lenT, ixd_l, ixd_t, de_lst, de_tup, tg_nm, Tg.slots, wipeR, iterD, items, op_none, op_int, sld_l, sld_t, D.bl.injEq, Bool.not_true, Bool.not_false, Bool.true_eq_false, and_true, isTup]
      refine ⟨trivial, ?_⟩
      rw [List.getElem?_map] at hj
      cases hq : ws[j]? with
      | none => rw [hq] at hj; cases hj
      | some z =>
        rw [hq] at hj
        cases hj
        rw [List.take_succ, hq, List.map_append]
        rfl
    intro acc g' ⟨hg, hacc⟩
    subst hg hacc
    rw [List.length_map, List.take_length]
    have bT : ∀ (g : List O) (xs : List D), biG g .tuple [.lst xs] = some (.tup xs) := fun g xs => by rw [bg_of (by decide), bi_tupL]
    simp only [bT, T2, exs, ex, ev, evs, evB, evIf, okk_bind, okk_ok, okk_lift, okk_asB, okk_if, okk_noX, lift_some, Res.bind_ok, List.map_cons, List.map_nil, List.length_cons, List.length_nil, List.replicate, List.cons_append, List.nil_append, List.getElem?_cons_zero, List.getElem?_cons_succ, List.set_cons_zero, List.set_cons_succ, Nat.reduceSub, Nat.reduceAdd, if_true, Bool.false_eq_true, if_false, Option.some.injEq, exists_eq_left', bo_add, bo_sub, co_lt, co_le, co_gt, co_ge, co_eqi, co_nei, co_isN, co_notN, bg_lenL, bg_lenT, ixd_l, ixd_t, de_lst, de_tup, tg_nm, Tg.slots, wipeR, iterD, items, op_none, op_int, sld_l, sld_t, D.bl.injEq, Bool.not_true, Bool.not_false, Bool.true_eq_false, and_true, isTup]
    refine (odd_ok h2 (by omega)).mono fun z g3 ⟨hz, h3⟩ => ?_
    simp only [L9, exs, ex, ev, evs, evB, evIf, okk_bind, okk_ok, okk_lift, okk_asB, okk_if, okk_noX, lift_some, Res.bind_ok, List.map_cons, List.map_nil, List.length_cons, List.length_nil, List.replicate, List.cons_append, List.nil_append, List.getElem?_cons_zero, List.getElem?_cons_succ, List.set_cons_zero, List.set_cons_succ, Nat.reduceSub, Nat.reduceAdd, if_true, Bool.false_eq_true, if_false, Option.some.injEq, exists_eq_left', bo_add, bo_sub, co_lt, co_le, co_gt, co_ge, co_eqi, co_nei, co_isN, co_notN, bg_lenL, bg_lenT, ixd_l, ixd_t, de_lst, de_tup, tg_nm, Tg.slots, wipeR, iterD, items, op_none, op_int, sld_l, sld_t, D.bl.injEq, Bool.not_true, Bool.not_false, Bool.true_eq_false, and_true, isTup]
    have hE : sm 0 1 (.int e) = true := int_sm ⟨he1, he2⟩
    have hW : sms 0 24 (ws.map D.int) := sms_le (sms_ints hw) (Nat.le_refl _) hl24
    have hTW : sms 0 24 (ws.map twv) := by
      have := sms_all (a := 0) (xs := ws.map twv) (by
        intro d hd
        obtain ⟨w, hw1, rfl⟩ := List.mem_map.mp hd
        exact tw_sm (hw w hw1))
      exact sms_le this (Nat.le_refl _) (by rw [List.length_map]; exact hl24)
    have f0 := sm_pair hE (sms_tup hW) (by decide) (by decide) (by decide) (by decide)
    have f1 := sm_pair (tw_sm ⟨he1, he2⟩) (sms_tup hTW) (by decide) (by decide) (by decide) (by decide)
    have fz : sm 6 130 z = true := sm_le hz (by decide) (by decide)
    refine ⟨_, rfl, okk_loopC (fun j acc g' => DK g' 1 (3000 * i + 2001 + 10 * j) ∧ acc.length = j ∧ ∀ d ∈ acc, sm 6 130 d = true) ⟨h3, rfl, fun d hd => by cases hd⟩ ?_ ?_⟩
    · intro j d acc g4 hj ⟨h4, ha, hb⟩
      obtain ⟨hj14, rfl⟩ := rng_get hj
      have hj14 : j < 14 := hj14
      rw [okk_bind]
      refine (changed_ok h4 (by omega) ⟨he1, he2⟩ hl24 hw).mono fun y g5 ⟨hy, h5⟩ => ?_
      have hal : acc.length < LIM := Nat.lt_of_le_of_lt (show _ ≤ 14 by omega) (by decide)
      rw [if_pos hal]
      refine ⟨h5.le (by omega), by rw [List.length_append, ha]; rfl, ?_⟩
      intro d hd
      rcases List.mem_append.mp hd with q | q
      · exact hb d q
      · rw [List.mem_singleton.mp q]; exact hy
    intro acc g5 ⟨h5, ha, hb⟩
    rw [List.length_map, List.length_range] at ha h5
    have ha : acc.length = 14 := ha
    have h5 : DK g5 1 (3000 * i + 2001 + 10 * 14) := h5
    refine ⟨_, bo_lst (show 9 + acc.length ≤ 1000000 by omega), _, rfl, ?_⟩
    have hall : ∀ d ∈ [D.tup [D.int e, D.tup (List.map D.int ws)], D.tup [twv e, D.tup (List.map twv ws)],
                    D.tup [D.int e, D.tup (List.map D.int ws)], D.tup [D.int 1, D.tup []], D.tup [D.bl true, D.tup []],
                    D.tup [D.int 1, D.tup [D.bl true]], D.tup [D.int 1, D.tup [D.int 1]],
                    D.tup [D.int 0, D.tup [D.int 0]], z] ++ acc, sm 6 130 d = true := by
      intro d hd
      rcases List.mem_append.mp hd with q | q
      · have : [D.tup [D.int e, D.tup (List.map D.int ws)], D.tup [twv e, D.tup (List.map twv ws)],
                    D.tup [D.int e, D.tup (List.map D.int ws)], D.tup [D.int 1, D.tup []], D.tup [D.bl true, D.tup []],
                    D.tup [D.int 1, D.tup [D.bl true]], D.tup [D.int 1, D.tup [D.int 1]],
                    D.tup [D.int 0, D.tup [D.int 0]], z].all (sm 6 130) = true := by
          simp only [List.all_cons, List.all_nil, f0, f1, fz, Bool.true_and, Bool.and_true]
          decide
        exact List.all_eq_true.mp this d q
      · exact hb d q
    generalize ([D.tup [D.int e, D.tup (List.map D.int ws)], D.tup [twv e, D.tup (List.map twv ws)],
                    D.tup [D.int e, D.tup (List.map D.int ws)], D.tup [D.int 1, D.tup []], D.tup [D.bl true, D.tup []],
                    D.tup [D.int 1, D.tup [D.bl true]], D.tup [D.int 1, D.tup [D.int 1]],
                    D.tup [D.int 0, D.tup [D.int 0]], z] ++ acc) = vs at hall ⊢
    refine okk_loopF (fun j r g' => DK g' 1 (3000 * i + 2001 + 10 * 14) ∧ ∃ s2 s3 s4 s5 s6 s7 s8 s9 s10, r = [.fz (.scr ns), .fz (.ref 1), s2, s3, s4, s5, s6, s7, s8, s9, s10, .no, .no, .no]) ⟨h5, _, _, _, _, _, _, _, _, _, rfl⟩ ?_ ?_
    · intro j v r g6 hv ⟨h6, s2, s3, s4, s5, s6, s7, s8, s9, s10, hr⟩
      subst hr
      have hvs := sm_ok (hall v (List.mem_of_getElem? hv))
      have hts := terr_sm hvs.1
      have b1 : ∀ g : List O, biG g .repr [v] = some (.str (shown v)) := fun g => (bg_of (by decide)).trans (bi_reprV hvs.1 (by omega) (by omega))
      have b2 : ∀ (g : List O) (b : Bool), biG g .repr [.bl b] = some (.str (shown (.bl b))) := fun g b => (bg_of (by decide)).trans (bi_reprV rfl (Nat.zero_le _) (show 1 ≤ 1290 by decide))
      have b3 : ∀ x : Str, (x == x) = true := fun x => by simp
      simp only [b1, le_ok hvs.1, List.zip_cons_cons, List.zip_nil_left, List.foldl_cons, List.foldl_nil, exs, ex, ev, evs, evB, evIf, okk_bind, okk_ok, okk_lift, okk_asB, okk_if, okk_noX, lift_some, Res.bind_ok, List.map_cons, List.map_nil, List.length_cons, List.length_nil, List.replicate, List.cons_append, List.nil_append, List.getElem?_cons_zero, List.getElem?_cons_succ, List.set_cons_zero, List.set_cons_succ, Nat.reduceSub, Nat.reduceAdd, if_true, Bool.false_eq_true, if_false, Option.some.injEq, exists_eq_left', bo_add, bo_sub, co_lt, co_le, co_gt, co_ge, co_eqi, co_nei, co_isN, co_notN, bg_lenL, bg_lenT, ixd_l, ixd_t, de_lst, de_tup, tg_nm, Tg.slots, wipeR, iterD, items, op_none, op_int, sld_l, sld_t, D.bl.injEq, Bool.not_true, Bool.not_false, Bool.true_eq_false, and_true, isTup]
      refine ⟨_, rfl, okk_loopC (fun k acc g' => g' = g6 ∧ acc = List.replicate k (terr v)) ⟨rfl, rfl⟩ ?_ ?_⟩
      · intro k d acc g7 hk ⟨hg, hacc⟩
        subst hg hacc
        obtain ⟨hk2, rfl⟩ := rng_get hk
        have hk2 : k < 2 := hk2
        have hal : (List.replicate k (terr v)).length < LIM := Nat.lt_of_le_of_lt (show _ ≤ 2 by rw [List.length_replicate]; omega) (by decide)
        simp only [te_ok hvs.1, hal, exs, ex, ev, evs, evB, evIf, okk_bind, okk_ok, okk_lift, okk_asB, okk_if, okk_noX, lift_some, Res.bind_ok, List.map_cons, List.map_nil, List.length_cons, List.length_nil, List.replicate, List.cons_append, List.nil_append, List.getElem?_cons_zero, List.getElem?_cons_succ, List.set_cons_zero, List.set_cons_succ, Nat.reduceSub, Nat.reduceAdd, if_true, Bool.false_eq_true, if_false, Option.some.injEq, exists_eq_left', bo_add, bo_sub, co_lt, co_le, co_gt, co_ge, co_eqi, co_nei, co_isN, co_notN, bg_lenL, bg_lenT, ixd_l, ixd_t, de_lst, de_tup, tg_nm, Tg.slots, wipeR, iterD, items, op_none, op_int, sld_l, sld_t, D.bl.injEq, Bool.not_true, Bool.not_false, Bool.true_eq_false, and_true, isTup]
        exact ⟨trivial, (List.replicate_succ' (n := k) (a := terr v)).symm⟩
      intro acc g7 ⟨hg, hacc⟩
      subst hg hacc
      rw [List.length_map, List.length_range]
      have hsm := sms_lst (sms_app (sms_one hts) (sms_one hts))
      have hso := sm_ok hsm
      have e2 : D.lst (List.replicate (Int.toNat 2) (terr v)) = D.lst ([terr v] ++ [terr v]) := rfl
      simp only [L2', e2, exs, ex, ev, evs, evB, evIf, okk_bind, okk_ok, okk_lift, okk_asB, okk_if, okk_noX, lift_some, Res.bind_ok, List.map_cons, List.map_nil, List.length_cons, List.length_nil, List.replicate, List.cons_append, List.nil_append, List.getElem?_cons_zero, List.getElem?_cons_succ, List.set_cons_zero, List.set_cons_succ, Nat.reduceSub, Nat.reduceAdd, if_true, Bool.false_eq_true, if_false, Option.some.injEq, exists_eq_left', bo_add, bo_sub, co_lt, co_le, co_gt, co_ge, co_eqi, co_nei, co_isN, co_notN, bg_lenL, bg_lenT, ixd_l, ixd_t, de_lst, de_tup, tg_nm, Tg.slots, wipeR, iterD, items, op_none, op_int, sld_l, sld_t, D.bl.injEq, Bool.not_true, Bool.not_false, Bool.true_eq_false, and_true, isTup]
      simp only [List.cons_append, List.nil_append] at hso ⊢
      have hsame : callN gl P (n + 5) f__law_same [D.lst [terr v, terr v], D.lst [terr v, terr v]] g7 = .ok (.bl true) g7 := same_ok hso.1 (by omega) (by omega)
      refine okk_of hsame ⟨true, rfl, ?_⟩
      rw [if_neg (by decide)]
      refine okk_of (is_ok hvs.1) ⟨_, b2 _ _, _, b2 _ _, _, co_nes, ?_⟩
      rw [b3, Bool.not_true, if_pos rfl]
      refine ⟨_, co_nes, ?_⟩
      rw [b3, Bool.not_true, if_neg (by decide)]
      exact ⟨h6, _, _, _, _, _, _, _, _, _, rfl⟩
    · intro r g6 ⟨h6, s2, s3, s4, s5, s6, s7, s8, s9, s10, hr⟩
      subst hr
      try simp only [exs, ex, ev, evs, evB, evIf, okk_bind, okk_ok, okk_lift, okk_asB, okk_if, okk_noX, lift_some, Res.bind_ok, List.map_cons, List.map_nil, List.length_cons, List.length_nil, List.replicate, List.cons_append, List.nil_append, List.getElem?_cons_zero, List.getElem?_cons_succ, List.set_cons_zero, List.set_cons_succ, Nat.reduceSub, Nat.reduceAdd, if_true, Bool.false_eq_true, if_false, Option.some.injEq, exists_eq_left', bo_add, bo_sub, co_lt, co_le, co_gt, co_ge, co_eqi, co_nei, co_isN, co_notN, bg_lenL, bg_lenT, ixd_l, ixd_t, de_lst, de_tup, tg_nm, Tg.slots, wipeR, iterD, items, op_none, op_int, sld_l, sld_t, D.bl.injEq, Bool.not_true, Bool.not_false, Bool.true_eq_false, and_true, isTup]
      exact ⟨h6.le (by omega), _, _, _, _, _, _, _, _, _, rfl⟩
  · intro r g' ⟨h, s2, s3, s4, s5, s6, s7, s8, s9, s10, hr⟩
    subst hr
    try simp only [exs, ex, ev, evs, evB, evIf, okk_bind, okk_ok, okk_lift, okk_asB, okk_if, okk_noX, lift_some, Res.bind_ok, List.map_cons, List.map_nil, List.length_cons, List.length_nil, List.replicate, List.cons_append, List.nil_append, List.getElem?_cons_zero, List.getElem?_cons_succ, List.set_cons_zero, List.set_cons_succ, Nat.reduceSub, Nat.reduceAdd, if_true, Bool.false_eq_true, if_false, Option.some.injEq, exists_eq_left', bo_add, bo_sub, co_lt, co_le, co_gt, co_ge, co_eqi, co_nei, co_isN, co_notN, bg_lenL, bg_lenT, ixd_l, ixd_t, de_lst, de_tup, tg_nm, Tg.slots, wipeR, iterD, items, op_none, op_int, sld_l, sld_t, D.bl.injEq, Bool.not_true, Bool.not_false, Bool.true_eq_false, and_true, isTup]
end
end T
end
section
set_option Elab.async false
set_option linter.all false
set_option maxRecDepth 100000
set_option maxHeartbeats 0
theorem T.plain : ∀ ns : List Int, ns.length ≤ 63 → ∃ g', Bk.callN T.gl T.P 12 T.f_law [.scr ns] [] = .ok (.bl true) g' := by
  intro ns _
  obtain ⟨d, g, h1, h2⟩ := (T.law_ok (n := 6) ns).ex
  subst h2
  exact ⟨g, h1⟩
open PySem PySem.W PyProof.Rows in
set_option maxRecDepth 100000 in
set_option maxHeartbeats 0 in
theorem PySem.Challenge.cw_basketrope_k00_towers_judged_holds : PySem.Challenge.rw_basketrope_k00_towers_judged.Holds := by
  w_on; o_law; k_head; (case hw => w_witness2)
  k_fill
  refine Bk.walkB (l := PySem.Challenge.rw_basketrope_k00_towers_judged) (n := 63) (k := 12) (x := "script") (Fl := Bk.callN T.gl T.P 12 T.f_law) rfl (by decide) rfl ⟨rfl, by decide, by decide⟩ (fun w h Y => PySem.W.kIn_of Y) ?F T.plain
  case F =>
    intro w mg fa h KX G hmg
    refine' T.all_mk KX G hmg ?a0 ?l0 ?e0 ?k0 ?a1 ?l1 ?e1 ?k1 ?a2 ?l2 ?e2 ?k2 ?a3 ?l3 ?e3 ?k3 ?a4 ?l4 ?e4 ?k4 ?a5 ?l5 ?e5 ?k5 ?a6 ?l6 ?e6 ?k6 ?a7 ?l7 ?e7 ?k7 ?a8 ?l8 ?e8 ?k8 ?a9 ?l9 ?e9 ?k9 ?a10 ?l10 ?e10 ?k10 ?a11 ?l11 ?e11 ?k11 ?a12 ?l12 ?e12 ?k12 ?a13 ?l13 ?e13 ?k13 ?a14 ?l14 ?e14 ?k14 ?x0 ?y0 ?x1 ?y1 ?x2 ?y2 ?z0 ?z1 ?z2 ?z3 ?z4 ?z5 ?z6 ?z7 ?z8 ?z9 ?z10 ?z11 ?z12 ?z13 ?z14 ?z15 ?z16 ?z17 ?z18
    (case a0 => k_is)
    (case l0 => k_is)
    (case e0 => k_is)
    (case k0 => k_is)
    (case a1 => k_is)
    (case l1 => k_is)
    (case e1 => k_is)
    (case k1 => k_is)
    (case a2 => k_is)
    (case l2 => k_is)
    (case e2 => k_is)
    (case k2 => k_is)
    (case a3 => k_is)
    (case l3 => k_is)
    (case e3 => k_is)
    (case k3 => k_is)
    (case a4 => k_is)
    (case l4 => k_is)
    (case e4 => k_is)
    (case k4 => k_is)
    (case a5 => k_is)
    (case l5 => k_is)
    (case e5 => k_is)
    (case k5 => k_is)
    (case a6 => k_is)
    (case l6 => k_is)
    (case e6 => k_is)
    (case k6 => k_is)
    (case a7 => k_is)
    (case l7 => k_is)
    (case e7 => k_is)
    (case k7 => k_is)
    (case a8 => k_is)
    (case l8 => k_is)
    (case e8 => k_is)
    (case k8 => k_is)
    (case a9 => k_is)
    (case l9 => k_is)
    (case e9 => k_is)
    (case k9 => k_is)
    (case a10 => k_is)
    (case l10 => k_is)
    (case e10 => k_is)
    (case k10 => k_is)
    (case a11 => k_is)
    (case l11 => k_is)
    (case e11 => k_is)
    (case k11 => k_is)
    (case a12 => k_is)
    (case l12 => k_is)
    (case e12 => k_is)
    (case k12 => k_is)
    (case a13 => k_is)
    (case l13 => k_is)
    (case e13 => k_is)
    (case k13 => k_is)
    (case a14 => k_is)
    (case l14 => k_is)
    (case e14 => k_is)
    (case k14 => k_is)
    (case x0 => k_is)
    (case y0 => rfl)
    (case x1 => k_is)
    (case y1 => rfl)
    (case x2 => k_is)
    (case y2 => rfl)
    (case z0 => k_is)
    (case z1 => k_is)
    (case z2 => k_is)
    (case z3 => k_is)
    (case z4 => k_is)
    (case z5 => k_is)
    (case z6 => k_is)
    (case z7 => k_is)
    (case z8 => k_is)
    (case z9 => k_is)
    (case z10 => k_is)
    (case z11 => k_is)
    (case z12 => k_is)
    (case z13 => k_is)
    (case z14 => k_is)
    (case z15 => k_is)
    (case z16 => k_is)
    (case z17 => k_is)
    (case z18 => k_is)
end
