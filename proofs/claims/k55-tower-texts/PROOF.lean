import PyProof.Rows.All
import Wide.All
import OpenK.AllK
import Wide.FinOn
import HandS.ForMost
import HandS.Exc
import HandS.TryOnly
import HandS.ExcOwn
import HandS.WordsExc
import HandS.Text
import HandS.FStr
import HandS.TupMul
import HandS.Wide
import HandS.TupAny
import HandS.IsInst
import HandS.SortInts
import HandS.Flow
import HandS.Style
import PyProof.EqAt
import KE.DataEq
import PyProof.NeKinds
import HandS.SetFor
import KE.KTupSum
import KE.SortData
import KE.DatumOrd
import KE.KDictSum
import HandS.More
import HandS.Conv
import PyProof.Rows.TupReads
import PyProof.ReprRoads
import HandS.Walk
import HandS.Zip
import KE.GoesEnum
import HandS.Star
import HandS.NoneIn
import HandS.Strs
import KE.KDictDisplayH
import HandS.Small
import HandS.Ends
import PyProof.ReprBulk
import HandS.Codes
import PySem.Challenge.RW_basketrope_k55_tower_texts
section
set_option Elab.async false
set_option linter.all false
set_option maxRecDepth 100000
set_option maxHeartbeats 4000000
namespace Bk
open PySem PySem.Spec PyProof.Rows L2

/-! ## plain values -/
/-- a dict's keys: ints and texts, or tuples of them -/
inductive DKs where
  | k (ks : List Key) | t (ks : List (List Key))
def DKs.len : DKs → Nat
  | .k ks => ks.length
  | .t ks => ks.length
def dHO : DKs → List V → HO
  | .k ks, vs => .dK (ks.zip vs)
  | .t ks, vs => .dT (ks.zip vs)
inductive D where
  | non | bl (b : Bool) | int (i : Int) | str (x : Str)
  | tup (ds : List D) | lst (ds : List D) | dct (ks : DKs) (ds : List D) | ref (n : Nat)
  | scr (ns : List Int)     -- the script

/-- mutable objects, by number -/
inductive O where
  | lst (ds : List D)

/-- a raised exception of the program -/
structure X where
  cls : Str
  fs : List (Str × D)

/-- what a name holds -/
inductive Slot where
  | no | fz (d : D) | own (ds : List D) | ownK (ks : DKs) (ds : List D)

/-- ghost: avoided from outside; owned by this frame; the addresses of the mutable objects -/
structure Gh where
  A : Addr → Prop
  W : Addr → Prop
  al : List Addr
def Gh.Z (y : Gh) (a : Addr) : Prop := y.A a ∨ y.W a ∨ a ∈ y.al

def KTup (K : PySem.W.Frag) (a : Addr) (xs : List V) : Prop :=
  ∃ (o : Obj) (its : Array Value) (n : Nat), K.lookup a = some o ∧ o.cls = .type "tuple" ∧ o.data = .seq its n ∧ its.size ≤ sizeLine ∧ Vals xs its.toList
def TupAt (K : PySem.W.Frag) (y : Gh) (H : Hp) (a : Addr) (xs : List V) : Prop := ¬ y.Z a ∧ H a = some (.tup xs)
theorem TupAt.sq {K : PySem.W.Frag} {y : Gh} {H : Hp} {a : Addr} {xs : List V} (h : TupAt K y H a xs) : SqT K H a xs := .inl (.inl h.2)

def ScrAt (K : PySem.W.Frag) (y : Gh) (H : Hp) (a : Addr) (xs : List V) : Prop := (¬ y.Z a ∧ ∃ o, H a = some (.frz o (.lst xs))) ∨
  ∃ (o : Obj) (its : Array Value) (n : Nat), K.lookup a = some o ∧ o.cls = .type "list" ∧ o.dict = none ∧ o.data = .seq its n ∧ its.size ≤ sizeLine ∧ Vals xs its.toList
theorem ScrAt.sq {K : PySem.W.Frag} {y : Gh} {H : Hp} {a : Addr} {xs : List V} (h : ScrAt K y H a xs) : SqL K H a xs := by
  rcases h with h | h
  · exact .inl (.inr h.2)
  · exact .inr h
mutual
def Rep (K : PySem.W.Frag) (y : Gh) (H : Hp) : D → V → Prop
  | .non, v => v = .non
  | .bl b, v => v = .bl b
  | .int i, v => v = .int i
  | .str x, v => v = .str x
  | .tup ds, v => ∃ a vs, v = .ref a ∧ TupAt K y H a vs ∧ Reps K y H ds vs
  | .lst ds, v => ∃ a vs, v = .ref a ∧ ¬ y.Z a ∧ H a = some (.lst vs) ∧ Reps K y H ds vs
  | .dct ks ds, v => ∃ a vs, v = .ref a ∧ ¬ y.Z a ∧ H a = some (dHO ks vs) ∧ ks.len = ds.length ∧ Reps K y H ds vs
  | .ref n, v => ∃ a, y.al[n]? = some a ∧ v = .ref a
  | .scr ns, v => ∃ a, v = .ref a ∧ ScrAt K y H a (ns.map V.int)
def Reps (K : PySem.W.Frag) (y : Gh) (H : Hp) : List D → List V → Prop
  | [], vs => vs = []
  | d :: ds, vs => ∃ v ws, vs = v :: ws ∧ Rep K y H d v ∧ Reps K y H ds ws
end

/-- the heap and the ghost go on: what was tracked, and is no mutable object, is as it was -/
structure Ext (y : Gh) (H : Hp) (y' : Gh) (H' : Hp) : Prop where
  eA : y'.A = y.A
  eW : y'.W = y.W
  pre : ∃ t, y'.al = y.al ++ t ∧ ∀ a, a ∈ t → H a = none
  keep : ∀ a o, H a = some o → a ∉ y.al → H' a = some o
  dom : ∀ a, H' a = none → H a = none

theorem Ext.refl (y : Gh) (H : Hp) : Ext y H y H := ⟨rfl, rfl, ⟨[], by simp, fun _ h => by simp at h⟩, fun _ _ h _ => h, fun _ h => h⟩
theorem Ext.trans {y y1 y2 : Gh} {H H1 H2 : Hp} (a : Ext y H y1 H1) (b : Ext y1 H1 y2 H2) : Ext y H y2 H2 := by
  obtain ⟨t1, e1, n1⟩ := a.pre
  obtain ⟨t2, e2, n2⟩ := b.pre
  refine ⟨b.eA.trans a.eA, b.eW.trans a.eW, ⟨t1 ++ t2, by rw [e2, e1, List.append_assoc], fun c hc => ?_⟩, fun c o h hn => ?_, fun c h => a.dom c (b.dom c h)⟩
  · rcases List.mem_append.mp hc with h | h
    · exact n1 c h
    · exact a.dom c (n2 c h)
  · refine b.keep c o (a.keep c o h hn) ?_
    rw [e1]
    intro hm
    rcases List.mem_append.mp hm with q | q
    · exact hn q
    · rw [n1 c q] at h; cases h
theorem Ext.Z {y y' : Gh} {H H' : Hp} (e : Ext y H y' H') {a : Addr} {o : HO} (h : H a = some o) (n : ¬ y.Z a) : ¬ y'.Z a := by
  obtain ⟨t, et, nt⟩ := e.pre
  intro z
  unfold Gh.Z at z n
  rw [e.eA, e.eW, et] at z
  rcases z with z | z | z
  · exact n (.inl z)
  · exact n (.inr (.inl z))
  · rcases List.mem_append.mp z with q | q
    · exact n (.inr (.inr q))
    · rw [nt a q] at h; cases h
theorem Ext.at {y y' : Gh} {H H' : Hp} (e : Ext y H y' H') {a : Addr} {o : HO} (n : ¬ y.Z a) (h : H a = some o) : ¬ y'.Z a ∧ H' a = some o :=
  ⟨e.Z h n, e.keep a o h fun z => n (.inr (.inr z))⟩
theorem Ext.tup {K : PySem.W.Frag} {y y' : Gh} {H H' : Hp} (e : Ext y H y' H') {a : Addr} {xs : List V} (h : TupAt K y H a xs) : TupAt K y' H' a xs := e.at h.1 h.2

/-- .. behind statements: what this frame owns may have changed, too -/
structure Evo (y : Gh) (H : Hp) (y' : Gh) (H' : Hp) : Prop where
  eA : y'.A = y.A
  pre : ∃ t, y'.al = y.al ++ t ∧ ∀ a, a ∈ t → H a = none
  keep : ∀ a o, H a = some o → a ∉ y.al → ¬ y.W a → H' a = some o
  dom : ∀ a, H' a = none → H a = none
  wf : ∀ a, y'.W a → y.W a ∨ H a = none
theorem Ext.evo {y y' : Gh} {H H' : Hp} (e : Ext y H y' H') : Evo y H y' H' := ⟨e.eA, e.pre, fun a o h n _ => e.keep a o h n, e.dom, fun a w => .inl (by rw [← e.eW]; exact w)⟩
theorem Evo.refl (y : Gh) (H : Hp) : Evo y H y H := (Ext.refl y H).evo
theorem Evo.trans {y y1 y2 : Gh} {H H1 H2 : Hp} (a : Evo y H y1 H1) (b : Evo y1 H1 y2 H2) : Evo y H y2 H2 := by
  obtain ⟨t1, e1, n1⟩ := a.pre
  obtain ⟨t2, e2, n2⟩ := b.pre
  refine ⟨b.eA.trans a.eA, ⟨t1 ++ t2, by rw [e2, e1, List.append_assoc], fun c hc => ?_⟩, fun c o h hn hw => ?_, fun c h => a.dom c (b.dom c h), fun c w => ?_⟩
  · rcases List.mem_append.mp hc with h | h
    · exact n1 c h
    · exact a.dom c (n2 c h)
  · refine b.keep c o (a.keep c o h hn hw) ?_ fun w => ?_
    · rw [e1]
      intro hm
      rcases List.mem_append.mp hm with q | q
      · exact hn q
      · rw [n1 c q] at h; cases h
    · rcases a.wf c w with q | q
      · exact hw q
      · rw [q] at h; cases h
  · rcases b.wf c w with q | q
    · exact a.wf c q
    · exact .inr (a.dom c q)
theorem Evo.at {y y' : Gh} {H H' : Hp} (e : Evo y H y' H') {a : Addr} {o : HO} (n : ¬ y.Z a) (h : H a = some o) : ¬ y'.Z a ∧ H' a = some o := by
  obtain ⟨t, et, nt⟩ := e.pre
  refine ⟨fun z => ?_, e.keep a o h (fun z => n (.inr (.inr z))) fun z => n (.inr (.inl z))⟩
  unfold Gh.Z at z n
  rw [e.eA, et] at z
  rcases z with z | z | z
  · exact n (.inl z)
  · rcases e.wf a z with q | q
    · exact n (.inr (.inl q))
    · rw [q] at h; cases h
  · rcases List.mem_append.mp z with q | q
    · exact n (.inr (.inr q))
    · rw [nt a q] at h; cases h
theorem Evo.tup {K : PySem.W.Frag} {y y' : Gh} {H H' : Hp} (e : Evo y H y' H') {a : Addr} {xs : List V} (h : TupAt K y H a xs) : TupAt K y' H' a xs := e.at h.1 h.2

section
variable {K : PySem.W.Frag} {y y' : Gh} {H H' : Hp}
mutual
theorem Rep.monoS (e : Evo y H y' H') : ∀ (d : D) (v : V), Rep K y H d v → Rep K y' H' d v
  | .non, _, h => by simpa only [Rep] using h
  | .bl _, _, h => by simpa only [Rep] using h
  | .int _, _, h => by simpa only [Rep] using h
  | .str _, _, h => by simpa only [Rep] using h
  | .tup ds, _, h => by
    simp only [Rep] at h ⊢
    obtain ⟨a, vs, rfl, h1, h2⟩ := h
    exact ⟨a, vs, rfl, e.tup h1, Reps.monoS e ds vs h2⟩
  | .lst ds, _, h => by
    simp only [Rep] at h ⊢
    obtain ⟨a, vs, rfl, hz, h1, h2⟩ := h
    exact ⟨a, vs, rfl, (e.at hz h1).1, (e.at hz h1).2, Reps.monoS e ds vs h2⟩
  | .dct ks ds, _, h => by
    simp only [Rep] at h ⊢
    obtain ⟨a, vs, rfl, hz, h1, hl, h2⟩ := h
    exact ⟨a, vs, rfl, (e.at hz h1).1, (e.at hz h1).2, hl, Reps.monoS e ds vs h2⟩
  | .scr ns, _, h => by
    simp only [Rep] at h ⊢
    obtain ⟨a, rfl, h1⟩ := h
    refine ⟨a, rfl, ?_⟩
    rcases h1 with ⟨z, o, h1⟩ | h1
    · exact .inl ⟨(e.at z h1).1, o, (e.at z h1).2⟩
    · exact .inr h1
  | .ref n, _, h => by
    simp only [Rep] at h ⊢
    obtain ⟨a, h1, rfl⟩ := h
    obtain ⟨t, et, _⟩ := e.pre
    refine ⟨a, ?_, rfl⟩
    rw [et]
    obtain ⟨hl, _⟩ := List.getElem?_eq_some_iff.mp h1
    rw [List.getElem?_append_left hl]
    exact h1
theorem Reps.monoS (e : Evo y H y' H') : ∀ (ds : List D) (vs : List V), Reps K y H ds vs → Reps K y' H' ds vs
  | [], _, h => by simpa only [Reps] using h
  | d :: ds, _, h => by
    simp only [Reps] at h ⊢
    obtain ⟨v, ws, rfl, h1, h2⟩ := h
    exact ⟨v, ws, rfl, Rep.monoS e d v h1, Reps.monoS e ds ws h2⟩
end

theorem Rep.mono (e : Ext y H y' H') (d : D) (v : V) (h : Rep K y H d v) : Rep K y' H' d v := Rep.monoS e.evo d v h
theorem Reps.mono (e : Ext y H y' H') (ds : List D) (vs : List V) (h : Reps K y H ds vs) : Reps K y' H' ds vs := Reps.monoS e.evo ds vs h

theorem Reps.length : ∀ {ds : List D} {vs : List V}, Reps K y H ds vs → ds.length = vs.length
  | [], _, h => by simp only [Reps] at h; subst h; rfl
  | d :: ds, _, h => by
    simp only [Reps] at h
    obtain ⟨v, ws, rfl, _, h2⟩ := h
    simp only [List.length_cons, Reps.length h2]
theorem Reps.get : ∀ {ds : List D} {vs : List V} {i : Nat} {v : V}, Reps K y H ds vs → vs[i]? = some v → ∃ d, ds[i]? = some d ∧ Rep K y H d v
  | [], _, i, v, h, e => by simp only [Reps] at h; subst h; simp at e
  | d :: ds, _, 0, v, h, e => by
    simp only [Reps] at h
    obtain ⟨w, ws, rfl, h1, h2⟩ := h
    simp at e; subst e
    exact ⟨d, rfl, h1⟩
  | d :: ds, _, i + 1, v, h, e => by
    simp only [Reps] at h
    obtain ⟨w, ws, rfl, h1, h2⟩ := h
    exact Reps.get (ds := ds) h2 (by simpa using e)
theorem Reps.at : ∀ {ds : List D} {vs : List V} {i : Nat} {d : D}, Reps K y H ds vs → ds[i]? = some d → ∃ v, vs[i]? = some v ∧ Rep K y H d v
  | [], _, i, v, h, e => by simp at e
  | d :: ds, _, 0, v, h, e => by
    simp only [Reps] at h
    obtain ⟨w, ws, rfl, h1, h2⟩ := h
    simp at e; subst e
    exact ⟨w, rfl, h1⟩
  | d :: ds, _, i + 1, v, h, e => by
    simp only [Reps] at h
    obtain ⟨w, ws, rfl, h1, h2⟩ := h
    obtain ⟨u, q1, q2⟩ := Reps.at (ds := ds) h2 (by simpa using e)
    exact ⟨u, by simpa using q1, q2⟩
theorem Reps.nil : Reps K y H [] [] := by simp only [Reps]
theorem Reps.cons {d : D} {ds : List D} {v : V} {vs : List V} (h : Rep K y H d v) (t : Reps K y H ds vs) : Reps K y H (d :: ds) (v :: vs) := by
  simp only [Reps]; exact ⟨v, vs, rfl, h, t⟩
theorem Reps.append : ∀ {ds es : List D} {vs ws : List V}, Reps K y H ds vs → Reps K y H es ws → Reps K y H (ds ++ es) (vs ++ ws)
  | [], _, _, _, h, h' => by simp only [Reps] at h; subst h; simpa using h'
  | d :: ds, _, _, _, h, h' => by
    simp only [Reps] at h
    obtain ⟨w, ws, rfl, h1, h2⟩ := h
    exact Reps.cons h1 (Reps.append h2 h')
theorem Reps.drop : ∀ (n : Nat) {ds : List D} {vs : List V}, Reps K y H ds vs → Reps K y H (ds.drop n) (vs.drop n)
  | 0, _, _, h => h
  | n + 1, [], _, h => by simp only [Reps] at h; subst h; simpa using Reps.nil
  | n + 1, d :: ds, _, h => by
    simp only [Reps] at h
    obtain ⟨w, ws, rfl, h1, h2⟩ := h
    exact Reps.drop n h2
theorem Reps.take : ∀ (n : Nat) {ds : List D} {vs : List V}, Reps K y H ds vs → Reps K y H (ds.take n) (vs.take n)
  | 0, _, _, h => by simpa using Reps.nil
  | n + 1, [], _, h => by simp only [Reps] at h; subst h; simpa using Reps.nil
  | n + 1, d :: ds, _, h => by
    simp only [Reps] at h
    obtain ⟨w, ws, rfl, h1, h2⟩ := h
    exact Reps.cons h1 (Reps.take n h2)
theorem Reps.reverse {ds : List D} {vs : List V} (h : Reps K y H ds vs) : Reps K y H ds.reverse vs.reverse := by
  induction ds generalizing vs with
  | nil => simp only [Reps] at h; subst h; simpa using Reps.nil
  | cons d ds ih =>
    simp only [Reps] at h
    obtain ⟨w, ws, rfl, h1, h2⟩ := h
    rw [List.reverse_cons, List.reverse_cons]
    exact (ih h2).append (Reps.cons h1 Reps.nil)
theorem Reps.set {d : D} {v : V} (r : Rep K y H d v) : ∀ {ds : List D} {vs : List V} (i : Nat), Reps K y H ds vs → Reps K y H (ds.set i d) (vs.set i v)
  | [], _, _, h => by simp only [Reps] at h; subst h; simpa using Reps.nil
  | d :: ds, _, 0, h => by
    simp only [Reps] at h
    obtain ⟨w, ws, rfl, h1, h2⟩ := h
    exact Reps.cons r h2
  | d :: ds, _, i + 1, h => by
    simp only [Reps] at h
    obtain ⟨w, ws, rfl, h1, h2⟩ := h
    exact Reps.cons h1 (Reps.set r i h2)
theorem Reps.eraseIdx : ∀ {ds : List D} {vs : List V} (i : Nat), Reps K y H ds vs → Reps K y H (ds.eraseIdx i) (vs.eraseIdx i)
  | [], _, _, h => by simp only [Reps] at h; subst h; simpa using Reps.nil
  | d :: ds, _, 0, h => by
    simp only [Reps] at h
    obtain ⟨w, ws, rfl, h1, h2⟩ := h
    exact h2
  | d :: ds, _, i + 1, h => by
    simp only [Reps] at h
    obtain ⟨w, ws, rfl, h1, h2⟩ := h
    exact Reps.cons h1 (Reps.eraseIdx i h2)
theorem Reps.dropLast {ds : List D} {vs : List V} (h : Reps K y H ds vs) : Reps K y H ds.dropLast vs.dropLast := by
  rw [List.dropLast_eq_take, List.dropLast_eq_take, h.length]
  exact h.take _
theorem Reps.ints {ns : List Int} : Reps K y H (ns.map D.int) (ns.map V.int) := by
  induction ns with
  | nil => exact Reps.nil
  | cons n ns ih => exact Reps.cons (by simp only [Rep]) ih
theorem Reps.replicate {ds : List D} {vs : List V} (h : Reps K y H ds vs) : ∀ n, Reps K y H (List.replicate n ds).flatten (List.replicate n vs).flatten
  | 0 => by simpa using Reps.nil
  | n + 1 => by
    rw [List.replicate_succ, List.replicate_succ, List.flatten_cons, List.flatten_cons]
    exact h.append (Reps.replicate h n)
end

/-! ## the mutable objects, the slots -/
section
variable (K : PySem.W.Frag)
def ORep (y : Gh) (H : Hp) : O → Addr → Prop
  | .lst ds, a => ∃ vs, H a = some (.lst vs) ∧ Reps K y H ds vs
/-- the store stands -/
structure Good (y : Gh) (H : Hp) (g : List O) : Prop where
  zok : ∀ a, y.Z a → ∃ o, H a = some o
  aw : ∀ a, y.W a → ¬ y.A a
  disj : ∀ a, a ∈ y.al → ¬ y.A a ∧ ¬ y.W a
  nd : y.al.Nodup
  len : y.al.length = g.length
  objs : ∀ (n : Nat) (a : Addr) (o : O), y.al[n]? = some a → g[n]? = some o → ORep K y H o a
  mt : ∀ a xs, y.Z a → H a ≠ some (.tup xs)
theorem dHO_nt {ks : DKs} {vs : List V} {xs : List V} (h : dHO ks vs = .tup xs) : False := by cases ks <;> cases h
def SlotRep (y : Gh) (H : Hp) : Slot → Option V → Prop
  | .no, _ => True
  | .fz d, s => ∃ v, s = some v ∧ Rep K y H d v
  | .own ds, s => ∃ b vs, s = some (.ref b) ∧ y.W b ∧ H b = some (.lst vs) ∧ Reps K y H ds vs
  | .ownK ks ds, s => ∃ b vs, s = some (.ref b) ∧ y.W b ∧ H b = some (dHO ks vs) ∧ ks.len = ds.length ∧ Reps K y H ds vs
end
def Slot.owns : Slot → Bool
  | .own _ => true
  | .ownK _ _ => true
  | _ => false
structure SR (K : PySem.W.Frag) (y : Gh) (H : Hp) (r : List Slot) (σ : L2.St) : Prop where
  len : r.length = σ.length
  at_ : ∀ (i : Nat) (s : Slot), r[i]? = some s → ∃ o, σ[i]? = some o ∧ SlotRep K y H s o
  dist : ∀ (i j : Nat) (s t : Slot) (b : Addr), i ≠ j → r[i]? = some s → r[j]? = some t → s.owns = true → t.owns = true → σ[i]? = some (some (.ref b)) → σ[j]? = some (some (.ref b)) → False
section
variable {K : PySem.W.Frag} {y y' : Gh} {H H' : Hp} {r : List Slot} {σ : L2.St} {g : List O}
theorem SlotRep.mono (e : Ext y H y' H') (hw : ∀ a, y.W a → a ∉ y.al) {s : Slot} {o : Option V} (h : SlotRep K y H s o) : SlotRep K y' H' s o := by
  cases s with
  | no => trivial
  | fz d => obtain ⟨v, e1, h⟩ := h; exact ⟨v, e1, Rep.mono e d v h⟩
  | own ds => obtain ⟨b, vs, e1, w, hb, h⟩ := h; exact ⟨b, vs, e1, by rw [e.eW]; exact w, e.keep _ _ hb (hw b w), Reps.mono e ds vs h⟩
  | ownK ks ds => obtain ⟨b, vs, e1, w, hb, l, h⟩ := h; exact ⟨b, vs, e1, by rw [e.eW]; exact w, e.keep _ _ hb (hw b w), l, Reps.mono e ds vs h⟩
theorem SR.mono (e : Ext y H y' H') (G : Good K y H g) (h : SR K y H r σ) : SR K y' H' r σ :=
  ⟨h.len, fun i s q => by
    obtain ⟨o, e1, h1⟩ := h.at_ i s q
    exact ⟨o, e1, h1.mono e fun a w m => (G.disj a m).2 w⟩, h.dist⟩
/-- a new object beside -/
theorem ext_new {p : Addr} {o : HO} (hp : H p = none) : Ext y H y (upd H p o) :=
  ⟨rfl, rfl, ⟨[], by simp, fun _ h => by simp at h⟩, fun a u h _ => by rw [upd_ne (ne_of_none h hp)]; exact h, fun a h => by
    by_cases e : a = p
    · subst e; exact hp
    · rw [upd_ne e] at h; exact h⟩
theorem Good.free (G : Good K y H g) {p : Addr} (hp : H p = none) : ¬ y.Z p := fun z => by
  obtain ⟨o, h⟩ := G.zok p z
  rw [hp] at h; cases h
theorem ORep.mono (e : Ext y H y' H') {o : O} {a : Addr} (h : ORep K y H o a) (hk : ∀ u, H a = some u → H' a = some u) : ORep K y' H' o a := by
  cases o with
  | lst ds => obtain ⟨vs, h1, h2⟩ := h; exact ⟨vs, hk _ h1, Reps.mono e ds vs h2⟩
theorem Good.new (G : Good K y H g) {p : Addr} {o : HO} (hp : H p = none) : Good K y (upd H p o) g := by
  have up : ∀ a u, H a = some u → upd H p o a = some u := fun a u h => by rw [upd_ne (ne_of_none h hp)]; exact h
  refine ⟨fun a z => ?_, G.aw, G.disj, G.nd, G.len, fun n a q h1 h2 => (G.objs n a q h1 h2).mono (ext_new hp) (up a), fun a xs z h => by
    obtain ⟨u, hu⟩ := G.zok a z
    rw [up a u hu] at h
    exact G.mt a xs z (hu.trans h)⟩
  obtain ⟨u, h⟩ := G.zok a z
  exact ⟨u, up a u h⟩
end
end Bk
end
section
set_option Elab.async false
set_option linter.all false
set_option maxRecDepth 100000
set_option maxHeartbeats 4000000
namespace Bk
open PySem PySem.Spec PyProof.Rows L2

inductive Bop | add | sub | mul | fdiv | mod | pow | shl | shr
  deriving DecidableEq
inductive Cop | eq | ne | lt | le | gt | ge | isN | notN | mem | nmem | isB | notB
  deriving DecidableEq
inductive Tg | nm (i : Nat) | tp (is : List Nat)
  deriving DecidableEq
inductive IK | seq | range | range2 | enum | zip
  deriving DecidableEq
inductive Bi | len | abs | sum | tuple | list | sorted | int | str | repr | max | min | all
  deriving DecidableEq
inductive Ty | int | bool | tuple | list | str | dict
  deriving DecidableEq
inductive Me | join | split
  deriving DecidableEq
inductive E where
  | var (i : Nat) | own (i : Nat) | glob (x : Nat) | int (k : Int) | bl (b : Bool) | non | str (s : String)
  | tup (es : List E) | lst (es : List E) | seqS (t : Bool) (st : List Bool) (es : List E)
  | dct0 (t : Bool) | dct1 (k : String) (e : E) | dctC (t : Bool) (k v : E)     -- {k: v}, v written; t: k is a tuple
  | bin (op : Bop) (a b : E) | neg (a : E) | not (a : E) | cmp (op : Cop) (a b : E) | chain (o p : Cop) (a b c : E)
  | band (es : List E) | bor (es : List E) | ife (c a b : E)
  | call (f : Nat) (es : List E) | bi (f : Bi) (es : List E) | sset (e : E) | isi (e : E) (t : Ty)
  | ix (a b : E) | slice (a : E) (lo hi : List E) | rev (a : E)
  | comp (elt : E) (tg : Tg) (ik : IK) (its ifs : List E)
  | mk (e : E)     -- a new list that will be changed
  | meth (m : Me) (a b : E)     -- a text's method with one argument
  | fs3 (s1 s2 : String) (a b c : E)     -- f'{a}s1{b}s2{c}'
  | rng1 (t : Bool) (a : E) | rng2 (t : Bool) (a b : E)     -- tuple or list of a range

inductive S where
  | asg (tg : Tg) (e : E) | asgOwn (i : Nat) (e : E) | par (is : List Nat) (es : List E) | parO (is : List Nat) (fl : List Bool) (es : List E)
  | aug (i : Nat) (op : Bop) (e : E)
  | setO (i : Nat) (b e : E)          -- x[b] = e, x an owned list or dict
  | setR (a b e : E)                  -- a[b] = e, a a mutable object
  | app (i : Nat) (e : E) | appPop (i j : Nat) (e : E) | popX (i : Nat) | extend (i : Nat) (e : E)
  | frz (i : Nat)
  | iff (c : E) (a b : List S) | for_ (tg : Tg) (ik : IK) (its : List E) (b : List S) | while_ (c : E) (b : List S)
  | ret (e : E) | retO (i : Nat) | pass | brk | cont
  | walN (i : Nat) (e : E) (a b : List S)     -- if (x := e) is None

structure Fn where
  ps : Nat       -- parameters
  ns : Nat       -- slots
  body : List S

/-! ## results -/
inductive Res (α : Type) where
  | ok (a : α) (g : List O)
  | exc (x : X) (g : List O)
  | bad
def Res.bind {α β : Type} (r : Res α) (f : α → List O → Res β) : Res β := match r with
  | .ok a g => f a g
  | .exc x g => .exc x g
  | .bad => .bad
def lift {α : Type} (o : Option α) (g : List O) : Res α := match o with
  | some a => .ok a g
  | none => .bad
def noX {α : Type} : Res α → Res α
  | .exc _ _ => .bad
  | r => r
def asB : D → List O → Res Bool
  | .bl b, g => .ok b g
  | _, _ => .bad
@[simp] theorem Res.bind_ok {α β : Type} (a : α) (g : List O) (f : α → List O → Res β) : (Res.ok a g).bind f = f a g := rfl
@[simp] theorem Res.bind_exc {α β : Type} (x : X) (g : List O) (f : α → List O → Res β) : (Res.exc x g : Res α).bind f = .exc x g := rfl
@[simp] theorem Res.bind_bad {α β : Type} (f : α → List O → Res β) : (Res.bad : Res α).bind f = .bad := rfl
theorem Res.assoc {α β γ : Type} (r : Res α) (f : α → List O → Res β) (h : β → List O → Res γ) : (r.bind f).bind h = r.bind fun a g => (f a g).bind h := by cases r <;> rfl
@[simp] theorem lift_some {α : Type} (a : α) (g : List O) : lift (some a) g = .ok a g := rfl
@[simp] theorem lift_none {α : Type} (g : List O) : lift (none : Option α) g = .bad := rfl

/-! ## operations on plain values -/
def LIM : Nat := 1000000
def mkT (ds : List D) : Option D := if ds.length ≤ LIM then some (.tup ds) else none
def mkL (ds : List D) : Option D := if ds.length ≤ LIM then some (.lst ds) else none
def ints? : List D → Option (List Int)
  | [] => some []
  | .int i :: r => (ints? r).map (i :: ·)
  | _ :: _ => none
def bools? : List D → Option (List Bool)
  | [] => some []
  | .bl i :: r => (bools? r).map (i :: ·)
  | _ :: _ => none
def flat : D → Bool
  | .non => true | .bl _ => true | .int _ => true | .str _ => true
  | _ => false
/-- == of flat values -/
def eqF : D → D → Bool
  | .non, .non => true
  | .bl a, .bl b => a == b
  | .bl a, .int j => (if a then 1 else 0) == j
  | .int i, .bl b => i == (if b then 1 else 0)
  | .int i, .int j => i == j
  | .str x, .str y => x == y
  | _, _ => false
mutual
def shp : Nat → D → Bool
  | _, .non => true | _, .bl _ => true | _, .int _ => true | _, .str x => true
  | n, .tup ds => match n with | 0 => false | n + 1 => shps n ds
  | n, .lst ds => match n with | 0 => false | n + 1 => shps n ds
  | _, .dct _ _ => false | _, .ref _ => false | _, .scr _ => false
def shps : Nat → List D → Bool
  | _, [] => true
  | n, d :: ds => shp n d && shps n ds
end
mutual
def eqD : D → D → Bool
  | .tup xs, .tup ys => eqDs xs ys
  | .lst xs, .lst ys => eqDs xs ys
  | .non, .non => true
  | .bl a, .bl b => a == b
  | .bl a, .int j => (if a then 1 else 0) == j
  | .int i, .bl b => i == (if b then 1 else 0)
  | .int i, .int j => i == j
  | .str x, .str y => x == y
  | _, _ => false
def eqDs : List D → List D → Bool
  | [], [] => true
  | x :: xs, y :: ys => eqD x y && eqDs xs ys
  | _, _ => false
end
def binop : Bop → D → D → Option D
  | .add, .int i, .int j => some (.int (i + j))
  | .sub, .int i, .int j => some (.int (i - j))
  | .mul, .int i, .int j => if (-(2 ^ 64) < i ∧ i < 2 ^ 64) ∨ (-(2 ^ 64) < j ∧ j < 2 ^ 64) then some (.int (i * j)) else none
  | .fdiv, .int i, .int j => if 0 < j ∧ j < 2 ^ 64 then some (.int (i / j)) else none
  | .mod, .int i, .int j => if 0 < j then some (.int (i % j)) else none
  | .pow, .int i, .int j => if 0 ≤ j ∧ j ≤ 1000 ∧ i.natAbs < 2 ^ 64 then some (.int (i ^ j.toNat)) else none
  | .shl, .int i, .int j => if 0 ≤ j ∧ j ≤ 1000 ∧ i.natAbs < 2 ^ 64 then some (.int (i * 2 ^ j.toNat)) else none
  | .shr, .int i, .int j => if 0 ≤ j then some (.int (i / 2 ^ j.toNat)) else none
  | .add, .tup xs, .tup ys => mkT (xs ++ ys)
  | .add, .lst xs, .lst ys => mkL (xs ++ ys)
  | .add, .str x, .str y => if x.length + y.length ≤ LIM then some (.str (x ++ y)) else none
  | .mul, .lst xs, .int k => if k ≤ 1000 ∧ -1000 ≤ k ∧ xs.length * k.toNat ≤ LIM then some (.lst (List.replicate k.toNat xs).flatten) else none
  | .mul, .tup [], .int k => if -(2 ^ 62) ≤ k ∧ k < 2 ^ 62 then some (.tup []) else none
  | .mul, .tup xs, .int k => if xs ≠ [] ∧ 2 ≤ k ∧ xs.length * k.toNat ≤ LIM then some (.tup (List.replicate k.toNat xs).flatten) else none
  | _, _, _ => none
def D.isNon : D → Bool
  | .non => true
  | _ => false
def eqop : D → D → Option Bool
  | .str x, .str y => some (x == y)
  | .lst xs, .lst [] => some xs.isEmpty
  | .tup xs, .tup [] => some xs.isEmpty
  | a, b => if shp 60 a && shp 60 b then some (eqD a b) else none
def keyI : D → Option Key
  | .int j => some (.inl j)
  | .str x => some (.inr x)
  | _ => none
/-- a key that is a tuple -/
def keysI : List D → Option (List Key)
  | [] => some []
  | d :: ds => (keyI d).bind fun k => (keysI ds).map fun ks => k :: ks
def keyT : D → Option (List Key)
  | .tup ds => keysI ds
  | _ => none
/-- is the key there -/
def hasK : DKs → D → Option Bool
  | .k ks, e => (keyI e).map fun k => ks.any fun x => decide (x = k)
  | .t ks, e => (keyT e).map fun k => ks.any fun x => decide (x = k)
def cmpop : Cop → D → D → Option Bool
  | .eq, a, b => eqop a b
  | .ne, a, b => (eqop a b).map not
  | .lt, .int i, .int j => some (decide (i < j))
  | .le, .int i, .int j => some (decide (i ≤ j))
  | .gt, .int i, .int j => some (decide (j < i))
  | .ge, .int i, .int j => some (decide (j ≤ i))
  | .isN, a, .non => some a.isNon
  | .notN, a, .non => some (!a.isNon)
  | .isB, .bl a, .bl b => some (decide (a = b))
  | .notB, .bl a, .bl b => some (!decide (a = b))
  | .mem, a, .lst xs => if shp 60 a && shps 60 xs then some (xs.any fun z => eqD z a) else none
  | .mem, a, .tup xs => if shp 60 a && shps 60 xs then some (xs.any fun z => eqD z a) else none
  | .nmem, a, .lst xs => if shp 60 a && shps 60 xs then some (!xs.any fun z => eqD z a) else none
  | .nmem, a, .tup xs => if shp 60 a && shps 60 xs then some (!xs.any fun z => eqD z a) else none
  | .mem, a, .dct ks _ => hasK ks a
  | .nmem, a, .dct ks _ => (hasK ks a).map not
  | _, _, _ => none
def isTy : D → Ty → Option Bool
  | .int _, t => some (t == .int)
  | .bl _, t => some (t == .bool || t == .int)
  | .non, _ => some false
  | .str _, t => some (t == .str)
  | .tup _, t => some (t == .tuple)
  | .lst _, t => some (t == .list)
  | .dct _ _, t => some (t == .dict)
  | .ref _, _ => none
  | .scr _, _ => none
def slIx (n d : Nat) : Option Int → Nat := HT.sIx n d
def cut {α : Type} (xs : List α) (lo hi : Option Int) : List α := (xs.drop (HT.sIx xs.length 0 lo)).take (HT.sIx xs.length xs.length hi - HT.sIx xs.length 0 lo)
def keyD : Key → D
  | .inl i => .int i
  | .inr x => .str x
/-- tuples of ints -/
def tupI (ns : List Int) : D := .tup (ns.map .int)
def tups? : List D → Option (List (List Int))
  | [] => some []
  | .tup ds :: r => (ints? ds).bind fun ns => (tups? r).map (ns :: ·)
  | _ :: _ => none
def ltL : List Int → List Int → Bool
  | [], [] => false
  | [], _ :: _ => true
  | _ :: _, [] => false
  | x :: xs, y :: ys => if x = y then ltL xs ys else decide (x < y)
def leL (a b : List Int) : Bool := !ltL b a
def sortL (l : List (List Int)) : List (List Int) := l.mergeSort leL
def minL (x : List Int) (xs : List (List Int)) : List Int := xs.foldl (fun a y => if ltL y a = true then y else a) x
def keyN? : List Key → Option (List Int)
  | [] => some []
  | .inl i :: r => (keyN? r).map (i :: ·)
  | .inr _ :: _ => none
def keysN? : List (List Key) → Option (List (List Int))
  | [] => some []
  | k :: r => (keyN? k).bind fun ns => (keysN? r).map (ns :: ·)
def maxI (x : Int) (xs : List Int) : Int := xs.foldl max x
def minI (x : Int) (xs : List Int) : Int := xs.foldl min x
def topI : List Int → Option D
  | [] => none
  | x :: xs => some (.int (maxI x xs))
def lowI : List Int → Option D
  | [] => none
  | x :: xs => some (.int (minI x xs))
def lowL : List (List Int) → Option D
  | [] => none
  | x :: xs => some (tupI (minL x xs))
def srtL (l : List (List Int)) : Option D := if (l.all fun t => !t.isEmpty) = true then some (.lst ((sortL l).map tupI)) else none
def srtK : List (List Int) → Option D
  | [] :: l => some (.lst ((sortL ([] :: l)).map tupI))
  | _ => none
def insI (x : Int) : List Int → List Int
  | [] => [x]
  | y :: r => if x ≤ y then x :: y :: r else y :: insI x r
def sortI : List Int → List Int
  | [] => []
  | x :: r => insI x (sortI r)
def dedup : List Int → List Int
  | [] => []
  | x :: r => match dedup r with
    | [] => [x]
    | y :: s => if x = y then y :: s else x :: y :: s
/-! what is shown of it -/
def keyP : Key → PyData
  | .inl i => .int i
  | .inr x => .str x
def keysP : DKs → List PyData
  | .k ks => ks.map keyP
  | .t ks => ks.map fun k => .tuple (k.map keyP)
mutual
def pyd : D → PyData
  | .non => .none | .bl b => .bool b | .int i => .int i | .str x => .str x
  | .tup ds => .tuple (pyds ds) | .lst ds => .list (pyds ds)
  | .dct ks ds => .dict ((keysP ks).zip (pyds ds))
  | .ref _ => .none
  | .scr _ => .none
def pyds : List D → List PyData
  | [] => []
  | d :: ds => pyd d :: pyds ds
end
def keyS : Key → Bool
  | .inl i => decide (i.natAbs < 2 ^ 1900)
  | .inr _ => true
def keysS : DKs → Bool
  | .k ks => ks.all keyS
  | .t _ => false
mutual
def shw : Nat → D → Bool
  | _, .non => true | _, .bl _ => true | _, .int i => decide (i.natAbs < 2 ^ 1900) | _, .str x => decide (x.length ≤ 1000) && x.cps.toList.all fun c => decide (c < 16 ^ 8)
  | n, .tup ds => match n with | 0 => false | n + 1 => shws n ds
  | n, .lst ds => match n with | 0 => false | n + 1 => shws n ds
  | n, .dct ks ds => match n with | 0 => false | n + 1 => shws n ds && decide (ks.len = ds.length) && keysS ks
  | _, .ref _ => false
  | _, .scr _ => false
def shws : Nat → List D → Bool
  | _, [] => true
  | n, d :: ds => shw n d && shws n ds
end
def shown (d : D) : Str := (pyd d).shown
def biD : Bi → List D → Option D
  | .len, [.lst xs] => some (.int xs.length)
  | .len, [.tup xs] => some (.int xs.length)
  | .len, [.scr ns] => some (.int ns.length)
  | .len, [.str x] => if x.length ≤ LIM then some (.int x.length) else none
  | .abs, [.int i] => some (.int i.natAbs)
  | .sum, [.lst xs] => (ints? xs).map fun ns => .int ns.sum
  | .sum, [.tup xs] => (ints? xs).map fun ns => .int ns.sum
  | .tuple, [.lst xs] => some (.tup xs)
  | .tuple, [.tup xs] => some (.tup xs)
  | .list, [.lst xs] => some (.lst xs)
  | .list, [.tup xs] => some (.lst xs)
  | .sorted, [.lst xs] => match ints? xs with
    | some ns => some (.lst ((sortI ns).map .int))
    | none => (tups? xs).bind srtL
  | .sorted, [.tup xs] => (ints? xs).map fun ns => .lst ((sortI ns).map .int)
  | .sorted, [.dct (.t ks) _] => (keysN? ks).bind srtK
  | .int, [.bl b] => some (.int (if b then 1 else 0))
  | .int, [.int i] => some (.int i)
  | .str, [.int i] => if i.natAbs < 2 ^ 1900 then some (.str (toString i)) else none
  | .repr, [d] => if shw 60 d && decide ((shown d).length ≤ 16000000) then some (.str (shown d)) else none
  | .max, [.int i, .int j] => some (.int (if j > i then j else i))
  | .min, [.int i, .int j] => some (.int (if j < i then j else i))
  | .max, [.lst xs] => (ints? xs).bind topI
  | .max, [.tup xs] => (ints? xs).bind topI
  | .min, [.lst xs] => match ints? xs with
    | some ns => lowI ns
    | none => (tups? xs).bind lowL
  | .all, [.lst xs] => (bools? xs).map fun bs => .bl (bs.all id)
  | _, _ => none
def valD {κ : Type} [DecidableEq κ] (ks : List κ) (ds : List D) (k : κ) : Option D := ((ks.zip ds).find? fun p => decide (p.1 = k)).map (·.2)
def valK : DKs → List D → D → Option D
  | .k ks, ds, e => (keyI e).bind fun k => valD ks ds k
  | .t ks, ds, e => (keyT e).bind fun k => valD ks ds k
def ixD : D → D → Option D
  | .lst xs, .int i => atI xs i
  | .tup xs, .int i => atI xs i
  | .dct ks ds, e => valK ks ds e
  | _, _ => none
def deref (g : List O) : D → D
  | .ref n => match g[n]? with
    | some (.lst ds) => .lst ds
    | none => .ref n
  | d => d
def strs? : List D → Option (List Str)
  | [] => some []
  | .str x :: r => (strs? r).map (x :: ·)
  | _ :: _ => none
def methD : Me → Str → D → Option D
  | .join, a, .lst xs => (strs? xs).bind fun ys => if (ys.map (·.length)).sum + ys.length * a.length ≤ LIM then some (.str (Txt.join a ys)) else none
  | .split, a, .str b => if (b.length == 0) = false ∧ a.length ≤ LIM then some (.lst ((Txt.split a b).map .str)) else none
  | _, _, _ => none
def catS (acc y : Str) : Option Str := if (acc ++ y).length ≤ LIM then some (acc ++ y) else none
def fmtD (acc : Str) : D → Option Str
  | .str y => catS acc y
  | .int i => if i.natAbs < 2 ^ 1900 then catS acc (toString i) else none
  | _ => none
/-- len of a mutable list, too -/
def biG (g : List O) : Bi → List D → Option D
  | .len, [.ref n] => match g[n]? with
    | some (.lst xs) => some (.int xs.length)
    | none => none
  | f, ds => biD f ds
def sliceD : D → Option Int → Option Int → Option D
  | .lst xs, lo, hi => some (.lst (cut xs lo hi))
  | .tup xs, lo, hi => some (.tup (cut xs lo hi))
  | .scr ns, lo, hi => some (.lst ((cut ns lo hi).map .int))
  | _, _, _ => none
def revD : D → Option D
  | .lst xs => some (.lst xs.reverse)
  | .tup xs => some (.tup xs.reverse)
  | _ => none
def setTg (r : List Slot) : Tg → D → Option (List Slot)
  | .nm i, d => some (r.set i (.fz d))
  | .tp is, .tup ds => if is.length = ds.length then some ((is.zip ds).foldl (fun r p => r.set p.1 (.fz p.2)) r) else none
  | .tp is, .lst ds => if is.length = ds.length then some ((is.zip ds).foldl (fun r p => r.set p.1 (.fz p.2)) r) else none
  | _, _ => none
/-- a mutable list may be unpacked -/
def derefT (g : List O) (tg : Tg) (d : D) : D := match tg with
  | .nm _ => d
  | .tp _ => deref g d
def constE : E → Option D
  | .int k => some (.int k)
  | .bl b => some (.bl b)
  | _ => none
def dct1K (t : Bool) (d v : D) : Option D := if t then (keyT d).map fun k => .dct (.t [k]) [v] else (keyI d).map fun k => .dct (.k [k]) [v]
def Tg.slots : Tg → List Nat
  | .nm i => [i]
  | .tp is => is
def wipeR (r : List Slot) : List Nat → List Slot
  | [] => r
  | v :: vs => (wipeR r vs).set v .no
def items : D → Option (List D)
  | .lst xs => some xs
  | .tup xs => some xs
  | _ => none
def ssetD (d : D) : Option D := ((items d).bind ints?).bind fun ns => if ns.length ≤ 4000 then some (.lst ((dedup (sortI ns)).map .int)) else none
def iterD : IK → List D → Option (List D)
  | .seq, [d] => items d
  | .range, [.int j] => if -1000000 ≤ j ∧ j ≤ 1000000 then some ((List.range j.toNat).map fun i => .int (i : Nat)) else none
  | .range2, [.int i, .int j] => if -1000000 ≤ i ∧ i ≤ 1000000 ∧ -1000000 ≤ j ∧ j ≤ 1000000 then some ((List.range (j - i).toNat).map fun (k : Nat) => .int (i + k)) else none
  | .enum, [d] => (items d).map fun xs => xs.zipIdx.map fun p => .tup [.int (p.2 : Nat), p.1]
  | .zip, [.lst xs, .lst ys] => some ((xs.zip ys).map fun p => .tup [p.1, p.2])
  | .zip, [.tup xs, .tup ys] => some ((xs.zip ys).map fun p => .tup [p.1, p.2])
  | _, _ => none
def rgD : D → D → Option (List D)
  | .int i, .int j => if -1000000 ≤ i ∧ i ≤ 1000000 ∧ -1000000 ≤ j ∧ j ≤ 1000000 then some ((List.range (j - i).toNat).map fun (k : Nat) => .int (i + k)) else none
  | _, _ => none
def mkSeq : Bool → List D → D
  | true, xs => .tup xs
  | false, xs => .lst xs
def optI : List D → Option (Option Int)
  | [] => some none
  | [.int i] => some (some i)
  | _ => none

/-! ## the evaluator -/
section
variable (gl : Nat → Option D) (cl : Nat → List D → List O → Res D)
def loopC (f : List D → D → List O → Res (List D)) : List D → List D → List O → Res (List D)
  | [], acc, g => .ok acc g
  | d :: ds, acc, g => (f acc d g).bind fun acc' g' => loopC f ds acc' g'
mutual
/-- t: the value is used up at once -/
def ev (t : Bool) (r : List Slot) : E → List O → Res D
  | .var i, g => match r[i]? with
    | some (.fz d) => .ok d g
    | _ => .bad
  | .own i, g => if t then (match r[i]? with
    | some (.own ds) => .ok (.lst ds) g
    | some (.ownK ks ds) => .ok (.dct ks ds) g
    | _ => .bad) else .bad
  | .glob x, g => lift (gl x) g
  | .int k, g => .ok (.int k) g
  | .bl b, g => .ok (.bl b) g
  | .non, g => .ok .non g
  | .str s, g => .ok (.str s) g
  | .tup es, g => (evs false r es g).bind fun ds g => lift (mkT ds) g
  | .lst es, g => (evs false r es g).bind fun ds g => lift (mkL ds) g
  | .seqS tp st es, g => (evS r es st g).bind fun ds g => lift (if tp then mkT ds else mkL ds) g
  | .dct0 t, g => .ok (.dct (if t then .t [] else .k []) []) g
  | .dct1 k e, g => (ev false r e g).bind fun d g => .ok (.dct (.k [.inr k]) [d]) g
  | .dctC t k v, g => (ev false r k g).bind fun d g => lift ((constE v).bind fun c => dct1K t d c) g
  | .bin op a b, g => (ev true r a g).bind fun x g => (ev true r b g).bind fun y g => lift (binop op x y) g
  | .neg a, g => (ev true r a g).bind fun x g => match x with
    | .int i => .ok (.int (-i)) g
    | _ => .bad
  | .not a, g => ((ev true r a g).bind asB).bind fun b g => .ok (.bl (!b)) g
  | .cmp op a b, g => (ev true r a g).bind fun x g => (ev true r b g).bind fun y g => (lift (cmpop op x y) g).bind fun b g => .ok (.bl b) g
  | .chain o p a b c, g => (ev true r a g).bind fun x g => (ev true r b g).bind fun y g => (lift (cmpop o x y) g).bind fun k g =>
      if k then (ev true r c g).bind fun z g => (lift (cmpop p y z) g).bind fun b g => .ok (.bl b) g else .ok (.bl false) g
  | .band es, g => evB true r es g
  | .bor es, g => evB false r es g
  | .ife c a b, g => ((ev true r c g).bind asB).bind fun x g => if x = true then ev t r a g else ev t r b g
  | .call f es, g => (evs false r es g).bind fun ds g => cl f ds g
  | .bi f es, g => (evs true r es g).bind fun ds g => lift (biG g f ds) g
  | .sset e, g => (ev true r e g).bind fun d g => lift (ssetD d) g
  | .isi e ty, g => (ev true r e g).bind fun d g => (lift (isTy d ty) g).bind fun b g => .ok (.bl b) g
  | .ix a b, g => (ev true r a g).bind fun x g => (ev true r b g).bind fun y g => lift (ixD (deref g x) y) g
  | .slice a lo hi, g => (ev true r a g).bind fun x g => ((evs true r lo g).bind fun l g => lift (optI l) g).bind fun l g => ((evs true r hi g).bind fun l g => lift (optI l) g).bind fun h g =>
      lift (sliceD x l h) g
  | .rev a, g => (ev true r a g).bind fun x g => lift (revD x) g
  | .comp elt tg ik its ifs, g => (evs true r its g).bind fun ds g => (lift (iterD ik ds) g).bind fun xs g =>
      (noX (loopC (fun acc d g => (lift (setTg (wipeR r tg.slots) tg d) g).bind fun r' g => (evIf r' ifs g).bind fun b g =>
        if b then (ev false r' elt g).bind fun e g => if acc.length < LIM then .ok (acc ++ [e]) g else .bad else .ok acc g) xs [] g)).bind fun ys g => .ok (.lst ys) g
  | .mk e, g => (ev false r e g).bind fun d g => match d with
    | .lst ds => .ok (.ref g.length) (g ++ [.lst ds])
    | _ => .bad
  | .meth m a b, g => (ev true r a g).bind fun x g => match x with
    | .str s => (ev true r b g).bind fun y g => lift (methD m s y) g
    | _ => .bad
  | .fs3 s1 s2 a b c, g => (ev true r a g).bind fun x g => (lift (fmtD Str.empty x) g).bind fun s g => (lift (catS s (Str.ofString s1)) g).bind fun s g =>
      (ev true r b g).bind fun x g => (lift (fmtD s x) g).bind fun s g => (lift (catS s (Str.ofString s2)) g).bind fun s g =>
      (ev true r c g).bind fun x g => (lift (fmtD s x) g).bind fun s g => .ok (.str s) g
  | .rng1 s a, g => (ev true r a g).bind fun d g => lift ((rgD (.int 0) d).map (mkSeq s)) g
  | .rng2 s a b, g => (ev true r a g).bind fun d g => (ev true r b g).bind fun e g => lift ((rgD d e).map (mkSeq s)) g
def evs (t : Bool) (r : List Slot) : List E → List O → Res (List D)
  | [], g => .ok [] g
  | e :: es, g => (ev t r e g).bind fun d g => (evs t r es g).bind fun ds g => .ok (d :: ds) g
/-- items, some of them starred -/
def evS (r : List Slot) : List E → List Bool → List O → Res (List D)
  | [], [], g => .ok [] g
  | e :: es, true :: st, g => (ev true r e g).bind fun d g => (lift (items d) g).bind fun xs g => (evS r es st g).bind fun ds g => .ok (xs ++ ds) g
  | e :: es, false :: st, g => (ev false r e g).bind fun d g => (evS r es st g).bind fun ds g => .ok (d :: ds) g
  | _, _, _ => .bad
/-- and, or -/
def evB (c : Bool) (r : List Slot) : List E → List O → Res D
  | [], _ => .bad
  | e :: es, g => ((ev true r e g).bind asB).bind fun b g => match es with
    | [] => .ok (.bl b) g
    | _ :: _ => if b = c then evB c r es g else .ok (.bl b) g
def evIf (r : List Slot) : List E → List O → Res Bool
  | [], g => .ok true g
  | e :: es, g => ((ev true r e g).bind asB).bind fun b g => if b = true then evIf r es g else .ok false g
end

end
inductive Out where
  | nx (r : List Slot) | bk (r : List Slot) | ct (r : List Slot) | rt (d : D)
def setAt {α : Type} (xs : List α) (i : Int) (v : α) : Option (List α) := (ixN xs.length i).map fun j => xs.set j v
/-- d[k] = v of a dict -/
def putD {κ : Type} [DecidableEq κ] (ks : List κ) (ds : List D) (k : κ) (d : D) : List κ × List D :=
  if (ks.any fun x => decide (x = k)) = true then (ks, (ks.zip ds).map fun p => if p.1 = k then d else p.2) else (ks ++ [k], ds ++ [d])
def setI (ds : List D) : D → D → Option (List D)
  | .int j, v => setAt ds j v
  | _, _ => none
def putI (ks : DKs) (ds : List D) (k v : D) : Option (DKs × List D) := if ks.len < LIM then (match ks with
  | .k ks => (keyI k).map fun k => let p := putD ks ds k v; (.k p.1, p.2)
  | .t ks => (keyT k).map fun k => let p := putD ks ds k v; (.t p.1, p.2)) else none
def popI (es : List D) : D → Option (List D × D)
  | .int n => if -(2 ^ 62) ≤ n ∧ n < 2 ^ 62 then (ixN es.length n).bind fun m => es[m]?.map fun v => (es.eraseIdx m, v) else none
  | _ => none
def extI (ds : List D) : D → Option (List D)
  | .lst es => if ds.length + es.length ≤ LIM then some (ds ++ es) else none
  | _ => none
def loopF (f : List Slot → D → List O → Res Out) : List D → List Slot → List O → Res Out
  | [], r, g => .ok (.nx r) g
  | d :: ds, r, g => (f r d g).bind fun o g => match o with
    | .nx r => loopF f ds r g
    | .ct r => loopF f ds r g
    | .bk r => .ok (.nx r) g
    | .rt d => .ok (.rt d) g
def loopW (c : List Slot → List O → Res Bool) (f : List Slot → List O → Res Out) : Nat → List Slot → List O → Res Out
  | 0, _, _ => .bad
  | n + 1, r, g => (c r g).bind fun b g => if b then (f r g).bind fun o g => (match o with
    | .nx r => loopW c f n r g
    | .ct r => loopW c f n r g
    | .bk r => .ok (.nx r) g
    | .rt d => .ok (.rt d) g) else .ok (.nx r) g
def slotOf : Bool → D → Option Slot
  | false, d => some (.fz d)
  | true, .lst ds => some (.own ds)
  | true, .dct ks ds => some (.ownK ks ds)
  | true, _ => none
def parR (r : List Slot) (is : List Nat) (ds : List D) : Option (List Slot) := if is.length = ds.length then some ((is.zip ds).foldl (fun r p => r.set p.1 (.fz p.2)) r) else none
def parS (r : List Slot) (is : List Nat) (ss : List Slot) : Option (List Slot) := if is.length = ss.length then some ((is.zip ss).foldl (fun r p => r.set p.1 p.2) r) else none
theorem parR_eq (r : List Slot) (is : List Nat) (ds : List D) (g : List O) : ((lift (parR r is ds) g).bind fun r g => Res.ok (Out.nx r) g) = if is.length = ds.length then .ok (.nx ((is.zip ds).foldl (fun r p => r.set p.1 (.fz p.2)) r)) g else .bad := by unfold parR; split <;> rfl
theorem parS_eq (r : List Slot) (is : List Nat) (ss : List Slot) (g : List O) : ((lift (parS r is ss) g).bind fun r g => Res.ok (Out.nx r) g) = if is.length = ss.length then .ok (.nx ((is.zip ss).foldl (fun r p => r.set p.1 p.2) r)) g else .bad := by unfold parS; split <;> rfl
section
variable (gl : Nat → Option D) (cl : Nat → List D → List O → Res D)
/-- some values to be kept as they are, some (true) to be the frame's own -/
def evP (r : List Slot) : List Bool → List E → List O → Res (List Slot)
  | [], [], g => .ok [] g
  | b :: fl, e :: es, g => (ev gl cl false r e g).bind fun d g => (lift (slotOf b d) g).bind fun s g => (evP r fl es g).bind fun ss g => .ok (s :: ss) g
  | _, _, _ => .bad
mutual
def ex (r : List Slot) : S → List O → Res Out
  | .asg tg e, g => (ev gl cl false r e g).bind fun d g => (lift (setTg r tg (derefT g tg d)) g).bind fun r g => .ok (.nx r) g
  | .asgOwn i e, g => (ev gl cl false r e g).bind fun d g => match d with
    | .lst ds => .ok (.nx (r.set i (.own ds))) g
    | .dct ks ds => .ok (.nx (r.set i (.ownK ks ds))) g
    | _ => .bad
  | .par is es, g => (evs gl cl false r es g).bind fun ds g => (lift (parR r is ds) g).bind fun r g => .ok (.nx r) g
  | .parO is fl es, g => (evP gl cl r fl es g).bind fun ss g => (lift (parS r is ss) g).bind fun r g => .ok (.nx r) g
  | .aug i op e, g => match r[i]? with
    | some (.fz (.int x)) => (ev gl cl true r e g).bind fun y g => match y with
      | .int y => (lift (binop op (.int x) (.int y)) g).bind fun z g => .ok (.nx (r.set i (.fz z))) g
      | _ => .bad
    | _ => .bad
  | .setO i b e, g => (ev gl cl false r e g).bind fun v g => match r[i]? with
    | some (.own ds) => (ev gl cl true r b g).bind fun k g => (lift (setI ds k v) g).bind fun ds g => .ok (.nx (r.set i (.own ds))) g
    | some (.ownK ks ds) => (ev gl cl true r b g).bind fun k g => (lift (putI ks ds k v) g).bind fun p g => .ok (.nx (r.set i (.ownK p.1 p.2))) g
    | _ => .bad
  | .setR a b e, g => (ev gl cl false r e g).bind fun v g => (ev gl cl true r a g).bind fun o g => (ev gl cl true r b g).bind fun k g => match o, k with
    | .ref n, .int j => (match g[n]? with
      | some (.lst ds) => (lift (setAt ds j v) g).bind fun ds g => .ok (.nx r) (g.set n (.lst ds))
      | none => .bad)
    | _, _ => .bad
  | .app i e, g => match r[i]? with
    | some (.own ds) => (ev gl cl false r e g).bind fun v g => if ds.length < LIM then .ok (.nx (r.set i (.own (ds ++ [v])))) g else .bad
    | _ => .bad
  | .appPop i j e, g => match r[i]?, r[j]? with
    | some (.own ds), some (.own es) => (ev gl cl true r e g).bind fun k g => (lift (popI es k) g).bind fun p g => if i ≠ j ∧ ds.length < LIM then .ok (.nx ((r.set j (.own p.1)).set i (.own (ds ++ [p.2])))) g else .bad
    | _, _ => .bad
  | .popX i, g => match r[i]? with
    | some (.own ds) => if ds = [] then .bad else .ok (.nx (r.set i (.own ds.dropLast))) g
    | _ => .bad
  | .extend i e, g => match r[i]? with
    | some (.own ds) => (ev gl cl true r e g).bind fun v g => (lift (extI ds v) g).bind fun ds g => .ok (.nx (r.set i (.own ds))) g
    | _ => .bad
  | .frz i, g => match r[i]? with
    | some (.own ds) => .ok (.nx (r.set i (.fz (.lst ds)))) g
    | some (.ownK ks ds) => .ok (.nx (r.set i (.fz (.dct ks ds)))) g
    | _ => .bad
  | .iff c a b, g => ((ev gl cl true r c g).bind asB).bind fun x g => if x = true then exs r a g else exs r b g
  | .for_ tg ik its b, g => (evs gl cl false r its g).bind fun ds g => (lift (iterD ik ds) g).bind fun xs g =>
      loopF (fun r d g => (lift (setTg r tg d) g).bind fun r g => exs r b g) xs r g
  | .while_ c b, g => loopW (fun r g => (ev gl cl true r c g).bind asB) (fun r g => exs r b g) LIM r g
  | .ret e, g => (ev gl cl false r e g).bind fun d g => .ok (.rt d) g
  | .retO i, g => match r[i]? with
    | some (.own ds) => .ok (.rt (.lst ds)) g
    | some (.ownK ks ds) => .ok (.rt (.dct ks ds)) g
    | _ => .bad
  | .pass, g => .ok (.nx r) g
  | .brk, g => .ok (.bk r) g
  | .cont, g => .ok (.ct r) g
  | .walN i e a b, g => (ev gl cl false r e g).bind fun d g => if d.isNon = true then exs (r.set i (.fz d)) a g else exs (r.set i (.fz d)) b g
def exs (r : List Slot) : List S → List O → Res Out
  | [], g => .ok (.nx r) g
  | s :: ss, g => (ex r s g).bind fun o g => match o with
    | .nx r => exs r ss g
    | o => .ok o g
end
end
def runFn (gl : Nat → Option D) (cl : Nat → List D → List O → Res D) (f : Fn) (ds : List D) (g : List O) : Res D :=
  if ds.length = f.ps then (exs gl cl (ds.map Slot.fz ++ List.replicate (f.ns - f.ps) Slot.no) f.body g).bind fun o g => match o with
    | .rt d => .ok d g
    | .nx _ => .ok .non g
    | _ => .bad
  else .bad
def callN (gl : Nat → Option D) (P : Nat → Option Fn) : Nat → Nat → List D → List O → Res D
  | 0, _, _, _ => .bad
  | n + 1, f, ds, g => match P f with
    | some fn => runFn gl (callN gl P n) fn ds g
    | none => .bad
end Bk
end
section
set_option Elab.async false
set_option linter.all false
set_option maxRecDepth 100000
set_option maxHeartbeats 4000000
namespace Bk
open PySem PySem.Spec PyProof.Rows L2

/-! ## values used up at once -/
def RepT (K : PySem.W.Frag) (y : Gh) (H : Hp) : D → V → Prop
  | .lst ds, v => ∃ a vs, v = .ref a ∧ a ∉ y.al ∧ H a = some (.lst vs) ∧ Reps K y H ds vs
  | .dct ks ds, v => ∃ a vs, v = .ref a ∧ a ∉ y.al ∧ H a = some (dHO ks vs) ∧ ks.len = ds.length ∧ Reps K y H ds vs
  | d, v => Rep K y H d v
def RepX (K : PySem.W.Frag) (t : Bool) (y : Gh) (H : Hp) (d : D) (v : V) : Prop := if t then RepT K y H d v else Rep K y H d v
section
variable {K : PySem.W.Frag} {y y' : Gh} {H H' : Hp} {g : List O}
theorem Rep.t {d : D} {v : V} (h : Rep K y H d v) : RepT K y H d v := by
  cases d with
  | lst ds =>
    simp only [Rep] at h
    obtain ⟨a, vs, e, z, h1, h2⟩ := h
    exact ⟨a, vs, e, fun m => z (.inr (.inr m)), h1, h2⟩
  | dct ks ds =>
    simp only [Rep] at h
    obtain ⟨a, vs, e, z, h1, hl, h2⟩ := h
    exact ⟨a, vs, e, fun m => z (.inr (.inr m)), h1, hl, h2⟩
  | _ => exact h
theorem Rep.x {t : Bool} {d : D} {v : V} (h : Rep K y H d v) : RepX K t y H d v := by
  cases t
  · exact h
  · exact h.t
theorem RepT.mono (e : Ext y H y' H') {d : D} {v : V} (h : RepT K y H d v) : RepT K y' H' d v := by
  have nal : ∀ a o, H a = some o → a ∉ y.al → a ∉ y'.al := fun a o h1 h2 z => by
    obtain ⟨t, et, nt⟩ := e.pre
    rw [et] at z
    rcases List.mem_append.mp z with q | q
    · exact h2 q
    · rw [nt a q] at h1; cases h1
  cases d with
  | lst ds => obtain ⟨a, vs, e1, z, h1, h2⟩ := h; exact ⟨a, vs, e1, nal _ _ h1 z, e.keep _ _ h1 z, Reps.mono e ds vs h2⟩
  | dct ks ds => obtain ⟨a, vs, e1, z, h1, hl, h2⟩ := h; exact ⟨a, vs, e1, nal _ _ h1 z, e.keep _ _ h1 z, hl, Reps.mono e ds vs h2⟩
  | non => exact Rep.mono (K := K) e D.non v h
  | bl b => exact Rep.mono (K := K) e (.bl b) v h
  | int i => exact Rep.mono (K := K) e (.int i) v h
  | str x => exact Rep.mono (K := K) e (.str x) v h
  | tup ds => exact Rep.mono (K := K) e (.tup ds) v h
  | ref n => exact Rep.mono (K := K) e (.ref n) v h
  | scr ns => exact Rep.mono (K := K) e (.scr ns) v h
theorem RepX.mono {t : Bool} (e : Ext y H y' H') {d : D} {v : V} (h : RepX K t y H d v) : RepX K t y' H' d v := by
  cases t
  · exact Rep.mono e d v h
  · exact RepT.mono e h
def RepsX (K : PySem.W.Frag) (t : Bool) (y : Gh) (H : Hp) : List D → List V → Prop
  | [], vs => vs = []
  | d :: ds, vs => ∃ v ws, vs = v :: ws ∧ RepX K t y H d v ∧ RepsX K t y H ds ws
theorem RepsX.mono {t : Bool} (e : Ext y H y' H') : ∀ {ds : List D} {vs : List V}, RepsX K t y H ds vs → RepsX K t y' H' ds vs
  | [], _, h => h
  | d :: ds, _, ⟨v, ws, e1, h1, h2⟩ => ⟨v, ws, e1, h1.mono e, RepsX.mono e h2⟩
theorem RepsX.f : ∀ {ds : List D} {vs : List V}, RepsX K false y H ds vs → Reps K y H ds vs
  | [], _, h => by simp only [Reps]; exact h
  | d :: ds, _, ⟨v, ws, e1, h1, h2⟩ => by simp only [Reps]; exact ⟨v, ws, e1, h1, RepsX.f h2⟩
end

/-! ## what is wanted behind a result -/
def XRep (K : PySem.W.Frag) (mg : Str → Option Value) (y : Gh) (H : Hp) (x : X) (c : Value) (od : Option Addr) : Prop :=
  ∃ C, mg x.cls = some (.ref C) ∧ c = .ref C ∧ ((x.fs = [] ∧ od = none) ∨ ∃ f d dd v, x.fs = [(f, d)] ∧ od = some dd ∧ H dd = some (.xd [(f, v)]) ∧ ¬ y.Z dd ∧ Rep K y H d v)
section
variable (K : PySem.W.Frag) (mg : Str → Option Value) (W : WX)
/-- a result of any kind: P tells how the answer stands -/
def PostG {α β : Type} (P : Gh → Hp → α → β → Prop) (y : Gh) (σ : L2.St) (H : Hp) (Q : β → Hp → Prop) : Res α → Prop
  | .ok a g' => ∀ y' H' v, Ext y H y' H' → Good K y' H' g' → P y' H' a v → Q v H'
  | .exc x g' => ∀ y' H' c od, Ext y H y' H' → Good K y' H' g' → XRep K mg y' H' x c od → W c od σ H'
  | .bad => False
def tG {α β : Type} (P : Gh → Hp → α → β → Prop) (F : List Slot → List O → Res α) : L2.St → Hp → (β → Hp → Prop) → Prop :=
  fun σ H Q => ∃ y r g, SR K y H r σ ∧ Good K y H g ∧ PostG K mg W P y σ H Q (F r g)
abbrev tE (t : Bool) (F : List Slot → List O → Res D) : TE := tG K mg W (RepX K t) F
abbrev tA (t : Bool) (F : List Slot → List O → Res (List D)) : TA := tG K mg W (RepsX K t) F
abbrev tT (F : List Slot → List O → Res Bool) : TT := tG K mg W (fun _ _ (b c : Bool) => b = c) F
end
section
variable {K : PySem.W.Frag} {mg : Str → Option Value} {W : WX} {y y' y1 : Gh} {H H' H1 : Hp} {σ : L2.St} {g : List O}
theorem PostG.step {α β : Type} {P : Gh → Hp → α → β → Prop} {Q : β → Hp → Prop} (e : Ext y H y1 H1) : ∀ {R : Res α}, PostG K mg W P y σ H Q R → PostG K mg W P y1 σ H1 Q R
  | .ok a g', h => fun y' H' v e' G p => h y' H' v (e.trans e') G p
  | .exc x g', h => fun y' H' c od e' G p => h y' H' c od (e.trans e') G p
  | .bad, h => h
/-- one part, then the rest -/
theorem tG.bind {α β γ δ : Type} {P : Gh → Hp → α → β → Prop} {P' : Gh → Hp → γ → δ → Prop} {F : List Slot → List O → Res α} {G : List Slot → α → List O → Res γ} {Q : δ → Hp → Prop} {R : β → Hp → Prop}
    (h : tG K mg W P' (fun r g => (F r g).bind (G r)) σ H Q)
    (k : ∀ y r a g v H1, SR K y H1 r σ → Good K y H1 g → P y H1 a v → PostG K mg W P' y σ H1 Q (G r a g) → R v H1) : tG K mg W P F σ H R := by
  obtain ⟨y, r, g, S, G0, p⟩ := h
  refine ⟨y, r, g, S, G0, ?_⟩
  dsimp only at p
  cases e : F r g with
  | ok a g' =>
    rw [e] at p
    exact fun y' H' v e' G' q => k y' r a g' v H' (S.mono e' G0) G' q (PostG.step e' p)
  | exc x g' => rw [e] at p; exact p
  | bad => rw [e] at p; exact p.elim
theorem PostG.val {t : Bool} {Q : VK} {d : D} {v : V} (h : PostG K mg W (RepX K t) y σ H Q (.ok d g)) (G : Good K y H g) (r : Rep K y H d v) : Q v H := h y H v (Ext.refl _ _) G r.x
theorem PostG.newT {t : Bool} {Q : VK} {ds : List D} {vs : List V} (h : PostG K mg W (RepX K t) y σ H Q (.ok (.tup ds) g)) (G : Good K y H g) (r : Reps K y H ds vs) (p : Addr) (hp : H p = none) : Q (.ref p) (upd H p (.tup vs)) := by
  refine h y _ _ (ext_new hp) (G.new hp) (Rep.x ?_)
  simp only [Rep]
  exact ⟨p, vs, rfl, ⟨G.free hp, upd_same⟩, Reps.mono (ext_new hp) _ _ r⟩
theorem PostG.newL {t : Bool} {Q : VK} {ds : List D} {vs : List V} (h : PostG K mg W (RepX K t) y σ H Q (.ok (.lst ds) g)) (G : Good K y H g) (r : Reps K y H ds vs) (p : Addr) (hp : H p = none) : Q (.ref p) (upd H p (.lst vs)) := by
  refine h y _ _ (ext_new hp) (G.new hp) (Rep.x ?_)
  simp only [Rep]
  exact ⟨p, vs, rfl, G.free hp, upd_same, Reps.mono (ext_new hp) _ _ r⟩
theorem lim_size {n : Nat} (h : n ≤ LIM) : n ≤ sizeLine := Nat.le_trans h (by decide)
theorem lim_lt {n : Nat} (h : n ≤ LIM) : n < sizeLine := Nat.lt_of_le_of_lt h (by decide)
end

/-! ## the three ways a value is wanted: as a value, used up at once, fresh -/
inductive Mode | v | t | f
  deriving DecidableEq
def Mode.b : Mode → Bool
  | .t => true
  | _ => false
def Gh.off (y : Gh) (p : Addr) : Gh := { y with W := fun a => y.W a ∨ a = p }
def Gh.back (y : Gh) (W : Addr → Prop) : Gh := { y with W := W }
section
variable (K : PySem.W.Frag) (mg : Str → Option Value) (W : WX)
/-- a fresh list or dict at p: nothing else knows p -/
def PostF (y : Gh) (σ : L2.St) (H : Hp) (Q : VK) : Res D → Prop
  | .ok (.lst ds) g' => ∀ y' H' p vs, Ext y H y' H' → Good K (y'.off p) H' g' → H p = none → p ∉ y'.al → H' p = some (.lst vs) → Reps K (y'.off p) H' ds vs → Q (.ref p) H'
  | .ok (.dct ks ds) g' => ∀ y' H' p vs, Ext y H y' H' → Good K (y'.off p) H' g' → H p = none → p ∉ y'.al → H' p = some (dHO ks vs) → ks.len = ds.length → Reps K (y'.off p) H' ds vs → Q (.ref p) H'
  | .ok _ _ => False
  | .exc x g' => ∀ y' H' c od, Ext y H y' H' → Good K y' H' g' → XRep K mg y' H' x c od → W c od σ H'
  | .bad => False
def PostX (m : Mode) (y : Gh) (σ : L2.St) (H : Hp) (Q : VK) : Res D → Prop := match m with
  | .v => PostG K mg W (RepX K false) y σ H Q
  | .t => PostG K mg W (RepX K true) y σ H Q
  | .f => PostF K mg W y σ H Q
def tX (m : Mode) (F : List Slot → List O → Res D) : TE := fun σ H Q => ∃ y r g, SR K y H r σ ∧ Good K y H g ∧ PostX K mg W m y σ H Q (F r g)
/-- what every wish behind a result has -/
structure IsPost (σ : L2.St) {γ : Type} (T : Gh → Hp → Res γ → Prop) : Prop where
  step : ∀ {y H y1 H1 R}, Ext y H y1 H1 → T y H R → T y1 H1 R
  exc : ∀ {y H x g}, T y H (.exc x g) → ∀ y' H' c od, Ext y H y' H' → Good K y' H' g → XRep K mg y' H' x c od → W c od σ H'
  bad : ∀ {y H}, T y H .bad → False
end
section
variable {K : PySem.W.Frag} {mg : Str → Option Value} {W : WX} {y y' y1 : Gh} {H H' H1 : Hp} {σ : L2.St} {g : List O}
theorem IsPost.gp {α β : Type} {P : Gh → Hp → α → β → Prop} {Q : β → Hp → Prop} : IsPost K mg W σ (fun y H R => PostG K mg W P y σ H Q R) := ⟨fun e h => h.step e, fun h => h, fun h => h⟩
theorem PostF.step {Q : VK} (e : Ext y H y1 H1) {R : Res D} (h : PostF K mg W y σ H Q R) : PostF K mg W y1 σ H1 Q R := by
  cases R with
  | ok d g' =>
    cases d with
    | lst ds => exact fun y' H' p vs e' G hp => h y' H' p vs (e.trans e') G (e.dom p hp)
    | dct ks ds => exact fun y' H' p vs e' G hp => h y' H' p vs (e.trans e') G (e.dom p hp)
    | _ => exact h.elim
  | exc x g' => exact fun y' H' c od e' G p => h y' H' c od (e.trans e') G p
  | bad => exact h
theorem IsPost.f {Q : VK} : IsPost K mg W σ (fun y H R => PostF K mg W y σ H Q R) := ⟨fun e h => PostF.step e h, fun h => h, fun h => h⟩
theorem IsPost.x {m : Mode} {Q : VK} : IsPost K mg W σ (fun y H R => PostX K mg W m y σ H Q R) := by
  cases m
  · exact .gp
  · exact .gp
  · exact .f
/-- one part, then the rest -/
theorem bindP {α β γ : Type} {P : Gh → Hp → α → β → Prop} {T : Gh → Hp → Res γ → Prop} (hT : IsPost K mg W σ T) {F : List Slot → List O → Res α} {G : α → List O → Res γ} {R : β → Hp → Prop} {r : List Slot}
    (S : SR K y H r σ) (G0 : Good K y H g) (h : T y H ((F r g).bind G))
    (k : ∀ y1 a g1 v H1, SR K y1 H1 r σ → Good K y1 H1 g1 → P y1 H1 a v → Ext y H y1 H1 → T y1 H1 (G a g1) → R v H1) : tG K mg W P F σ H R := by
  refine ⟨y, r, g, S, G0, ?_⟩
  cases e : F r g with
  | ok a g' =>
    rw [e] at h
    exact fun y' H' v e' G' q => k y' a g' v H' (S.mono e' G0) G' q e' (hT.step e' h)
  | exc x g' => rw [e] at h; exact hT.exc h
  | bad => rw [e] at h; exact hT.bad h
theorem tX_v {F : List Slot → List O → Res D} : tX K mg W .v F = tE K mg W false F := rfl
theorem tX_t {F : List Slot → List O → Res D} : tX K mg W .t F = tE K mg W true F := rfl
end
theorem lift_post {α : Type} {K : PySem.W.Frag} {mg : Str → Option Value} {W : WX} {σ : L2.St} {y : Gh} {H : Hp} {T : Gh → Hp → Res α → Prop} (hT : IsPost K mg W σ T) {o : Option α} {g : List O} (h : T y H (lift o g)) : ∃ a, o = some a ∧ T y H (.ok a g) := by
  cases o with
  | none => exact (hT.bad h).elim
  | some a => exact ⟨a, rfl, h⟩

/-! ## operations -/
/-- a pure operation: what it is asked, and that the rest holds of its answer -/
def Ans (K : PySem.W.Frag) (y : Gh) (H : Hp) (Q : VK) (d : D) (g : List O) : Prop := ∀ y' H' v, Ext y H y' H' → Good K y' H' g → Rep K y' H' d v → Q v H'
section
variable {K : PySem.W.Frag} {mg : Str → Option Value} {W : WX} {y : Gh} {H : Hp} {σ : L2.St} {g : List O} {Q : VK}
theorem Ans.of {t : Bool} {d : D} (h : PostG K mg W (RepX K t) y σ H Q (.ok d g)) : Ans K y H Q d g := fun y' H' v e G r => h y' H' v e G r.x
theorem Ans.lift {t : Bool} {o : Option D} (h : PostG K mg W (RepX K t) y σ H Q (lift o g)) : ∃ d, o = some d ∧ Ans K y H Q d g := by
  cases o with
  | none => exact h.elim
  | some d => exact ⟨d, rfl, .of h⟩
theorem Ans.val {d : D} {v : V} (h : Ans K y H Q d g) (G : Good K y H g) (r : Rep K y H d v) : Q v H := h y H v (Ext.refl _ _) G r
theorem Ans.newT {ds : List D} {vs : List V} (h : Ans K y H Q (.tup ds) g) (G : Good K y H g) (r : Reps K y H ds vs) (p : Addr) (hp : H p = none) : Q (.ref p) (upd H p (.tup vs)) := by
  refine h y _ _ (ext_new hp) (G.new hp) ?_
  simp only [Rep]
  exact ⟨p, vs, rfl, ⟨G.free hp, upd_same⟩, Reps.mono (ext_new hp) _ _ r⟩
theorem Ans.newL {ds : List D} {vs : List V} (h : Ans K y H Q (.lst ds) g) (G : Good K y H g) (r : Reps K y H ds vs) (p : Addr) (hp : H p = none) : Q (.ref p) (upd H p (.lst vs)) := by
  refine h y _ _ (ext_new hp) (G.new hp) ?_
  simp only [Rep]
  exact ⟨p, vs, rfl, G.free hp, upd_same, Reps.mono (ext_new hp) _ _ r⟩
theorem Ans.int {i : Int} (h : Ans K y H Q (.int i) g) (G : Good K y H g) : Q (.int i) H := h.val G (by simp only [Rep])
theorem Ans.bl {b : Bool} (h : Ans K y H Q (.bl b) g) (G : Good K y H g) : Q (.bl b) H := h.val G (by simp only [Rep])
theorem Ans.str {x : Str} (h : Ans K y H Q (.str x) g) (G : Good K y H g) : Q (.str x) H := h.val G (by simp only [Rep])
theorem rt_int {i : Int} {v : V} (h : RepT K y H (.int i) v) : v = .int i := by simpa only [RepT, Rep] using h
theorem rt_bl {i : Bool} {v : V} (h : RepT K y H (.bl i) v) : v = .bl i := by simpa only [RepT, Rep] using h
theorem rt_str {i : Str} {v : V} (h : RepT K y H (.str i) v) : v = .str i := by simpa only [RepT, Rep] using h
theorem rt_non {v : V} (h : RepT K y H .non v) : v = .non := by simpa only [RepT, Rep] using h
theorem rt_lst {ds : List D} {v : V} (h : RepT K y H (.lst ds) v) : ∃ a vs, v = .ref a ∧ H a = some (.lst vs) ∧ Reps K y H ds vs := by
  obtain ⟨a, vs, e, _, h1, h2⟩ := h
  exact ⟨a, vs, e, h1, h2⟩
theorem rt_tup {ds : List D} {v : V} (h : RepT K y H (.tup ds) v) : ∃ a vs, v = .ref a ∧ SqT K H a vs ∧ Reps K y H ds vs := by
  simp only [RepT, Rep] at h
  obtain ⟨a, vs, e, h1, h2⟩ := h
  exact ⟨a, vs, e, h1.sq, h2⟩
end
/-- .. of a result that may be a new object: the object is made last -/
def An (K : PySem.W.Frag) (y : Gh) (H : Hp) (Q : VK) (o : D) (g : List O) : Prop := ∀ y' H', Ext y H y' H' → Good K y' H' g → match o with
  | .lst ds => ∀ vs p, Reps K y' H' ds vs → H' p = none → Q (.ref p) (upd H' p (.lst vs))
  | .dct ks ds => ∀ vs p, Reps K y' H' ds vs → ks.len = ds.length → H' p = none → Q (.ref p) (upd H' p (dHO ks vs))
  | d => ∀ v, Rep K y' H' d v → Q v H'
section
variable {K : PySem.W.Frag} {y : Gh} {H : Hp} {Q : VK} {g : List O}
theorem Ans.an {o : D} (h : Ans K y H Q o g) : An K y H Q o g := by
  intro y' H' e G
  cases o with
  | lst ds => exact fun vs p r hp => (show Ans K y' H' Q (.lst ds) g from fun y2 H2 v e2 G2 r2 => h y2 H2 v (e.trans e2) G2 r2).newL G r p hp
  | dct ks ds =>
    refine fun vs p r hl hp => h _ _ _ (e.trans (ext_new hp)) (G.new hp) ?_
    simp only [Rep]
    exact ⟨p, vs, rfl, G.free hp, upd_same, hl, Reps.mono (ext_new hp) _ _ r⟩
  | _ => exact fun v r => h y' H' v e G r
theorem An.newL {ds : List D} {vs : List V} (h : An K y H Q (.lst ds) g) (G : Good K y H g) (r : Reps K y H ds vs) (p : Addr) (hp : H p = none) : Q (.ref p) (upd H p (.lst vs)) := h y H (Ext.refl _ _) G vs p r hp
theorem An.newT {ds : List D} {vs : List V} (h : An K y H Q (.tup ds) g) (G : Good K y H g) (r : Reps K y H ds vs) (p : Addr) (hp : H p = none) : Q (.ref p) (upd H p (.tup vs)) := by
  refine h y _ (ext_new hp) (G.new hp) _ ?_
  simp only [Rep]
  exact ⟨p, vs, rfl, ⟨G.free hp, upd_same⟩, Reps.mono (ext_new hp) _ _ r⟩
theorem An.tupV {ds : List D} {v : V} (h : An K y H Q (.tup ds) g) (G : Good K y H g) (r : Rep K y H (.tup ds) v) : Q v H := h y H (Ext.refl _ _) G v r
theorem An.int {i : Int} (h : An K y H Q (.int i) g) (G : Good K y H g) : Q (.int i) H := h y H (Ext.refl _ _) G _ (by simp only [Rep])
theorem An.bl {b : Bool} (h : An K y H Q (.bl b) g) (G : Good K y H g) : Q (.bl b) H := h y H (Ext.refl _ _) G _ (by simp only [Rep])
theorem An.str {x : Str} (h : An K y H Q (.str x) g) (G : Good K y H g) : Q (.str x) H := h y H (Ext.refl _ _) G _ (by simp only [Rep])
end

section
variable {K : PySem.W.Frag} {mg : Str → Option Value} {W : WX} {y : Gh} {H : Hp} {σ : L2.St} {g : List O} {Q : VK}
theorem Rep.off0 {p : Addr} (hp : H p = none) : ∀ (d : D) (v : V), Rep K y H d v → Rep K (y.off p) H d v := by
  have ne : ∀ {a : Addr} {u : HO}, H a = some u → ¬ y.Z a → ¬ (y.off p).Z a := fun {a u} h n z => by
    rcases z with z | (z | z) | z
    · exact n (.inl z)
    · exact n (.inr (.inl z))
    · exact ne_of_none h hp z
    · exact n (.inr (.inr z))
  have one : ∀ (n : Nat) (d : D) (v : V), sizeOf d < n → Rep K y H d v → Rep K (y.off p) H d v := by
    intro n
    induction n with
    | zero => intro d v hn; exact absurd hn (Nat.not_lt_zero _)
    | succ n ih =>
      have all : ∀ (ds : List D) (vs : List V), sizeOf ds < n → Reps K y H ds vs → Reps K (y.off p) H ds vs := by
        intro ds
        induction ds with
        | nil => intro vs _ h; simpa only [Reps] using h
        | cons d ds ih2 =>
          intro vs hn h
          simp only [Reps] at h ⊢
          obtain ⟨v, ws, e1, h1, h2⟩ := h
          simp only [List.cons.sizeOf_spec] at hn
          exact ⟨v, ws, e1, ih d v (by omega) h1, ih2 ws (by omega) h2⟩
      intro d v hn h
      cases d with
      | tup ds =>
        simp only [Rep] at h ⊢
        simp only [D.tup.sizeOf_spec] at hn
        obtain ⟨a, vs, e1, h1, h2⟩ := h
        refine ⟨a, vs, e1, ?_, all ds vs (by omega) h2⟩
        exact ⟨ne h1.2 h1.1, h1.2⟩
      | lst ds =>
        simp only [Rep] at h ⊢
        simp only [D.lst.sizeOf_spec] at hn
        obtain ⟨a, vs, e1, z, h1, h2⟩ := h
        exact ⟨a, vs, e1, ne h1 z, h1, all ds vs (by omega) h2⟩
      | dct ks ds =>
        simp only [Rep] at h ⊢
        simp only [D.dct.sizeOf_spec] at hn
        obtain ⟨a, vs, e1, z, h1, hl, h2⟩ := h
        exact ⟨a, vs, e1, ne h1 z, h1, hl, all ds vs (by omega) h2⟩
      | ref k => simp only [Rep] at h ⊢; exact h
      | scr ns =>
        simp only [Rep] at h ⊢
        obtain ⟨a, e1, h1⟩ := h
        refine ⟨a, e1, ?_⟩
        rcases h1 with ⟨z, o, h1⟩ | h1
        · exact .inl ⟨ne h1 z, o, h1⟩
        · exact .inr h1
      | _ => simpa only [Rep] using h
  exact fun d v => one _ d v (Nat.lt_succ_self _)
theorem Reps.off0 {p : Addr} (hp : H p = none) : ∀ (ds : List D) (vs : List V), Reps K y H ds vs → Reps K (y.off p) H ds vs := by
  intro ds
  induction ds with
  | nil => intro vs h; simpa only [Reps] using h
  | cons d ds ih =>
    intro vs h
    simp only [Reps] at h ⊢
    obtain ⟨v, ws, e1, h1, h2⟩ := h
    exact ⟨v, ws, e1, Rep.off0 hp d v h1, ih ws h2⟩
theorem Reps.off {p : Addr} {o : HO} (hp : H p = none) (ds : List D) (vs : List V) (h : Reps K y H ds vs) : Reps K (y.off p) (upd H p o) ds vs :=
  Reps.mono (ext_new hp) _ _ (Reps.off0 hp _ _ h)
/-- less is avoided -/
theorem Reps.anti {y' : Gh} (hz : ∀ a, y'.Z a → y.Z a) (hal : ∃ t, y'.al = y.al ++ t) : (∀ (d : D) (v : V), Rep K y H d v → Rep K y' H d v) ∧ ∀ (ds : List D) (vs : List V), Reps K y H ds vs → Reps K y' H ds vs := by
  have one : ∀ (n : Nat) (d : D) (v : V), sizeOf d < n → Rep K y H d v → Rep K y' H d v := by
    intro n
    induction n with
    | zero => intro d v hn; exact absurd hn (Nat.not_lt_zero _)
    | succ n ih =>
      have all : ∀ (ds : List D) (vs : List V), sizeOf ds < n → Reps K y H ds vs → Reps K y' H ds vs := by
        intro ds
        induction ds with
        | nil => intro vs _ h; simpa only [Reps] using h
        | cons d ds ih2 =>
          intro vs hn h
          simp only [Reps] at h ⊢
          obtain ⟨v, ws, e1, h1, h2⟩ := h
          simp only [List.cons.sizeOf_spec] at hn
          exact ⟨v, ws, e1, ih d v (by omega) h1, ih2 ws (by omega) h2⟩
      intro d v hn h
      cases d with
      | tup ds =>
        simp only [Rep] at h ⊢
        simp only [D.tup.sizeOf_spec] at hn
        obtain ⟨a, vs, e1, h1, h2⟩ := h
        refine ⟨a, vs, e1, ?_, all ds vs (by omega) h2⟩
        exact ⟨fun z => h1.1 (hz _ z), h1.2⟩
      | lst ds =>
        simp only [Rep] at h ⊢
        simp only [D.lst.sizeOf_spec] at hn
        obtain ⟨a, vs, e1, z, h1, h2⟩ := h
        exact ⟨a, vs, e1, fun q => z (hz _ q), h1, all ds vs (by omega) h2⟩
      | dct ks ds =>
        simp only [Rep] at h ⊢
        simp only [D.dct.sizeOf_spec] at hn
        obtain ⟨a, vs, e1, z, h1, hl, h2⟩ := h
        exact ⟨a, vs, e1, fun q => z (hz _ q), h1, hl, all ds vs (by omega) h2⟩
      | ref k =>
        simp only [Rep] at h ⊢
        obtain ⟨a, h1, h2⟩ := h
        obtain ⟨t, et⟩ := hal
        obtain ⟨hl, _⟩ := List.getElem?_eq_some_iff.mp h1
        exact ⟨a, by rw [et, List.getElem?_append_left hl]; exact h1, h2⟩
      | scr ns =>
        simp only [Rep] at h ⊢
        obtain ⟨a, e1, h1⟩ := h
        refine ⟨a, e1, ?_⟩
        rcases h1 with ⟨z, o, h1⟩ | h1
        · exact .inl ⟨fun q => z (hz _ q), o, h1⟩
        · exact .inr h1
      | _ => simpa only [Rep] using h
  refine ⟨fun d v => one _ d v (Nat.lt_succ_self _), fun ds => ?_⟩
  induction ds with
  | nil => intro vs h; simpa only [Reps] using h
  | cons d ds ih =>
    intro vs h
    simp only [Reps] at h ⊢
    obtain ⟨v, ws, e1, h1, h2⟩ := h
    exact ⟨v, ws, e1, one _ d v (Nat.lt_succ_self _) h1, ih ws h2⟩
theorem Good.off (G : Good K y H g) {p : Addr} {o : HO} (hp : H p = none) (ho : ∀ xs, o ≠ .tup xs := by intro xs h; first | (exact dHO_nt h) | cases h) : Good K (y.off p) (upd H p o) g := by
  have N := G.new (o := o) hp
  have np : ∀ a, a ∈ y.al → a ≠ p := fun a ha e => by
    obtain ⟨u, h⟩ := G.zok a (.inr (.inr ha))
    exact ne_of_none h hp e
  have aw : ∀ a, (y.off p).W a → ¬ (y.off p).A a := fun a w z => by
    rcases w with w | w
    · exact G.aw a w z
    · obtain ⟨u, h⟩ := G.zok a (.inl z)
      exact ne_of_none h hp w
  refine ⟨fun a z => ?_, aw, fun a ha => ⟨(G.disj a ha).1, fun w => ?_⟩, G.nd, G.len, fun n a q h1 h2 => ?_, fun a xs z h => ?_⟩
  · rcases z with z | (z | z) | z
    · exact N.zok a (.inl z)
    · exact N.zok a (.inr (.inl z))
    · subst z; exact ⟨o, upd_same⟩
    · exact N.zok a (.inr (.inr z))
  · rcases w with w | w
    · exact (G.disj a ha).2 w
    · exact np a ha w
  · have h3 := G.objs n a q h1 h2
    cases q with
    | lst ds =>
      obtain ⟨vs, e1, e2⟩ := h3
      exact ⟨vs, by rw [upd_ne (ne_of_none e1 hp)]; exact e1, Reps.off hp _ _ e2⟩
  · by_cases ea : a = p
    · subst ea; rw [upd_same] at h; injection h with h; exact ho xs h
    · rcases z with z | (z | z) | z
      · exact N.mt a xs (.inl z) h
      · exact N.mt a xs (.inr (.inl z)) h
      · exact ea z
      · exact N.mt a xs (.inr (.inr z)) h
/-- an address of the frame's own is written -/
theorem Good.upd (G : Good K y H g) {b : Addr} {o : HO} (w : y.W b) (ho : ∀ xs, o ≠ .tup xs := by intro xs h; first | (exact dHO_nt h) | cases h) : Good K y (upd H b o) g ∧ Evo y H y (upd H b o) := by
  have ev : Evo y H y (L2.upd H b o) := ⟨rfl, ⟨[], by simp, fun _ h => by simp at h⟩, fun a u h _ hw => by rw [upd_ne (fun e : a = b => hw (by rw [e]; exact w))]; exact h, fun a h => by
    by_cases ea : a = b
    · subst ea; rw [upd_same] at h; cases h
    · rw [upd_ne ea] at h; exact h, fun a w => .inl w⟩
  refine ⟨⟨fun a z => ?_, G.aw, G.disj, G.nd, G.len, fun n a o h1 h2 => ?_, fun a xs z h => ?_⟩, ev⟩
  · by_cases ea : a = b
    · subst ea; exact ⟨_, upd_same⟩
    · rw [upd_ne ea]; exact G.zok a z
  · have h3 := G.objs n a o h1 h2
    have ne : a ≠ b := fun e => (G.disj b (e ▸ List.mem_of_getElem? h1)).2 w
    cases o with
    | lst os =>
      obtain ⟨ws, k1, k2⟩ := h3
      exact ⟨ws, by rw [upd_ne ne]; exact k1, Reps.monoS ev _ _ k2⟩
  · by_cases ea : a = b
    · subst ea; rw [upd_same] at h; injection h with h; exact ho xs h
    · rw [upd_ne ea] at h; exact G.mt a xs z h
theorem Good.back {W0 : Addr → Prop} (G : Good K y H g) (hw : ∀ a, W0 a → y.W a) : Good K (y.back W0) H g := by
  have hz : ∀ a, (y.back W0).Z a → y.Z a := fun a z => by
    rcases z with z | z | z
    · exact .inl z
    · exact .inr (.inl (hw a z))
    · exact .inr (.inr z)
  refine ⟨fun a z => G.zok a (hz a z), fun a w => G.aw a (hw a w), fun a ha => ⟨(G.disj a ha).1, fun w => (G.disj a ha).2 (hw a w)⟩, G.nd, G.len, fun n a q h1 h2 => ?_, fun a xs z => G.mt a xs (hz a z)⟩
  have h3 := G.objs n a q h1 h2
  cases q with
  | lst ds =>
    obtain ⟨vs, e1, e2⟩ := h3
    exact ⟨vs, e1, (Reps.anti hz ⟨[], by simp [Gh.back]⟩).2 _ _ e2⟩
theorem PostX.an {m : Mode} {o : D} (h : PostX K mg W m y σ H Q (.ok o g)) : An K y H Q o g := by
  cases m with
  | v => exact Ans.an (Ans.of (mg := mg) (W := W) (σ := σ) (t := false) h)
  | t => exact Ans.an (Ans.of (mg := mg) (W := W) (σ := σ) (t := true) h)
  | f =>
    intro y' H' e G
    have h : PostF K mg W y σ H Q (.ok o g) := h
    cases o with
    | lst ds => exact fun vs p r hp => h y' _ p vs (e.trans (ext_new hp)) (G.off hp) (e.dom p hp) (fun z => (G.free hp) (.inr (.inr z))) upd_same (Reps.off hp _ _ r)
    | dct ks ds => exact fun vs p r hl hp => h y' _ p vs (e.trans (ext_new hp)) (G.off hp) (e.dom p hp) (fun z => (G.free hp) (.inr (.inr z))) upd_same hl (Reps.off hp _ _ r)
    | _ => exact h.elim
end

def Bop.op : Bop → Operator
  | .add => .Add | .sub => .Sub | .mul => .Mult | .fdiv => .FloorDiv | .mod => .Mod | .pow => .Pow | .shl => .LShift | .shr => .RShift
def rBin (K : PySem.W.Frag) (op : Bop) : R2 := fun x z H Q => ∃ y g d e o, Good K y H g ∧ RepT K y H d x ∧ RepT K y H e z ∧ binop op d e = some o ∧ An K y H Q o g
end Bk
end
section
set_option Elab.async false
set_option linter.all false
set_option maxRecDepth 100000
set_option maxHeartbeats 4000000
namespace Bk
open PySem PySem.Spec PyProof.Rows L2
section
variable {K : PySem.W.Frag} {y : Gh} {H : Hp}
mutual
theorem dp_of : ∀ (d : D) (n : Nat) (v : V), Rep K y H d v → shp n d = true → Dp K H v (pyd d)
  | .non, _, _, h, _ => by simp only [Rep] at h; subst h; simp only [pyd]; exact .non
  | .bl b, _, _, h, _ => by simp only [Rep] at h; subst h; simp only [pyd]; exact .bl b
  | .int i, _, _, h, _ => by simp only [Rep] at h; subst h; simp only [pyd]; exact .int i
  | .str x, _, _, h, _ => by simp only [Rep] at h; subst h; simp only [pyd]; exact .str x
  | .tup ds, 0, _, _, s => by simp [shp] at s
  | .tup ds, n + 1, _, h, s => by
    simp only [Rep] at h; simp only [shp] at s
    obtain ⟨a, vs, rfl, h1, h2⟩ := h
    simp only [pyd]
    exact .tup h1.sq (dps_of ds n vs h2 s)
  | .lst ds, 0, _, _, s => by simp [shp] at s
  | .lst ds, n + 1, _, h, s => by
    simp only [Rep] at h; simp only [shp] at s
    obtain ⟨a, vs, rfl, _, h1, h2⟩ := h
    simp only [pyd]
    exact .lst (.inl (.inl h1)) (dps_of ds n vs h2 s)
  | .dct _ _, _, _, _, s => by simp [shp] at s
  | .ref _, _, _, _, s => by simp [shp] at s
  | .scr _, _, _, _, s => by simp [shp] at s
theorem dps_of : ∀ (ds : List D) (n : Nat) (vs : List V), Reps K y H ds vs → shps n ds = true → DpAll K H vs (pyds ds)
  | [], _, _, h, _ => by simp only [Reps] at h; subst h; simp only [pyds]; exact .nil
  | d :: ds, n, _, h, s => by
    simp only [Reps] at h; simp only [shps, Bool.and_eq_true] at s
    obtain ⟨v, ws, rfl, h1, h2⟩ := h
    simp only [pyds]
    exact .cons (dp_of d n v h1 s.1) (dps_of ds n ws h2 s.2)
end
theorem dp_t {d : D} {n : Nat} {v : V} (h : RepT K y H d v) (s : shp n d = true) : Dp K H v (pyd d) := by
  cases d with
  | lst ds =>
    obtain ⟨a, vs, rfl, h1, h2⟩ := rt_lst h
    cases n with
    | zero => simp [shp] at s
    | succ n =>
      simp only [shp] at s
      simp only [pyd]
      exact .lst (.inl (.inl h1)) (dps_of ds n vs h2 s)
  | dct ks ds => simp [shp] at s
  | non => exact dp_of (y := y) _ n v h s
  | bl b => exact dp_of (y := y) _ n v h s
  | int b => exact dp_of (y := y) _ n v h s
  | str b => exact dp_of (y := y) _ n v h s
  | tup b => exact dp_of (y := y) _ n v h s
  | ref b => exact dp_of (y := y) _ n v h s
  | scr b => exact dp_of (y := y) _ n v h s
end
mutual
theorem shp_lay : ∀ (d : D) (n : Nat), shp n d = true → (pyd d).plain = true ∧ (pyd d).depth ≤ n
  | .non, _, _ => by simp [pyd, PyData.plain, PyData.depth]
  | .bl b, _, _ => by simp [pyd, PyData.plain, PyData.depth]
  | .int i, _, _ => by simp [pyd, PyData.plain, PyData.depth]
  | .str x, _, s => by simp [pyd, PyData.plain, PyData.depth]
  | .tup ds, 0, s => by simp [shp] at s
  | .tup ds, n + 1, s => by
    simp only [shp] at s
    obtain ⟨h1, h2⟩ := shps_lay ds n s
    simp only [pyd, PyData.plain, PyData.depth]
    exact ⟨h1, by omega⟩
  | .lst ds, 0, s => by simp [shp] at s
  | .lst ds, n + 1, s => by
    simp only [shp] at s
    obtain ⟨h1, h2⟩ := shps_lay ds n s
    simp only [pyd, PyData.plain, PyData.depth]
    exact ⟨h1, by omega⟩
  | .dct _ _, _, s => by simp [shp] at s
  | .ref _, _, s => by simp [shp] at s
  | .scr _, _, s => by simp [shp] at s
theorem shps_lay : ∀ (ds : List D) (n : Nat), shps n ds = true → PyData.plainAll (pyds ds) = true ∧ PyData.depthAll (pyds ds) ≤ n
  | [], _, _ => by simp [pyds, PyData.plainAll, PyData.depthAll]
  | d :: ds, n, s => by
    simp only [shps, Bool.and_eq_true] at s
    obtain ⟨h1, h2⟩ := shp_lay d n s.1
    obtain ⟨h3, h4⟩ := shps_lay ds n s.2
    simp only [pyds, PyData.plainAll, PyData.depthAll, h1, h3, Bool.and_self, true_and]
    omega
end
mutual
theorem eqD_py : ∀ (d e : D) (n m : Nat), shp n d = true → shp m e = true → eqD d e = PyData.eqv (pyd d) (pyd e)
  | .dct _ _, _, _, _, s, _ => by simp [shp] at s
  | .ref _, _, _, _, s, _ => by simp [shp] at s
  | .scr _, _, _, _, s, _ => by simp [shp] at s
  | .non, e, _, _, _, s => by cases e <;> simp_all [eqD, pyd, PyData.eqv, shp]
  | .bl b, e, _, _, _, s => by cases e <;> simp_all [eqD, pyd, PyData.eqv, shp]
  | .int i, e, _, _, _, s => by cases e <;> simp_all [eqD, pyd, PyData.eqv, shp]
  | .str x, e, _, _, _, s => by cases e <;> simp_all [eqD, pyd, PyData.eqv, shp]
  | .tup ds, e, n, m, s, s' => by
    cases n with
    | zero => simp [shp] at s
    | succ n =>
      simp only [shp] at s
      cases e with
      | tup es =>
        cases m with
        | zero => simp [shp] at s'
        | succ m =>
          simp only [shp] at s'
          simp only [eqD, pyd, PyData.eqv]
          exact eqDs_py ds es n m s s'
      | _ => first | (simp [shp] at s'; done) | simp [eqD, pyd, PyData.eqv]
  | .lst ds, e, n, m, s, s' => by
    cases n with
    | zero => simp [shp] at s
    | succ n =>
      simp only [shp] at s
      cases e with
      | lst es =>
        cases m with
        | zero => simp [shp] at s'
        | succ m =>
          simp only [shp] at s'
          simp only [eqD, pyd, PyData.eqv]
          exact eqDs_py ds es n m s s'
      | _ => first | (simp [shp] at s'; done) | simp [eqD, pyd, PyData.eqv]
theorem eqDs_py : ∀ (ds es : List D) (n m : Nat), shps n ds = true → shps m es = true → eqDs ds es = PyData.eqvAll (pyds ds) (pyds es)
  | [], [], _, _, _, _ => by simp [eqDs, pyds, PyData.eqvAll]
  | [], _ :: _, _, _, _, _ => by simp [eqDs, pyds, PyData.eqvAll]
  | _ :: _, [], _, _, _, _ => by simp [eqDs, pyds, PyData.eqvAll]
  | d :: ds, e :: es, n, m, s, s' => by
    simp only [shps, Bool.and_eq_true] at s s'
    simp only [eqDs, pyds, PyData.eqvAll]
    rw [eqD_py d e n m s.1 s'.1, eqDs_py ds es n m s.2 s'.2]
end

section
variable {K : PySem.W.Frag} {y : Gh} {H : Hp}
theorem rep_flat {d : D} {v : V} (h : Rep K y H d v) (f : flat d = true) : flatV v = true ∧ ∀ {e : D} {w : V}, Rep K y H e w → flat e = true → eqV v w = eqF d e := by
  cases d <;> simp [flat] at f <;> simp only [Rep] at h <;> subst h <;> refine ⟨rfl, fun {e w} h2 f2 => ?_⟩ <;>
    cases e <;> simp [flat] at f2 <;> simp only [Rep] at h2 <;> subst h2 <;> first | rfl | (simp [eqV, eqF]; done)
theorem reps_flat {d : D} {v : V} (h : Rep K y H d v) (f : flat d = true) : ∀ {ds : List D} {vs : List V}, Reps K y H ds vs → ds.all flat = true → vs.all flatV = true ∧ (vs.any fun z => eqV z v) = ds.any fun z => eqF z d
  | [], _, h2, _ => by simp only [Reps] at h2; subst h2; exact ⟨rfl, rfl⟩
  | e :: ds, _, h2, f2 => by
    simp only [Reps] at h2
    obtain ⟨w, ws, rfl, h3, h4⟩ := h2
    rw [List.all_cons, Bool.and_eq_true] at f2
    obtain ⟨q1, q2⟩ := rep_flat h3 f2.1
    obtain ⟨q3, q4⟩ := reps_flat h f h4 f2.2
    exact ⟨by rw [List.all_cons, q1, q3]; rfl, by rw [List.any_cons, List.any_cons, q2 h f, q4]⟩
theorem rt_flat {d : D} {v : V} (h : RepT K y H d v) (f : flat d = true) : Rep K y H d v := by
  cases d <;> simp [flat] at f <;> exact h
theorem ints_rep : ∀ {ds : List D} {vs : List V} {ns : List Int}, Reps K y H ds vs → ints? ds = some ns → ds = ns.map D.int ∧ vs = ns.map V.int
  | [], _, _, h, e => by simp only [Reps] at h; subst h; simp [ints?] at e; subst e; exact ⟨rfl, rfl⟩
  | d :: ds, _, ns, h, e => by
    simp only [Reps] at h
    obtain ⟨w, ws, rfl, h3, h4⟩ := h
    cases d with
    | int i =>
      simp only [ints?] at e
      cases q : ints? ds with
      | none => rw [q] at e; cases e
      | some ms =>
        rw [q] at e
        simp only [Option.map_some, Option.some.injEq] at e
        subst e
        obtain ⟨e1, e2⟩ := ints_rep h4 q
        simp only [Rep] at h3
        subst h3
        exact ⟨by rw [e1]; rfl, by rw [e2]; rfl⟩
    | _ => simp [ints?] at e
theorem bools_rep : ∀ {ds : List D} {vs : List V} {ns : List Bool}, Reps K y H ds vs → bools? ds = some ns → vs = ns.map V.bl
  | [], _, _, h, e => by simp only [Reps] at h; subst h; simp [bools?] at e; subst e; rfl
  | d :: ds, _, ns, h, e => by
    simp only [Reps] at h
    obtain ⟨w, ws, rfl, h3, h4⟩ := h
    cases d with
    | bl i =>
      simp only [bools?] at e
      cases q : bools? ds with
      | none => rw [q] at e; cases e
      | some ms =>
        rw [q] at e
        simp only [Option.map_some, Option.some.injEq] at e
        subst e
        have e2 := bools_rep h4 q
        simp only [Rep] at h3
        subst h3
        rw [e2]; rfl
    | _ => simp [bools?] at e
end

/-! ## the two-place operators -/
section
variable {X : Cx}
theorem bits64 {j : Int} (h0 : 0 < j) (h : j < 2 ^ 64) : CDivW 0 j := ⟨h0, by
  have h1 : j.natAbs < 2 ^ 64 := by omega
  have h2 : j.natAbs ≠ 0 := by omega
  have := (Nat.log2_lt h2 (k := 64)).mpr h1
  omega⟩
/-- t * k, any k for which there is room -/
def rRepU (K : PySem.W.Frag) : R2 := fun x y H Q => ∃ l k xs, x = .ref l ∧ y = .int k ∧ SqT K H l xs ∧ xs ≠ [] ∧ 2 ≤ k ∧ xs.length * k.toNat ≤ 1000000 ∧ ∀ p, H p = none → Q (.ref p) (upd H p (.tup (List.replicate k.toNat xs).flatten))
theorem op_repU {X : Cx} : OpR X (binaryOp .Mult) (rRepU X.K) := by
  intro pins s σ H x y v u Q I rx ry h
  obtain ⟨l, k, xs, e1, e2, hT, hne, h1, hz, q⟩ := h
  subst e1 e2
  cases rx
  obtain ⟨t, rfl⟩ := ry
  obtain ⟨its, r, ⟨o, ho, hc, n, hd⟩, _⟩ := I.tuple hT
  obtain ⟨cl, dd, dat, sl⟩ := o
  cases hc
  cases hd
  have hle := r.length
  have hpos : 0 < its.length := by
    rw [← hle]
    exact List.length_pos_iff.mpr hne
  have hsz : its.toArray.size = its.length := List.size_toArray
  have hkk : (its.length : Int) * k = ((its.length * k.toNat : Nat) : Int) := by
    rw [Int.natCast_mul, Int.toNat_of_nonneg (by omega)]
  rw [hle] at hz
  have hk1 : k.toNat ≤ its.length * k.toNat := Nat.le_mul_of_pos_left _ hpos
  have flen : (List.replicate k.toNat its).flatten.length ≤ sizeLine := by
    rw [PyProof.Rows.lm_len_rep_flat, sizeLine_eq, Nat.mul_comm]
    omega
  have hemp : its.toArray.isEmpty = false := by
    rw [Array.isEmpty, hsz]
    exact decide_eq_false (by omega)
  have c0 : (decide (k < -(2 ^ 63)) || decide (k ≥ 2 ^ 63)) = false := by
    rw [Bool.or_eq_false_iff]
    exact ⟨decide_eq_false (by omega), decide_eq_false (by omega)⟩
  have c1 : (its.toArray.isEmpty || k == 1) = false := by
    rw [Bool.or_eq_false_iff]
    exact ⟨hemp, beq_eq_false_iff_ne.mpr (by omega)⟩
  have c2 : (decide (k ≤ 0) || its.toArray.isEmpty) = false := by
    rw [Bool.or_eq_false_iff]
    exact ⟨decide_eq_false (by omega), hemp⟩
  have c3 : ¬ ((its.toArray.size : Nat) : Int) * k > (2 ^ 63 - 1) / 8 := by rw [hsz, hkk]; omega
  have c4 : Builtin.Tuple.tupleTooMany (((its.toArray.size : Nat) : Int) * k) = false := by
    rw [hsz, hkk]
    unfold Builtin.Tuple.tupleTooMany
    rw [sizeLine_eq]
    exact decide_eq_false (by omega)
  have mul := tuple_mulW l its.toArray n dd sl k t c0 c1 c2 c3 c4 (by rw [size_rep, List.size_toArray]; exact flen)
  refine wpAny_binaryOp_repeat_ref (T := "tuple") (U := "int") (by decide) ⟨_, ho, rfl⟩ (fun z => typeIs_int z k t) noFill_tuple_mul F.fills_int_mul F.slot_int_rmul repeat_tuple F.slot_int_index.lookup
    (call_meets F.slot_int_rmul (typeIs_int s k t) F.entry_int_rmul (F.args_int_rmul_2 _ _) (int_rmul_tuple k t l its.toArray n dd sl) ⟨ho, rfl, ⟨_, ho, rfl⟩, call_meets F.slot_tuple_mul ⟨_, ho, rfl⟩ F.entry_tuple_mul (F.args_tuple_mul_2 _ _) mul ⟨ho, ?_⟩⟩)
  rw [size_rep]
  exact ⟨.ref s.heap.objs.size, _, I.laid (t' := s.toks) (o := .tup (List.replicate k.toNat xs).flatten) (fun b ob z => Heap.get?_push_of_some _ z) (Nat.le_refl _)
    ⟨by rw [PyProof.Rows.lm_len_rep_flat, sizeLine_eq, hle, Nat.mul_comm]; omega, _, r.rep k.toNat, IsTup.new _ _⟩, rfl, q _ (I.hok.fresh (Nat.le_refl _))⟩
theorem tuple_mulE (l : Addr) (n : Nat) (dd : Option Addr) (sl : Array (Option Value)) (x : Int) (u : Tok) (c0 : (decide (x < -(2 ^ 63)) || decide (x ≥ 2 ^ 63)) = false) :
    Meets (Builtin.«tuple.__mul__» ⟨[.ref l, .int x u], []⟩) (fun _ R s => s.heap.get? l = some { cls := .type "tuple", dict := dd, data := .seq #[] n, slots := sl } ∧ R (.ok (.ret (Value.ref l))) s) :=
  .of_wp fun prog w A R s h => by
    obtain ⟨hp, g, d, tk, os⟩ := s
    obtain ⟨hl, h⟩ := h
    have f1 := AutoSeq1.idx_int
    wp_walk using wpAny_loadPart' hl
    repeat (first
      | (refine wpAny_ite_false (decide_eq_false (by rw [c0]; exact Bool.false_ne_true)) ?_; wp_walk using wpAny_loadPart' hl))
    exact ⟨_, rfl, h⟩
/-- () * k -/
theorem op_repE {X : Cx} : OpR X (binaryOp .Mult) (fun x y H Q => ∃ l k, x = .ref l ∧ y = .int k ∧ H l = some (.tup []) ∧ -(2 ^ 62) ≤ k ∧ k < 2 ^ 62 ∧ Q x H) := by
  intro pins s σ H x y v u Q I rx ry h
  obtain ⟨l, k, e1, e2, hT, h1, h2, q⟩ := h
  subst e1 e2
  cases rx
  obtain ⟨t, rfl⟩ := ry
  obtain ⟨its, r, ⟨o, ho, hc, n, hd⟩, _⟩ := I.tuple (.inl (.inl hT) : SqT X.K H l [])
  cases r
  obtain ⟨cl, dd, dat, sl⟩ := o
  cases hc
  cases hd
  have c0 : (decide (k < -(2 ^ 63)) || decide (k ≥ 2 ^ 63)) = false := by
    rw [Bool.or_eq_false_iff]
    exact ⟨decide_eq_false (by omega), decide_eq_false (by omega)⟩
  have mul := tuple_mulE l n dd sl k t c0
  exact wpAny_binaryOp_repeat_ref (T := "tuple") (U := "int") (by decide) ⟨_, ho, rfl⟩ (fun z => typeIs_int z k t) noFill_tuple_mul F.fills_int_mul F.slot_int_rmul repeat_tuple F.slot_int_index.lookup
    (call_meets F.slot_int_rmul (typeIs_int s k t) F.entry_int_rmul (F.args_int_rmul_2 _ _) (int_rmul_tuple k t l #[] n dd sl) ⟨ho, rfl, ⟨_, ho, rfl⟩, call_meets F.slot_tuple_mul ⟨_, ho, rfl⟩ F.entry_tuple_mul (F.args_tuple_mul_2 _ _) mul ⟨ho, ⟨.ref l, H, I, rfl, q⟩⟩⟩)
theorem op_bin (hr : X.A.units + 64 < cLine) (op : Bop) : OpR X (binaryOp op.op) (rBin X.K op) := by
  intro pins s σ H x z v u Q I rx rz h
  obtain ⟨y, g, d, e, o, G, h1, h2, ho, a⟩ := h
  cases op with
  | add =>
    cases d with
    | int i =>
      cases e with
      | int j =>
        simp only [binop, Option.some.injEq] at ho; subst ho
        exact op_add pins s σ H x z v u Q I rx rz ⟨i, j, rt_int h1, rt_int h2, a.int G⟩
      | _ => simp [binop] at ho
    | tup xs =>
      cases e with
      | tup ys =>
        simp only [binop, mkT] at ho
        split at ho
        · rename_i hl
          simp only [Option.some.injEq] at ho; subst ho
          have r1 : Rep X.K y H (.tup xs) x := h1
          have r2 : Rep X.K y H (.tup ys) z := h2
          obtain ⟨p, vs, e1, t1, q1⟩ := rt_tup h1
          obtain ⟨q, ws, e2, t2, q2⟩ := rt_tup h2
          refine op_catA pins s σ H x z v u Q I rx rz ⟨p, q, vs, ws, e1, e2, t1, t2, ?_, fun en => ?_, fun hn en => ?_, fun hn hm p' hp => ?_⟩
          · rw [← q1.length, ← q2.length, ← List.length_append]; exact lim_size hl
          · have e0 : xs = [] := List.eq_nil_of_length_eq_zero (by rw [q1.length, en]; rfl)
            subst e0
            rw [← e2]
            exact a.tupV G r2
          · have e0 : ys = [] := List.eq_nil_of_length_eq_zero (by rw [q2.length, en]; rfl)
            subst e0
            rw [← e1]
            refine a.tupV G ?_
            rw [List.append_nil]; exact r1
          · exact a.newT G (q1.append q2) p' hp
        · cases ho
      | _ => simp [binop] at ho
    | lst xs =>
      cases e with
      | lst ys =>
        simp only [binop, mkL] at ho
        split at ho
        · rename_i hl
          simp only [Option.some.injEq] at ho; subst ho
          obtain ⟨p, vs, e1, t1, q1⟩ := rt_lst h1
          obtain ⟨q, ws, e2, t2, q2⟩ := rt_lst h2
          refine op_cat pins s σ H x z v u Q I rx rz ⟨p, q, vs, ws, e1, e2, t1, t2, ?_, fun p' hp => a.newL G (q1.append q2) p' hp⟩
          rw [← q1.length, ← q2.length, ← List.length_append]; exact lim_size hl
        · cases ho
      | _ => simp [binop] at ho
    | str xs =>
      cases e with
      | str ys =>
        simp only [binop] at ho
        split at ho
        · rename_i hl
          simp only [Option.some.injEq] at ho; subst ho
          exact op_add_str pins s σ H x z v u Q I rx rz ⟨xs, ys, rt_str h1, rt_str h2, lim_size hl, a.str G⟩
        · cases ho
      | _ => simp [binop] at ho
    | _ => simp [binop] at ho
  | sub =>
    cases d with
    | int i =>
      cases e with
      | int j =>
        simp only [binop, Option.some.injEq] at ho; subst ho
        exact op_sub pins s σ H x z v u Q I rx rz ⟨i, j, rt_int h1, rt_int h2, a.int G⟩
      | _ => simp [binop] at ho
    | _ => simp [binop] at ho
  | mul =>
    cases d with
    | int i =>
      cases e with
      | int j =>
        simp only [binop] at ho
        split at ho
        · rename_i hc
          simp only [Option.some.injEq] at ho; subst ho
          exact op_mul pins s σ H x z v u Q I rx rz ⟨i, j, rt_int h1, rt_int h2, hc, a.int G⟩
        · cases ho
      | _ => simp [binop] at ho
    | lst xs =>
      cases e with
      | int k =>
        simp only [binop] at ho
        split at ho
        · rename_i hc
          simp only [Option.some.injEq] at ho; subst ho
          obtain ⟨p, vs, e1, t1, q1⟩ := rt_lst h1
          refine op_rep pins s σ H x z v u Q I rx rz ⟨p, k, vs, e1, rt_int h2, t1, by omega, by omega, ?_, fun p' hp => a.newL G (q1.replicate _) p' hp⟩
          rw [← q1.length]; exact lim_size hc.2.2
        · cases ho
      | _ => simp [binop] at ho
    | tup xs =>
      cases e with
      | int k =>
        by_cases hx0 : xs = []
        · subst hx0
          simp only [binop] at ho
          split at ho
          · rename_i hc
            simp only [Option.some.injEq] at ho; subst ho
            have h0 : Rep X.K y H (.tup []) x := h1
            have h0' := h0
            simp only [Rep] at h0
            obtain ⟨p, vs, e1, t1, q1⟩ := h0
            simp only [Reps] at q1
            subst q1
            exact op_repE pins s σ H x z v u Q I rx rz ⟨p, k, e1, rt_int h2, t1.2, hc.1, hc.2, a.tupV G h0'⟩
          · cases ho
        have ho : (if xs ≠ [] ∧ 2 ≤ k ∧ xs.length * k.toNat ≤ LIM then some (D.tup (List.replicate k.toNat xs).flatten) else none) = some o := by
          cases xs with
          | nil => exact absurd rfl hx0
          | cons _ _ => exact ho
        split at ho
        · rename_i hc
          simp only [Option.some.injEq] at ho; subst ho
          obtain ⟨p, vs, e1, t1, q1⟩ := rt_tup h1
          refine op_repU pins s σ H x z v u Q I rx rz ⟨p, k, vs, e1, rt_int h2, t1, fun en => hc.1 (List.eq_nil_of_length_eq_zero (by rw [q1.length, en]; rfl)), hc.2.1, by rw [← q1.length]; exact hc.2.2, fun p' hp => a.newT G (q1.replicate _) p' hp⟩
        · cases ho
      | _ => simp [binop] at ho
    | _ => simp [binop] at ho
  | fdiv =>
    cases d with
    | int i =>
      cases e with
      | int j =>
        simp only [binop] at ho
        split at ho
        · rename_i hc
          simp only [Option.some.injEq] at ho; subst ho
          exact op_fdivW pins s σ H x z v u Q I rx rz ⟨i, j, rt_int h1, rt_int h2, bits64 hc.1 hc.2, a.int G⟩
        · cases ho
      | _ => simp [binop] at ho
    | _ => simp [binop] at ho
  | mod =>
    cases d with
    | int i =>
      cases e with
      | int j =>
        simp only [binop] at ho
        split at ho
        · rename_i hc
          simp only [Option.some.injEq] at ho; subst ho
          exact op_mod pins s σ H x z v u Q I rx rz ⟨i, j, rt_int h1, rt_int h2, hc, a.int G⟩
        · cases ho
      | _ => simp [binop] at ho
    | _ => simp [binop] at ho
  | pow =>
    cases d with
    | int i =>
      cases e with
      | int j =>
        simp only [binop] at ho
        split at ho
        · rename_i hc
          simp only [Option.some.injEq] at ho; subst ho
          exact op_pow pins s σ H x z v u Q I rx rz ⟨i, j, rt_int h1, rt_int h2, ⟨hc.1, by omega, hc.2.2⟩, a.int G⟩
        · cases ho
      | _ => simp [binop] at ho
    | _ => simp [binop] at ho
  | shl =>
    cases d with
    | int i =>
      cases e with
      | int j =>
        simp only [binop] at ho
        split at ho
        · rename_i hc
          simp only [Option.some.injEq] at ho; subst ho
          exact op_shl pins s σ H x z v u Q I rx rz ⟨i, j, rt_int h1, rt_int h2, ⟨hc.1, by omega, hc.2.2⟩, a.int G⟩
        · cases ho
      | _ => simp [binop] at ho
    | _ => simp [binop] at ho
  | shr =>
    cases d with
    | int i =>
      cases e with
      | int j =>
        simp only [binop] at ho
        split at ho
        · rename_i hc
          simp only [Option.some.injEq] at ho; subst ho
          exact op_shr pins s σ H x z v u Q I rx rz ⟨i, j, rt_int h1, rt_int h2, hc, a.int G⟩
        · cases ho
      | _ => simp [binop] at ho
    | _ => simp [binop] at ho

def Cop.op : Cop → CmpOp
  | .eq => .Eq | .ne => .NotEq | .lt => .Lt | .le => .LtE | .gt => .Gt | .ge => .GtE | .isN => .Is | .notN => .IsNot | .mem => .In | .nmem => .NotIn | .isB => .Is | .notB => .IsNot
def rCmp (K : PySem.W.Frag) (op : Cop) : R2 := fun x z H Q => ∃ y g d e b, Good K y H g ∧ RepT K y H d x ∧ RepT K y H e z ∧ cmpop op d e = some b ∧ Q (.bl b) H
theorem nonV {K : PySem.W.Frag} {y : Gh} {H : Hp} {d : D} {v : V} (h : RepT K y H d v) : decide (v = .non) = d.isNon := by
  cases d with
  | non => rw [rt_non h]; rfl
  | bl b => rw [rt_bl h]; rfl
  | int b => rw [rt_int h]; rfl
  | str b => rw [rt_str h]; rfl
  | lst ds => obtain ⟨a, vs, rfl, _⟩ := rt_lst h; rfl
  | tup ds => obtain ⟨a, vs, rfl, _⟩ := rt_tup h; rfl
  | dct ks ds => obtain ⟨a, vs, rfl, _⟩ := h; rfl
  | ref n =>
    simp only [RepT, Rep] at h
    obtain ⟨a, _, rfl⟩ := h; rfl
  | scr n =>
    simp only [RepT, Rep] at h
    obtain ⟨a, rfl, _⟩ := h; rfl
theorem val_some {κ : Type} [DecidableEq κ] {k : κ} : ∀ {ks : List κ} {vs : List V}, ks.length = vs.length → (valV (ks.zip vs) k).isSome = ks.any fun x => decide (x = k)
  | [], _, _ => rfl
  | a :: ks, b :: vs, h => by
    rw [List.zip_cons_cons, List.any_cons]
    by_cases e : a = k
    · rw [valV_pos e, decide_eq_true e]; rfl
    · rw [valV_neg e, decide_eq_false e, val_some (by simpa using h)]; rfl
theorem key_rep {K : PySem.W.Frag} {y : Gh} {H : Hp} {e : D} {k : Key} {z : V} (hk : keyI e = some k) (h : RepT K y H e z) : z = kV k := by
  cases e with
  | int i => cases hk; exact rt_int h
  | str x => cases hk; exact rt_str h
  | _ => cases hk
theorem keys_rep {K : PySem.W.Frag} {y : Gh} {H : Hp} : ∀ {ds : List D} {vs : List V} {ks : List Key}, keysI ds = some ks → Reps K y H ds vs → vs = ks.map kV
  | [], _, _, hk, h => by
    simp only [Reps] at h
    cases hk
    exact h
  | d :: ds, _, _, hk, h => by
    simp only [Reps] at h
    obtain ⟨v, ws, rfl, h1, h2⟩ := h
    simp only [keysI] at hk
    cases e1 : keyI d with
    | none => rw [e1] at hk; cases hk
    | some k =>
      rw [e1, Option.bind_some] at hk
      cases e2 : keysI ds with
      | none => rw [e2] at hk; cases hk
      | some ks =>
        rw [e2] at hk
        cases hk
        rw [List.map_cons, key_rep e1 (Rep.t h1), keys_rep e2 h2]
theorem keyT_rep {K : PySem.W.Frag} {y : Gh} {H : Hp} {e : D} {ks : List Key} {z : V} (hk : keyT e = some ks) (h : RepT K y H e z) : ∃ b, z = .ref b ∧ H b = some (.tup (ks.map kV)) := by
  cases e with
  | tup ds =>
    simp only [RepT, Rep] at h
    obtain ⟨b, vs, rfl, h1, h2⟩ := h
    rw [keys_rep hk h2] at h1
    exact ⟨b, rfl, h1.2⟩
  | _ => cases hk
theorem has_get {K : PySem.W.Frag} {y : Gh} {H : Hp} {ks : DKs} {vs : List V} {e : D} {z : V} {b : Bool} {p : Addr} (hp : H p = some (dHO ks vs)) (hl : ks.len = vs.length) (he : RepT K y H e z) (hb : hasK ks e = some b) : ∃ o, DGet H p z o ∧ o.isSome = b := by
  cases ks with
  | k ks =>
    simp only [hasK] at hb
    cases hk : keyI e with
    | none => rw [hk] at hb; cases hb
    | some k =>
      rw [hk, Option.map_some, Option.some.injEq] at hb
      rw [key_rep hk he]
      exact ⟨_, DGet.k hp, by rw [val_some hl, hb]⟩
  | t ks =>
    simp only [hasK] at hb
    cases hk : keyT e with
    | none => rw [hk] at hb; cases hb
    | some k =>
      rw [hk, Option.map_some, Option.some.injEq] at hb
      obtain ⟨c, rfl, hc⟩ := keyT_rep hk he
      exact ⟨_, DGet.t hp hc, by rw [val_some hl, hb]⟩
theorem op_cmp (hr : X.A.units + 64 < cLine) (op : Cop) : OpR X (compareOp op.op) (rCmp X.K op) := by
  intro pins s σ H x z v u Q I rx rz h
  obtain ⟨y, g, d, e, b, G, h1, h2, ho, q⟩ := h
  have memb : ∀ {xs : List D}, shp 60 d = true → shps 60 xs = true → (xs.any fun z => eqD z d) = (pyds xs).any fun y => PyData.eqv y (pyd d) := fun {xs} hd hx => by
    induction xs with
    | nil => rfl
    | cons w xs ih =>
      simp only [shps, Bool.and_eq_true] at hx
      rw [List.any_cons, ih hx.2, eqD_py w d 60 60 hx.1 hd]
      rfl
  have lists : ∀ (neg : Bool) (xs : List D), d = .lst xs → e = .lst [] → (∀ b', b' = (if neg then !xs.isEmpty else xs.isEmpty) → Q (.bl b') H) → wpAny (model X.prog X.w) X.A (compareOp (if neg then .NotEq else .Eq) v u) (EP X pins σ Q) X.xe s := fun neg xs ed ee q => by
    subst ed ee
    obtain ⟨p, vs, rfl, hp, rr⟩ := rt_lst h1
    obtain ⟨p2, vs2, rfl, hp2, rr2⟩ := rt_lst h2
    simp only [Reps] at rr2
    subst rr2
    cases rx
    cases rz
    obtain ⟨its, r, ht, hz⟩ := I.list (.inl (.inl hp))
    obtain ⟨its2, r2, ht2, hz2⟩ := I.list (.inl (.inl hp2))
    cases r2
    have hl := rr.length
    have hu : X.A.units < cLine := by omega
    have hlen : its.toArray.size = xs.length := by rw [List.size_toArray, ← r.length, hl]
    by_cases hx : xs = []
    · subst hx
      have hs : its.toArray.size = ([] : List Value).toArray.size := by rw [hlen]; rfl
      have e0 : (List.range its.toArray.size).all (fun _ => true) = true := by rw [List.all_eq_true]; intros; rfl
      cases neg with
      | false => exact PySem.SeqAt.RcAt.lists (e := fun _ => true) ht.isList ht2.isList hs hu (fun j _ h => absurd h (Nat.not_lt_zero _)) X.prog X.w _ _ ⟨.bl true, H, I, by rw [e0]; rfl, q _ rfl⟩
      | true => exact PySem.SeqAt.RcNeAt.lists (e := fun _ => true) ht.isList ht2.isList hs hu (fun j _ h => absurd h (Nat.not_lt_zero _)) X.prog X.w _ _ ⟨.bl false, H, I, by rw [e0]; rfl, q _ rfl⟩
    · have hs : (its.toArray.size != ([] : List Value).toArray.size) = true := by
        rw [hlen]
        cases xs with
        | nil => exact absurd rfl hx
        | cons x xs => rfl
      have hne : xs.isEmpty = false := by
        cases xs with
        | nil => exact absurd rfl hx
        | cons x xs => rfl
      cases neg with
      | false => exact PySem.SeqAt.RcAt.lists_lengths ht.isList ht2.isList hs hu X.prog X.w _ _ ⟨.bl false, H, I, rfl, q _ hne.symm⟩
      | true => exact PySem.SeqAt.RcNeAt.lists_lengths ht.isList ht2.isList hs hu X.prog X.w _ _ ⟨.bl true, H, I, rfl, q _ (by rw [hne]; rfl)⟩
  have tups : ∀ (neg : Bool) (xs : List D), d = .tup xs → e = .tup [] → (∀ b', b' = (if neg then !xs.isEmpty else xs.isEmpty) → Q (.bl b') H) → wpAny (model X.prog X.w) X.A (compareOp (if neg then .NotEq else .Eq) v u) (EP X pins σ Q) X.xe s := fun neg xs ed ee q => by
    subst ed ee
    obtain ⟨p, vs, rfl, hp, rr⟩ := rt_tup h1
    obtain ⟨p2, vs2, rfl, hp2, rr2⟩ := rt_tup h2
    simp only [Reps] at rr2
    subst rr2
    cases rx
    cases rz
    obtain ⟨its, r, ht, hz⟩ := I.tuple hp
    obtain ⟨its2, r2, ht2, hz2⟩ := I.tuple hp2
    cases r2
    have hl := rr.length
    have hu : X.A.units < cLine := by omega
    have hlen : its.toArray.size = xs.length := by rw [List.size_toArray, ← r.length, hl]
    have e0 : ((List.range (min its.toArray.size ([] : List Value).toArray.size)).all (fun _ => true) && its.toArray.size == ([] : List Value).toArray.size) = xs.isEmpty := by
      have e1 : (List.range (min its.toArray.size ([] : List Value).toArray.size)).all (fun _ => true) = true := by rw [List.all_eq_true]; intros; rfl
      rw [e1, hlen]
      cases xs <;> rfl
    cases neg with
    | false => exact PySem.SeqAt.RcAt.tuples (e := fun _ => true) ht ht2 hu (fun j _ h => absurd h (Nat.not_lt_zero _)) X.prog X.w _ _ ⟨.bl xs.isEmpty, H, I, by rw [e0]; rfl, q _ rfl⟩
    | true => exact PySem.SeqAt.RcNeAt.tuples (e := fun _ => true) ht ht2 hu (fun j _ h => absurd h (Nat.not_lt_zero _)) X.prog X.w _ _ ⟨.bl (!xs.isEmpty), H, I, by rw [e0]; rfl, q _ rfl⟩
  have inv : ∀ b, eqop d e = some b → (∃ x y, d = .str x ∧ e = .str y ∧ b = (x == y)) ∨ (∃ xs, d = .lst xs ∧ e = .lst [] ∧ b = xs.isEmpty) ∨ (∃ xs, d = .tup xs ∧ e = .tup [] ∧ b = xs.isEmpty) ∨ ((shp 60 d && shp 60 e) = true ∧ b = eqD d e) := fun b h => by
    unfold eqop at h
    split at h
    · exact .inl ⟨_, _, rfl, rfl, (Option.some.inj h).symm⟩
    · exact .inr (.inl ⟨_, rfl, rfl, (Option.some.inj h).symm⟩)
    · exact .inr (.inr (.inl ⟨_, rfl, rfl, (Option.some.inj h).symm⟩))
    · split at h
      · rename_i hs
        exact .inr (.inr (.inr ⟨hs, (Option.some.inj h).symm⟩))
      · cases h
  cases op with
  | eq =>
    rcases inv b ho with ⟨x1, y1, e1, e2, e3⟩ | ⟨xs, e1, e2, e3⟩ | ⟨xs, e1, e2, e3⟩ | ⟨hs, eb⟩
    · subst e1 e2
      refine op_eq pins s σ H x z v u Q I rx rz ⟨by rw [rt_str h1, rt_str h2]; rfl, ?_⟩
      rw [rt_str h1, rt_str h2, dec_str, ← e3]; exact q
    · exact lists false xs e1 e2 fun b' hb => by
        have hb : b' = xs.isEmpty := hb
        rw [hb, ← e3]; exact q
    · exact tups false xs e1 e2 fun b' hb => by
        have hb : b' = xs.isEmpty := hb
        rw [hb, ← e3]; exact q
    · rw [Bool.and_eq_true] at hs
      obtain ⟨as, r1⟩ := Dp.reads I _ x v (dp_t h1 hs.1) rx
      obtain ⟨bs, r2⟩ := Dp.reads I _ z u (dp_t h2 hs.2) rz
      obtain ⟨p1, d1⟩ := shp_lay d 60 hs.1
      obtain ⟨p2, d2⟩ := shp_lay e 60 hs.2
      refine PySem.SeqAt.eq_plain r1 r2 p1 p2 (by omega) ⟨.bl _, H, I, rfl, ?_⟩
      rw [← eqD_py d e 60 60 hs.1 hs.2, ← eb]; exact q
  | ne =>
    have ho : (eqop d e).map not = some b := ho
    cases hq : eqop d e with
    | none => rw [hq] at ho; cases ho
    | some c =>
    rw [hq] at ho
    have hb : b = !c := (Option.some.inj ho).symm
    subst hb
    rcases inv c hq with ⟨x1, y1, e1, e2, e3⟩ | ⟨xs, e1, e2, e3⟩ | ⟨xs, e1, e2, e3⟩ | ⟨hs, eb⟩
    · subst e1 e2
      refine op_ne pins s σ H x z v u Q I rx rz ⟨by rw [rt_str h1, rt_str h2]; rfl, ?_⟩
      rw [rt_str h1, rt_str h2, dec_str, ← e3]; exact q
    · exact lists true xs e1 e2 fun b' hb => by
        have hb : b' = !xs.isEmpty := hb
        rw [hb, ← e3]; exact q
    · exact tups true xs e1 e2 fun b' hb => by
        have hb : b' = !xs.isEmpty := hb
        rw [hb, ← e3]; exact q
    · rw [Bool.and_eq_true] at hs
      obtain ⟨as, r1⟩ := Dp.reads I _ x v (dp_t h1 hs.1) rx
      obtain ⟨bs, r2⟩ := Dp.reads I _ z u (dp_t h2 hs.2) rz
      obtain ⟨p1, d1⟩ := shp_lay d 60 hs.1
      obtain ⟨p2, d2⟩ := shp_lay e 60 hs.2
      refine PySem.SeqAt.ne_plain r1 r2 p1 p2 (by omega) ⟨.bl _, H, I, rfl, ?_⟩
      rw [← eqD_py d e 60 60 hs.1 hs.2, ← eb]; exact q
  | lt =>
    cases d with
    | int i =>
      cases e with
      | int j =>
        simp only [cmpop, Option.some.injEq] at ho; subst ho
        exact op_lt pins s σ H x z v u Q I rx rz ⟨i, j, rt_int h1, rt_int h2, q⟩
      | _ => simp [cmpop] at ho
    | _ => simp [cmpop] at ho
  | le =>
    cases d with
    | int i =>
      cases e with
      | int j =>
        simp only [cmpop, Option.some.injEq] at ho; subst ho
        exact op_le pins s σ H x z v u Q I rx rz ⟨i, j, rt_int h1, rt_int h2, q⟩
      | _ => simp [cmpop] at ho
    | _ => simp [cmpop] at ho
  | gt =>
    cases d with
    | int i =>
      cases e with
      | int j =>
        simp only [cmpop, Option.some.injEq] at ho; subst ho
        exact op_gt pins s σ H x z v u Q I rx rz ⟨i, j, rt_int h1, rt_int h2, q⟩
      | _ => simp [cmpop] at ho
    | _ => simp [cmpop] at ho
  | ge =>
    cases d with
    | int i =>
      cases e with
      | int j =>
        simp only [cmpop, Option.some.injEq] at ho; subst ho
        exact op_ge pins s σ H x z v u Q I rx rz ⟨i, j, rt_int h1, rt_int h2, q⟩
      | _ => simp [cmpop] at ho
    | _ => simp [cmpop] at ho
  | isN =>
    cases e with
    | non =>
      simp only [cmpop, Option.some.injEq] at ho
      refine op_isN pins s σ H x z v u Q I rx rz ⟨rt_non h2, ?_⟩
      rw [nonV h1, ho]; exact q
    | _ => simp [cmpop] at ho
  | notN =>
    cases e with
    | non =>
      simp only [cmpop, Option.some.injEq] at ho
      refine op_notN pins s σ H x z v u Q I rx rz ⟨rt_non h2, ?_⟩
      rw [nonV h1, ho]; exact q
    | _ => simp [cmpop] at ho
  | mem =>
    cases e with
    | lst xs =>
      simp only [cmpop] at ho
      split at ho
      · rename_i hf
        rw [Bool.and_eq_true] at hf
        simp only [Option.some.injEq] at ho
        obtain ⟨as, r1⟩ := Dp.reads I _ x v (dp_t h1 hf.1) rx
        obtain ⟨bs, r2⟩ := Dp.reads I _ z u (dp_t (n := 61) h2 (by simp only [shp]; exact hf.2)) rz
        obtain ⟨p1, d1⟩ := shp_lay d 60 hf.1
        obtain ⟨p2, d2⟩ := shps_lay xs 60 hf.2
        simp only [pyd] at r2
        exact PySem.SeqAt.in_list_data r2 r1 p2 p1 (by omega) ⟨.bl b, H, I, by rw [← memb hf.1 hf.2, ho]; rfl, q⟩
      · cases ho
    | tup xs =>
      simp only [cmpop] at ho
      split at ho
      · rename_i hf
        rw [Bool.and_eq_true] at hf
        simp only [Option.some.injEq] at ho
        obtain ⟨as, r1⟩ := Dp.reads I _ x v (dp_t h1 hf.1) rx
        obtain ⟨bs, r2⟩ := Dp.reads I _ z u (dp_t (n := 61) h2 (by simp only [shp]; exact hf.2)) rz
        obtain ⟨p1, d1⟩ := shp_lay d 60 hf.1
        obtain ⟨p2, d2⟩ := shps_lay xs 60 hf.2
        simp only [pyd] at r2
        exact PySem.SeqAt.in_tuple_data r2 r1 p2 p1 (by omega) ⟨.bl b, H, I, by rw [← memb hf.1 hf.2, ho]; rfl, q⟩
      · cases ho
    | dct ks ds =>
      simp only [cmpop] at ho
      obtain ⟨p, vs, rfl, _, hp, hl, rr⟩ := h2
      cases (show u = Value.ref p from rz)
      obtain ⟨o, g1, g2⟩ := has_get hp (by rw [hl, rr.length]) h1 ho
      exact d_in (by omega) I g1 rx fun s3 I3 => ⟨.bl b, H, I3, by rw [g2]; rfl, q⟩
    | _ => simp [cmpop] at ho
  | nmem =>
    cases e with
    | lst xs =>
      simp only [cmpop] at ho
      split at ho
      · rename_i hf
        rw [Bool.and_eq_true] at hf
        simp only [Option.some.injEq] at ho
        obtain ⟨as, r1⟩ := Dp.reads I _ x v (dp_t h1 hf.1) rx
        obtain ⟨bs, r2⟩ := Dp.reads I _ z u (dp_t (n := 61) h2 (by simp only [shp]; exact hf.2)) rz
        obtain ⟨p1, d1⟩ := shp_lay d 60 hf.1
        obtain ⟨p2, d2⟩ := shps_lay xs 60 hf.2
        simp only [pyd] at r2
        exact PySem.SeqAt.notIn_list_data r2 r1 p2 p1 (by omega) ⟨.bl b, H, I, by rw [← memb hf.1 hf.2, ho]; rfl, q⟩
      · cases ho
    | tup xs =>
      simp only [cmpop] at ho
      split at ho
      · rename_i hf
        rw [Bool.and_eq_true] at hf
        simp only [Option.some.injEq] at ho
        obtain ⟨as, r1⟩ := Dp.reads I _ x v (dp_t h1 hf.1) rx
        obtain ⟨bs, r2⟩ := Dp.reads I _ z u (dp_t (n := 61) h2 (by simp only [shp]; exact hf.2)) rz
        obtain ⟨p1, d1⟩ := shp_lay d 60 hf.1
        obtain ⟨p2, d2⟩ := shps_lay xs 60 hf.2
        simp only [pyd] at r2
        exact PySem.SeqAt.notIn_tuple_data r2 r1 p2 p1 (by omega) ⟨.bl b, H, I, by rw [← memb hf.1 hf.2, ho]; rfl, q⟩
      · cases ho
    | dct ks ds =>
      simp only [cmpop] at ho
      obtain ⟨p, vs, rfl, _, hp, hl, rr⟩ := h2
      cases (show u = Value.ref p from rz)
      cases hk : hasK ks d with
      | none => rw [hk] at ho; cases ho
      | some c =>
        rw [hk, Option.map_some, Option.some.injEq] at ho
        subst ho
        obtain ⟨o, g1, g2⟩ := has_get hp (by rw [hl, rr.length]) h1 hk
        exact d_notIn (by omega) I g1 rx fun s3 I3 => ⟨.bl (!c), H, I3, by rw [g2]; rfl, q⟩
    | _ => simp [cmpop] at ho
  | isB =>
    cases d with
    | bl i =>
      cases e with
      | bl j =>
        simp only [cmpop, Option.some.injEq] at ho; subst ho
        exact op_isBl pins s σ H x z v u Q I rx rz ⟨i, j, rt_bl h1, rt_bl h2, q⟩
      | _ => simp [cmpop] at ho
    | _ => simp [cmpop] at ho
  | notB =>
    cases d with
    | bl i =>
      cases e with
      | bl j =>
        simp only [cmpop, Option.some.injEq] at ho; subst ho
        exact op_notBl pins s σ H x z v u Q I rx rz ⟨i, j, rt_bl h1, rt_bl h2, q⟩
      | _ => simp [cmpop] at ho
    | _ => simp [cmpop] at ho
end
end Bk
end
section
set_option Elab.async false
set_option linter.all false
set_option maxRecDepth 100000
set_option maxHeartbeats 4000000
namespace Bk
open PySem PySem.Spec PyProof.Rows L2

/-! ## items, slices -/
def rIxB (K : PySem.W.Frag) : R2 := fun x z H Q => ∃ y g d e o, Good K y H g ∧ RepT K y H d x ∧ RepT K y H e z ∧ ixD (deref g d) e = some o ∧ Ans K y H Q o g
section
variable {K : PySem.W.Frag} {y : Gh} {H : Hp} {g : List O}
theorem at_rep {ds : List D} {vs : List V} {i : Int} {d : D} (r : Reps K y H ds vs) (h : atI ds i = some d) : ∃ v, atI vs i = some v ∧ Rep K y H d v := by
  unfold atI at h ⊢
  rw [← r.length]
  cases e : ixN ds.length i with
  | none => rw [e] at h; cases h
  | some j =>
    rw [e] at h
    obtain ⟨v, h1, h2⟩ := r.at (i := j) h
    exact ⟨v, h1, h2⟩
theorem rt_deref {d : D} {v : V} (G : Good K y H g) (h : RepT K y H d v) : (∃ ds, deref g d = .lst ds ∧ ∃ a vs, v = .ref a ∧ H a = some (.lst vs) ∧ Reps K y H ds vs) ∨ deref g d = d := by
  cases d with
  | lst ds => exact .inl ⟨ds, rfl, rt_lst h⟩
  | ref n =>
    simp only [RepT, Rep] at h
    obtain ⟨a, h1, rfl⟩ := h
    simp only [deref]
    cases e : g[n]? with
    | none => exact .inr rfl
    | some o =>
      cases o with
      | lst ds =>
        obtain ⟨vs, h2, h3⟩ := G.objs n a _ h1 e
        exact .inl ⟨ds, rfl, a, vs, rfl, h2, h3⟩
  | _ => exact .inr rfl
theorem Reps.cut {ds : List D} {vs : List V} (r : Reps K y H ds vs) (lo hi : Option Int) : Reps K y H (cut ds lo hi) (cutV vs lo hi) := by
  unfold Bk.cut cutV
  rw [r.length]
  exact (r.drop _).take _
theorem val_rep {κ : Type} [DecidableEq κ] {k : κ} : ∀ {ks : List κ} {ds : List D} {vs : List V} {d : D}, Reps K y H ds vs → valD ks ds k = some d → ∃ v, valV (ks.zip vs) k = some v ∧ Rep K y H d v
  | [], _, _, _, _, h => by simp [valD] at h
  | a :: ks, [], _, _, _, h => by simp [valD] at h
  | a :: ks, e :: ds, _, d, r, h => by
    simp only [Reps] at r
    obtain ⟨v, ws, rfl, h1, h2⟩ := r
    unfold valD at h
    rw [List.zip_cons_cons] at h ⊢
    by_cases e1 : a = k
    · rw [List.find?_cons_of_pos (by simpa using e1)] at h
      cases h
      exact ⟨v, valV_pos e1, h1⟩
    · rw [List.find?_cons_of_neg (by simpa using e1)] at h
      rw [valV_neg e1]
      exact val_rep h2 h
end
section
variable {X : Cx}
theorem ix_dct (hu : X.A.units + 1 < cLine) : IxR X (fun x y H Q => ∃ a v, x = .ref a ∧ DGet H a y (some v) ∧ Q v H) := by
  intro value slice pins s σ H x y v u Q I rx ry h hs
  obtain ⟨a, w, rfl, g, q⟩ := h
  cases (show v = Value.ref a from rx)
  exact tail_any (dict_typeIs I g) PySem.F.slot_dict_getitem.lookup (d_getItem hu I g ry fun w' s3 I3 rw' => ⟨w, H, I3, rw', q⟩) hs
theorem ix_B (hu : X.A.units + 1 < cLine) : IxR X (rIxB X.K) := by
  intro value slice pins s σ H x z v u Q I rx rz h hs
  obtain ⟨y, g, d, e, o, G, h1, h2, ho, a⟩ := h
  rcases rt_deref G h1 with ⟨ds, e1, p, vs, rfl, hp, r⟩ | e1
  · rw [e1] at ho
    cases e with
    | int i =>
      simp only [ixD] at ho
      obtain ⟨w, h3, h4⟩ := at_rep r ho
      exact ix_list value slice pins s σ H _ z v u Q I rx rz ⟨p, vs, i, w, rfl, rt_int h2, .inl (.inl hp), h3, a.val G h4⟩ hs
    | _ => simp [ixD] at ho
  · rw [e1] at ho
    cases d with
    | tup ds =>
      cases e with
      | int i =>
        simp only [ixD] at ho
        obtain ⟨p, vs, rfl, hp, r⟩ := rt_tup h1
        obtain ⟨w, h3, h4⟩ := at_rep r ho
        exact ix_tup value slice pins s σ H _ z v u Q I rx rz ⟨p, vs, i, w, rfl, rt_int h2, hp, h3, a.val G h4⟩ hs
      | _ => simp [ixD] at ho
    | lst ds =>
      cases e with
      | int i =>
        simp only [ixD] at ho
        obtain ⟨p, vs, rfl, hp, r⟩ := rt_lst h1
        obtain ⟨w, h3, h4⟩ := at_rep r ho
        exact ix_list value slice pins s σ H _ z v u Q I rx rz ⟨p, vs, i, w, rfl, rt_int h2, .inl (.inl hp), h3, a.val G h4⟩ hs
      | _ => simp [ixD] at ho
    | dct ks ds =>
      simp only [ixD] at ho
      obtain ⟨p, vs, rfl, _, hp, hl, r⟩ := h1
      cases ks with
      | k ks =>
        simp only [valK] at ho
        cases hk : keyI e with
        | none => rw [hk] at ho; cases ho
        | some k =>
          rw [hk] at ho
          obtain ⟨w, h3, h4⟩ := val_rep r ho
          have hz := key_rep hk h2
          subst hz
          exact ix_dct hu value slice pins s σ H _ _ v u Q I rx rz ⟨p, w, rfl, by rw [← h3]; exact DGet.k hp, a.val G h4⟩ hs
      | t ks =>
        simp only [valK] at ho
        cases hk : keyT e with
        | none => rw [hk] at ho; cases ho
        | some k =>
          rw [hk] at ho
          obtain ⟨w, h3, h4⟩ := val_rep r ho
          obtain ⟨c, rfl, hc⟩ := keyT_rep hk h2
          exact ix_dct hu value slice pins s σ H _ _ v u Q I rx rz ⟨p, w, rfl, by rw [← h3]; exact DGet.t hp hc, a.val G h4⟩ hs
    | _ => simp [ixD] at ho
def rSlB (K : PySem.W.Frag) : V → Option Int → Option Int → Hp → VK → Prop := fun x lo hi H Q => ∃ y g d o, Good K y H g ∧ RepT K y H d x ∧ sliceD d lo hi = some o ∧ An K y H Q o g
theorem sl_B : SlR X (rSlB X.K) := by
  intro pins s σ H x v vl vu lo hi sl Q I rx hs pl pu h
  obtain ⟨y, g, d, o, G, h1, ho, a⟩ := h
  cases d with
  | lst ds =>
    simp only [sliceD, Option.some.injEq] at ho; subst ho
    obtain ⟨p, vs, rfl, hp, r⟩ := rt_lst h1
    exact sl_list pins s σ H _ v vl vu lo hi sl Q I rx hs pl pu ⟨p, vs, rfl, .inl (.inl hp), fun q hq => a.newL G (r.cut lo hi) q hq⟩
  | tup ds =>
    simp only [sliceD, Option.some.injEq] at ho; subst ho
    have r0 : Rep X.K y H (.tup ds) x := h1
    obtain ⟨p, vs, rfl, hp, r⟩ := rt_tup h1
    refine sl_tupA pins s σ H _ v vl vu lo hi sl Q I rx hs pl pu ⟨p, vs, rfl, hp, fun e => ?_, fun _ q hq => a.newT G (r.cut lo hi) q hq⟩
    refine a.tupV G ?_
    have e2 : cut ds lo hi = ds := by
      unfold Bk.cut
      rw [r.length, e.1, e.2, List.drop_zero, Nat.sub_zero, ← r.length, List.take_length]
    rw [e2]; exact r0
  | scr ns =>
    simp only [sliceD, Option.some.injEq] at ho; subst ho
    obtain ⟨p, rfl, hp⟩ : ∃ p, x = .ref p ∧ ScrAt X.K y H p (ns.map V.int) := by simpa only [RepT, Rep] using h1
    refine sl_list pins s σ H _ v vl vu lo hi sl Q I rx hs pl pu ⟨p, _, rfl, hp.sq, fun q hq => ?_⟩
    have e : cutV (ns.map V.int) lo hi = (cut ns lo hi).map V.int := by
      unfold Bk.cut cutV
      rw [List.length_map, List.map_take, List.map_drop]
    rw [e]
    exact a.newL G Reps.ints q hq
  | _ => simp [sliceD] at ho

/-! ## built-in functions -/
def Bi.val : Bi → Value
  | .len => .builtin "len" | .abs => .builtin "abs" | .sum => .builtin "sum" | .tuple => .type "tuple" | .list => .type "list" | .sorted => .builtin "sorted"
  | .int => .type "int" | .str => .type "str" | .repr => .builtin "repr" | .max => .builtin "max" | .min => .builtin "min" | .all => .builtin "all"
def rBi (K : PySem.W.Frag) (f : Bi) : List V → Hp → VK → Prop := fun xs H Q => ∃ y g ds o, Good K y H g ∧ RepsX K true y H ds xs ∧ biG g f ds = some o ∧ An K y H Q o g
theorem insI_perm (x : Int) : ∀ l : List Int, (insI x l).Perm (x :: l)
  | [] => .refl _
  | y :: r => by
    unfold insI
    split
    · exact .refl _
    · exact ((insI_perm x r).cons y).trans (.swap x y r)
theorem insI_pw (x : Int) : ∀ l : List Int, l.Pairwise (· ≤ ·) → (insI x l).Pairwise (· ≤ ·)
  | [], _ => by simp [insI]
  | y :: r, h => by
    obtain ⟨h1, h2⟩ := List.pairwise_cons.mp h
    unfold insI
    split
    · rename_i hx
      refine List.pairwise_cons.mpr ⟨fun z hz => ?_, h⟩
      rcases List.mem_cons.mp hz with rfl | hz
      · exact hx
      · exact Int.le_trans hx (h1 z hz)
    · rename_i hx
      refine List.pairwise_cons.mpr ⟨fun z hz => ?_, insI_pw x r h2⟩
      rcases List.mem_cons.mp ((insI_perm x r).mem_iff.mp hz) with rfl | hz
      · omega
      · exact h1 z hz
theorem sortI_perm : ∀ l : List Int, (sortI l).Perm l
  | [] => .refl _
  | x :: r => (insI_perm x (sortI r)).trans ((sortI_perm r).cons x)
theorem sortI_pw : ∀ l : List Int, (sortI l).Pairwise (· ≤ ·)
  | [] => .nil
  | x :: r => insI_pw x _ (sortI_pw r)
theorem pw_unique : ∀ {l m : List Int}, l.Perm m → l.Pairwise (· ≤ ·) → m.Pairwise (· ≤ ·) → l = m := fun {l m} p h1 h2 =>
  List.Perm.eq_of_pairwise (fun a b _ _ h h' => Int.le_antisymm h h') h1 h2 p
theorem sorted_is {l m : List Int} (p : m.Perm l) (h : m.Pairwise (· ≤ ·)) : m = sortI l := pw_unique (p.trans (sortI_perm l).symm) h (sortI_pw l)

theorem tup_sum (ok : X.calm = true) {pins : List (Addr × Obj)} {s : Shared} {σ : L2.St} {H : Hp} {a : Addr} {ns : List Int} {Q : VK} (I : Inv X pins σ H s) (ht : SqT X.K H a (ns.map V.int)) (q : Q (.int ns.sum) H) :
    wpAny (model X.prog X.w) X.A (call (.builtin "sum") [.ref a]) (EP X pins σ Q) X.xe s := by
  obtain ⟨its, rv, p, _⟩ := I.tuple ht
  obtain ⟨xs, e⟩ := rv.ints.allInts.items
  have hn : numsOf (intItems xs).toList = ns := by rw [← e]; exact rv.ints.numsOf
  rw [nums_intItems] at hn
  have p' : s.heap.IsTuple a (intItems xs) := by rw [← e]; exact p
  refine PySem.W.ktm_sumG (I.ok.hd ok) p' fun h' tk t' hk => ?_
  rw [preSum_eq, List.take_of_length_le (by simp), hn]
  exact ⟨.int _, H, I.kept hk, ⟨_, rfl⟩, q⟩
theorem tup_sorted {pins : List (Addr × Obj)} {s : Shared} {σ : L2.St} {H : Hp} {a : Addr} {ns : List Int} {Q : VK} (I : Inv X pins σ H s) (ht : SqT X.K H a (ns.map V.int))
    (q : ∀ (ns' : List Int) (p : Addr), ns'.Perm ns → ns'.Pairwise (· ≤ ·) → H p = none → Q (.ref p) (upd H p (.lst (ns'.map V.int)))) :
    wpAny (model X.prog X.w) X.A (call (.builtin "sorted") [.ref a]) (EP X pins σ Q) X.xe s := by
  obtain ⟨its, rv, ⟨o, ho, hc, n, hd⟩, hz⟩ := I.tuple ht
  have hsz : its.length ≤ sizeLine := by rw [← rv.length]; exact hz
  refine Calls.call_function_entry PyProof.Rows.kind_sorted PyProof.Rows.plain_sorted PyProof.Rows.entry_sorted (PyProof.Rows.args_sorted1 _) ?_
  unfold Builtin.«sorted»
  refine wpAny_bind (m := checkCount "sorted" 1 1 _) (wpAny_pure ?_)
  refine wpAny_bind (wpAny_collect_seq a (.inr rfl) ho hc hd (fun h' hk => ?_) (by rw [List.size_toArray]; exact hsz))
  refine wpAny_bind (wpAny_newList ?_)
  have hob : (h'.push (seqObj "list" its.toArray 0)).get? h'.objs.size = some (seqObj "list" its.toArray 0) := Heap.get?_push_size _ rfl
  refine wpAny_bind (wpAny_holding (wpAny_call_entry PyProof.Rows.slot_list_sort ⟨_, hob, rfl⟩ PyProof.Rows.entry_list_sort
    (SrtO.list_sort_ord SrtO.swo_int hob hsz (fun h2 => SrtO.ints_sortable rv.ints h2) fun out h1 h2 => ⟨.none, rfl, ?_⟩) (PyProof.Rows.args_list_sort _)))
  refine wpAny_pure ⟨_, rfl, ?_⟩
  obtain ⟨k1, k2, k3⟩ := SrtO.ints_out rv.ints h1 h2
  obtain ⟨ep, he'⟩ := PyProof.Rows.sortedHeap_at (vs := its) (out := out.toArray) hob
  have I1 : Inv X pins σ H { s with heap := h' } := I.kept (t' := s.toks) hk
  have hlen : ((out.map SrtO.iv).map V.int).length ≤ sizeLine := by
    rw [List.length_map, k2.length_eq]
    rw [List.length_map] at hz
    exact hz
  refine ⟨.ref h'.objs.size, upd H h'.objs.size (.lst ((out.map SrtO.iv).map V.int)), I1.laid (t' := s.toks) (fun b u hb => ?_) (Nat.le_refl _) ⟨hlen, out, ep, vals_of_ints k1, he'⟩, rfl, q _ _ k2 k3 (I1.hok.fresh (Nat.le_refl _))⟩
  have hlt : b < h'.objs.size := Heap.lt_size hb
  rw [PyProof.Rows.sortedHeap_old (Nat.ne_of_lt hlt) (Heap.lt_size (Heap.get?_push_of_some _ hb))]
  exact Heap.get?_push_of_some _ hb
end
end Bk
end
section
set_option Elab.async false
set_option linter.all false
set_option maxRecDepth 100000
set_option maxHeartbeats 4000000
namespace PySem.SeqAt
open PySem.W PyProof.Rows
section
variable {A : Around} {s : Shared}
/-- tuple's own __lt__, as sorting calls it -/
theorem call_tuple_lt {prog : Program} {w : World} {E : Value → Shared → Prop} {Q : Value → Shared → Prop} {l b : Addr} {items items2 : Array Value} {e r : Nat → Bool} (hl : s.heap.IsTuple l items) (hb : s.heap.IsTuple b items2)
    (he : ∀ j (h1 : j < items.size) (h2 : j < items2.size), EqAt A.in1 s items[j] items2[j] (e j)) (hr : ∀ j (h1 : j < items.size) (h2 : j < items2.size), e j = false → RcLt A.in1 s items[j] items2[j] (r j))
    (h : Q (.bool (firstLt e r (decide (items.size < items2.size)) (List.range (min items.size items2.size)))) s) : wpAny (model prog w) A (call (.builtin "tuple.__lt__") [.ref l, .ref b]) Q E s := by
  obtain ⟨⟨cls, dd, data, sl⟩, ho, hc, n, hd⟩ := id hl
  obtain ⟨⟨cls2, dd2, data2, sl2⟩, ho2, hc2, n2, hd2⟩ := id hb
  simp only at hc hd hc2 hd2
  subst hc hd hc2 hd2
  exact call_meets F.slot_tuple_lt ⟨_, ho, rfl⟩ F.entry_tuple_lt (F.args_tuple_lt_2 _ _) (tuple_ltAt l b items items2 n n2 dd dd2 sl sl2 e r) ⟨ho, ho2, he, hr, h⟩
end
end PySem.SeqAt
namespace PySem.W
open PySem PySem.SeqAt PyProof.Rows
section
variable {prog : Program} {w : World} {A : Around} {E : Value → Shared → Prop} {s : Shared}
theorem oneLt_tup {f : Bool} {xs ys : List PyData} {a b : Value} {as bs : List Addr} {Q : Bool → Shared → Prop} (ra : Reads s.heap a (.tuple xs) as) (rb : Reads s.heap b (.tuple ys) bs) (hal : alikeAll xs ys = true)
    (hu : A.units + min (PyData.tuple xs).depth (PyData.tuple ys).depth < cLine) (hq : Q (dataLt (.tuple xs) (.tuple ys)) s) : wpAny (model prog w) A (oneLt' true a b) Q E s := by
  cases ra with
  | @tuple l o vs n _ as₁ h1 h2 h3 h4 =>
    cases rb with
    | @tuple l' o' vs' n' _ bs₁ k1 k2 k3 k4 =>
      have n1 : vs.size = xs.length := by simpa using ReadsAll.length _ _ _ h4
      have n2 : vs'.size = ys.length := by simpa using ReadsAll.length _ _ _ k4
      rw [dataLt_tuple, ← firstLt_toks xs ys hal, ← n1, ← n2] at hq
      rw [oneLt'_eq]
      simp only [if_true]
      refine wpAny_bind (wpAny_cRoomFor (room_here hu) ?_)
      refine wpAny_bind (wpAny_callSpecialIfBound?_slot (T := "tuple") ⟨_, h1, h2⟩ F.slot_tuple_lt (call_tuple_lt (e := pairEq xs ys) (r := fun j => dataLt (xs.getD j .none) (ys.getD j .none)) ⟨_, h1, h2, _, h3⟩ ⟨_, k1, k2, _, k3⟩ (fun j j1 j2 => ?_) (fun j j1 j2 hj => ?_) ?_))
      · have := eqAt_alikeAll xs ys A.in1 s vs.toList vs'.toList _ _ h4 k4 hal (room_in hu) j (by simpa using j1) (by simpa using j2)
        simpa using this
      · have := rcLt_alikeAll xs ys A.in1 s vs.toList vs'.toList _ _ h4 k4 hal (room_in hu) j (by simpa using j1) (by simpa using j2) hj
        simpa using this
      · exact wpAny_truthy_bool hq
theorem mapM_each {M : Model} {α β : Type} {f : α → Sem β} {P : α → β → Prop} : ∀ (l : List α) {Q : List β → Shared → Prop}, (∀ v ∈ l, ∀ (Q' : β → Shared → Prop), (∀ r, P v r → Q' r s) → wpAny M A (f v) Q' E s) → (∀ rs, EachIs P l rs → Q rs s) → wpAny M A (l.mapM f) Q E s
  | [], _, _, h => by rw [List.mapM_nil]; exact wpAny_pure (h _ .nil)
  | x :: l, Q, hf, h => by
    rw [List.mapM_cons]
    exact wpAny_bind (hf x (.head _) _ fun r hr => wpAny_bind (mapM_each l (Q := fun bs s' => wpAny M A (pure (r :: bs)) Q E s') (fun v hv => hf v (.tail _ hv)) fun rs hrs => wpAny_pure (h _ (.cons hr hrs))))
/-- tuples, the first of them the empty one, are compared as they are -/
theorem kind_tup0 {v₀ : Value} {vs : List Value} {Q : SortKind → Shared → Prop} (h0 : ∃ as, Reads s.heap v₀ (.tuple []) as) (hs : ∀ v ∈ vs, ∃ xs as, Reads s.heap v (.tuple xs) as) (h : Q oneType' s) :
    wpAny (model prog w) A (keyKind' (v₀ :: vs).toArray) Q E s := by
  have hall : ∀ v ∈ v₀ :: vs, ∃ xs as, Reads s.heap v (.tuple xs) as ∧ (v = v₀ → xs = []) := by
    intro v hv
    by_cases ev : v = v₀
    · subst ev
      obtain ⟨as, r⟩ := h0
      exact ⟨[], as, r, fun _ => rfl⟩
    · rcases List.mem_cons.mp hv with q | q
      · exact absurd q ev
      · obtain ⟨xs, as, r⟩ := hs v q
        exact ⟨xs, as, r, fun q => absurd q ev⟩
  rw [keyKind'_eq, List.mapM_toArray, map_eq_pure_bind]
  refine wpAny_bind (wpAny_bind (mapM_each (P := fun v (o : Option Value) => v = v₀ → o = none) _ (fun v hv Q' hq => ?_) fun rs hrs => wpAny_pure ?_))
  · rw [kas_first_eq]
    obtain ⟨xs, as, r, hx⟩ := hall v hv
    cases r with
    | @tuple a o its n _ _ ho hc hd hr =>
      refine wpAny_bind (Looks.here (show Looks _ s.heap (typeOf (.ref a)) o.cls from (Looks.ld ho).andThen .now) ?_)
      rw [hc, if_neg (by first | decide | simp)]
      refine wpAny_bind (listItems_at ho hd (wpAny_pure (hq _ fun e => ?_)))
      rw [hx e] at hr
      have hl : its.toList = [] := by cases hz : its.toList with
        | nil => rfl
        | cons _ _ => rw [hz] at hr; cases hr
      rw [← Array.getElem?_toList, hl]
      rfl
  · cases hrs with
    | @cons _ r _ rs h1 h2 =>
      cases h1 rfl
      rw [if_neg (by simp), if_neg (by simp)]
      rw [oneTypeOnly'_eq, List.mapM_toArray, map_eq_pure_bind]
      refine wpAny_bind (wpAny_bind (wpAny_bind (kas_mapM (r := Value.type "tuple") _ (fun v hv Q' hq => ?_) (wpAny_pure ?_))))
      · obtain ⟨xs, as, r, hx⟩ := hall v hv
        exact (looks_reads r).here hq
      · have hall : ((List.map (fun _ => Value.type "tuple") (v₀ :: vs)).toArray.all fun x => x == Value.type "tuple") = true := by
          simp only [List.all_toArray, List.all_map, List.all_eq_true]
          intro _ _
          exact beq_self_eq_true _
        have h0 : (List.map (fun _ => Value.type "tuple") (v₀ :: vs)).toArray[0]? = some (Value.type "tuple") := by simp
        rw [h0]
        simp only [hall, if_true]
        exact wpAny_pure (wpAny_pure h)
/-- they can be sorted -/
theorem SortsAt.tup0 {vs : List Value} {l : List (List Int)} (e : EachIs (fun v ns => ∃ as, Reads s.heap v (.tuple (ns.map .int)) as) vs ([] :: l)) (hu : A.units + 2 < cLine) :
    SortsAt prog w A s (dataKind s.heap ((([] : List Int) :: l).map fun ns => PyData.tuple (ns.map .int))) vs := by
  have hal : AllAlike ((([] : List Int) :: l).map fun ns => PyData.tuple (ns.map .int)) := AllAlike.of fun a b => by
    show alike (.tuple _) (.tuple _) = true
    simp only [alike]
    exact alike_ints _ _
  refine ⟨fun v hv => ?_, oneType', ?_, fun h2 E Q hq => ?_⟩
  · obtain ⟨ns, hm, as, r⟩ := e.left v hv
    exact ⟨_, dataKind_some hal (List.mem_map.mpr ⟨ns, hm, rfl⟩) r⟩
  · intro E x y a b Q ha hb hq
    obtain ⟨d, as, hd, ra, rfl⟩ := dataKind_inv ha
    obtain ⟨d', as', hd', rb, rfl⟩ := dataKind_inv hb
    obtain ⟨ns, _, rfl⟩ := List.mem_map.mp hd
    obtain ⟨ns', _, rfl⟩ := List.mem_map.mp hd'
    rw [keyLt'_oneType]
    refine oneLt_tup (f := true) ra rb (alike_ints _ _) ?_ hq
    simp only [PyData.depth, depth_ints]
    omega
  · cases e with
    | @cons v₀ _ vs _ h1 h2 =>
      exact kind_tup0 h1 (fun v hv => (by obtain ⟨ns, _, as, r⟩ := h2.left v hv; exact ⟨_, as, r⟩)) hq
end
end PySem.W
namespace Bk
open PySem PySem.Spec PyProof.Rows L2 PySem.W

/-! ## tuples of ints: the least, sorted -/
theorem ltL_is : ∀ a b : List Int, ltL a b = listLt a b
  | [], [] => rfl
  | [], _ :: _ => rfl
  | _ :: _, [] => rfl
  | x :: xs, y :: ys => by
    rw [ltL, listLt, ltL_is xs ys]
    rfl
theorem minL_is (x : List Int) (xs : List (List Int)) : (minOf (⟨x⟩ : Tup Int) (xs.map Tup.mk)) = ⟨minL x xs⟩ := by
  unfold minOf minL
  induction xs generalizing x with
  | nil => rfl
  | cons y ys ih =>
    rw [List.map_cons, List.foldl_cons, List.foldl_cons]
    have e : (if DatumOrd.lt (⟨y⟩ : Tup Int) ⟨x⟩ = true then (⟨y⟩ : Tup Int) else ⟨x⟩) = ⟨if ltL y x = true then y else x⟩ := by
      have q : DatumOrd.lt (⟨y⟩ : Tup Int) ⟨x⟩ = ltL y x := (ltL_is y x).symm
      rw [q]
      split <;> rfl
    rw [e, ih]
theorem maxI_is (x : Int) (xs : List Int) : maxOf x xs = maxI x xs := by
  unfold maxOf maxI
  induction xs generalizing x with
  | nil => rfl
  | cons y ys ih =>
    rw [List.foldl_cons, List.foldl_cons, ← ih]
    congr 1
    show (if decide (x < y) = true then y else x) = max x y
    by_cases h : x < y
    · rw [if_pos (by simpa using h)]; omega
    · rw [if_neg (by simpa using h)]; omega
theorem minI_is (x : Int) (xs : List Int) : minOf x xs = minI x xs := by
  unfold minOf minI
  induction xs generalizing x with
  | nil => rfl
  | cons y ys ih =>
    rw [List.foldl_cons, List.foldl_cons, ← ih]
    congr 1
    show (if decide (y < x) = true then y else x) = min x y
    by_cases h : y < x
    · rw [if_pos (by simpa using h)]; omega
    · rw [if_neg (by simpa using h)]; omega
theorem ints_map' : ∀ {ds : List D} {ns : List Int}, ints? ds = some ns → ds = ns.map D.int
  | [], _, h => by cases h; rfl
  | .int i :: ds, ns, h => by
    obtain ⟨l, h1, rfl⟩ := Option.map_eq_some_iff.mp (show (ints? ds).map (i :: ·) = some ns from h)
    rw [ints_map' h1]; rfl
  | .non :: _, _, h => by cases h
  | .bl _ :: _, _, h => by cases h
  | .tup _ :: _, _, h => by cases h
  | .str _ :: _, _, h => by cases h
  | .lst _ :: _, _, h => by cases h
  | .dct _ _ :: _, _, h => by cases h
  | .ref _ :: _, _, h => by cases h
  | .scr _ :: _, _, h => by cases h
theorem tups_of : ∀ {xs : List D} {l : List (List Int)}, tups? xs = some l → xs = l.map tupI
  | [], l, h => by cases h; rfl
  | .tup ds :: r, l, h => by
    simp only [tups?] at h
    cases e : ints? ds with
    | none => rw [e] at h; cases h
    | some ns =>
      rw [e] at h
      obtain ⟨l', h1, rfl⟩ := Option.map_eq_some_iff.mp (show (tups? r).map (ns :: ·) = some l from h)
      rw [tups_of h1, List.map_cons, ints_map' e]
      rfl
  | .non :: _, _, h => by cases h
  | .bl _ :: _, _, h => by cases h
  | .int _ :: _, _, h => by cases h
  | .str _ :: _, _, h => by cases h
  | .lst _ :: _, _, h => by cases h
  | .dct _ _ :: _, _, h => by cases h
  | .ref _ :: _, _, h => by cases h
  | .scr _ :: _, _, h => by cases h
theorem ints_mapD {ns : List Int} : ints? (ns.map D.int) = some ns := by
  induction ns with
  | nil => rfl
  | cons n ns ih => rw [List.map_cons, ints?, ih]; rfl
section
variable {X : Cx} {pins : List (Addr × Obj)} {s : Shared} {σ : L2.St} {H : Hp} {y : Gh}
/-- a tuple of ints, in the heap -/
def RT (X : Cx) (y : Gh) (H : Hp) (u : Value) (ns : List Int) : Prop := ∃ z, RelV z u ∧ Rep X.K y H (tupI ns) z
theorem RT.reads {ns : List Int} {u : Value} (I : Inv X pins σ H s) (h : RT X y H u ns) : ∃ as, Reads s.heap u (.tuple (ns.map .int)) as := by
  obtain ⟨z, r, h⟩ := h
  simp only [tupI, Rep] at h
  obtain ⟨a, vs, rfl, h1, h2⟩ := h
  cases r
  obtain ⟨its, rv, ⟨o, e1, e2, m, e3⟩, _⟩ := I.tuple h1.sq
  obtain ⟨_, ev⟩ := ints_rep h2 (ints_mapD (ns := ns))
  subst ev
  exact ⟨_, .tuple e1 e2 e3 (by simpa using PyProof.Rows.IntsAre.reads s.heap rv.ints)⟩
theorem each_rt : ∀ {l : List (List Int)} {vs : List V} {us : List Value}, Reps X.K y H (l.map tupI) vs → Vals vs us → EachIs (RT X y H) us l
  | [], _, _, h, r => by
    simp only [List.map_nil, Reps] at h; subst h; cases r; exact .nil
  | ns :: l, _, _, h, r => by
    simp only [List.map_cons, Reps] at h
    obtain ⟨v, ws, rfl, h1, h2⟩ := h
    cases r with
    | cons r1 r2 => exact .cons ⟨v, r1, h1⟩ (each_rt h2 r2)
theorem rt_each : ∀ {l : List (List Int)} {us : List Value}, EachIs (RT X y H) us l → ∃ vs, Reps X.K y H (l.map tupI) vs ∧ Vals vs us
  | _, _, .nil => ⟨[], .nil, .nil⟩
  | _, _, .cons ⟨v, r1, h1⟩ t => by
    obtain ⟨vs, h2, r2⟩ := rt_each t
    exact ⟨v :: vs, .cons h1 h2, .cons r1 r2⟩
theorem rt_inj (I : Inv X pins σ H s) {u : Value} {ns ms : List Int} {h' : Heap} (k : ∀ b o, s.heap.get? b = some o → h'.get? b = some o) (h : RT X y H u ns) (r : ∃ as, Reads h' u (.tuple (ms.map .int)) as) : ns = ms := by
  obtain ⟨as, r1⟩ := h.reads I
  obtain ⟨bs, r2⟩ := r
  have e := alike_unique (.tuple (ns.map .int)) (.tuple (ms.map .int)) u _ _ (by simp only [alike]; exact alike_ints _ _) (PyProof.Rows.Reads.keeps k r1) r2
  injection e with e
  exact List.map_inj_right (fun a b q => by injection q) |>.mp e
/-- the least tuple of a list -/
theorem low_tups (hc : X.calm = true) (hu : X.A.units + 200 < cLine) {p : Addr} {vs : List V} {l : List (List Int)} {x : List Int} {Q : VK} (I : Inv X pins σ H s) (hp : H p = some (.lst vs)) (r : Reps X.K y H ((x :: l).map tupI) vs)
    (q : ∀ v, Rep X.K y H (tupI (minL x l)) v → Q v H) : wpAny (model X.prog X.w) X.A (call (.builtin "min") [.ref p]) (EP X pins σ Q) X.xe s := by
  obtain ⟨its, rv, pl, hz⟩ := I.list (.inl (.inl hp) : SqL X.K H p vs)
  have e := each_rt r rv
  have hold : HoldAll s.heap its ((⟨x⟩ : Tup Int) :: l.map Tup.mk) := by
    obtain ⟨as, ra⟩ := each_readsAll (h := s.heap) (fun ns : List Int => PyData.tuple (ns.map .int)) (e.mono fun _ _ h => h.reads I)
    refine ⟨as, ?_⟩
    rw [← List.map_cons (f := Tup.mk), List.map_map]
    exact ra
  refine min_list_datum (α := Tup Int) (vs := its.toArray) (I.ok.hd hc) pl.isList (by simpa using hold) (by show X.A.units + 1 + 1 < cLine; omega) fun i v h' tk hi hv hk => ?_
  rw [minL_is] at hv
  have hm : v ∈ its := by
    have := List.mem_of_getElem? (by simpa using hi : its[i]? = some v)
    exact this
  obtain ⟨ns, _, hns⟩ := e.left v hm
  have en : ns = minL x l := rt_inj I hk hns hv
  subst en
  obtain ⟨z, rz, hz⟩ := hns
  exact ⟨z, H, I.kept hk, rz, q z hz⟩
/-- of a list or tuple of ints -/
theorem top_ints (hc : X.calm = true) (hu : X.A.units + 200 < cLine) {p : Addr} {x : Int} {l : List Int} {Q : VK} (I : Inv X pins σ H s) (hp : SqL X.K H p ((x :: l).map V.int) ∨ SqT X.K H p ((x :: l).map V.int)) (q : Q (.int (maxI x l)) H) :
    wpAny (model X.prog X.w) X.A (call (.builtin "max") [.ref p]) (EP X pins σ Q) X.xe s := by
  have fin : ∀ {v : Value} {h' : Heap} {tk : Nat}, Holds h' v (maxOf x l) → (∀ b o, s.heap.get? b = some o → h'.get? b = some o) → EP X pins σ Q v { s with heap := h', toks := tk } := fun {v h' tk} hv hk => by
    rw [maxI_is] at hv
    obtain ⟨as, r⟩ := hv
    cases r with
    | int _ t => exact ⟨.int _, H, I.kept hk, ⟨t, rfl⟩, q⟩
  rcases hp with hp | hp
  · obtain ⟨its, rv, pl, hz⟩ := I.list hp
    exact max_list_datum (α := Int) (vs := its.toArray) (x := x) (xs := l) (I.ok.hd hc) pl.isList ⟨[], show ReadsAll s.heap its ((x :: l).map PyData.int) [] from PyProof.Rows.IntsAre.reads s.heap rv.ints⟩ (by show X.A.units + 1 + 0 < cLine; omega) fun i v h' tk hi hv hk => fin hv hk
  · obtain ⟨its, rv, pl, hz⟩ := I.tuple hp
    exact max_tuple_datum (α := Int) (vs := its.toArray) (x := x) (xs := l) (I.ok.hd hc) pl ⟨[], show ReadsAll s.heap its ((x :: l).map PyData.int) [] from PyProof.Rows.IntsAre.reads s.heap rv.ints⟩ (by show X.A.units + 1 + 0 < cLine; omega) fun i v h' tk hi hv hk => fin hv hk
theorem low_ints (hc : X.calm = true) (hu : X.A.units + 200 < cLine) {p : Addr} {x : Int} {l : List Int} {Q : VK} (I : Inv X pins σ H s) (hp : SqL X.K H p ((x :: l).map V.int)) (q : Q (.int (minI x l)) H) :
    wpAny (model X.prog X.w) X.A (call (.builtin "min") [.ref p]) (EP X pins σ Q) X.xe s := by
  obtain ⟨its, rv, pl, hz⟩ := I.list hp
  refine min_list_datum (α := Int) (vs := its.toArray) (x := x) (xs := l) (I.ok.hd hc) pl.isList ⟨[], show ReadsAll s.heap its ((x :: l).map PyData.int) [] from PyProof.Rows.IntsAre.reads s.heap rv.ints⟩ (by show X.A.units + 1 + 0 < cLine; omega) fun i v h' tk hi hv hk => ?_
  rw [minI_is] at hv
  obtain ⟨as, r⟩ := hv
  cases r with
  | int _ t => exact ⟨.int _, H, I.kept hk, ⟨t, rfl⟩, q⟩
theorem leL_is (a b : List Int) : leL a b = dataLe false (fun ns : List Int => PyData.tuple (ns.map .int)) a b := by
  rw [dataLe_eq]
  show (!ltL b a) = (!dataLt _ _)
  have e : dataLt (.tuple (b.map .int)) (.tuple (a.map .int)) = ltL b a := by
    rw [dataLt_tuple]
    exact (lexAll_map (α := Int) b a).trans (ltL_is b a).symm
  rw [e]
theorem each_mapf {α β γ : Type} {R : α → γ → Prop} (f : β → γ) : ∀ {as : List α} {bs : List β}, EachIs (fun a b => R a (f b)) as bs → EachIs R as (bs.map f)
  | _, _, .nil => .nil
  | _, _, .cons h t => .cons h (each_mapf f t)
/-- sorted(xs), xs a list of tuples of ints, none of them empty -/
theorem srt_tups (hu : X.A.units + 200 < cLine) {p : Addr} {vs : List V} {l : List (List Int)} {Q : VK} (I : Inv X pins σ H s) (hp : H p = some (.lst vs)) (r : Reps X.K y H (l.map tupI) vs) (hne : ∀ ns ∈ l, ns ≠ [])
    (q : ∀ b ws, H b = none → Reps X.K y H ((sortL l).map tupI) ws → Q (.ref b) (upd H b (.lst ws))) : wpAny (model X.prog X.w) X.A (call (.builtin "sorted") [.ref p]) (EP X pins σ Q) X.xe s := by
  obtain ⟨its, rv, pl, hz⟩ := I.list (.inl (.inl hp) : SqL X.K H p vs)
  have e := each_rt r rv
  have hlen : its.length = l.length := e.length
  -- heads and tails
  let f : Int × List Int → List Int := fun b => b.1 :: b.2
  let g : List Int → Int × List Int := fun ns => (ns.headD 0, ns.tail)
  have hfg : ∀ ns ∈ l, f (g ns) = ns := fun ns hn => by
    cases ns with
    | nil => exact absurd rfl (hne _ hn)
    | cons x t => rfl
  have el : (l.map g).map f = l := by rw [List.map_map]; exact (List.map_congr_left hfg).trans (List.map_id' l)
  have eb : EachIs (fun u b => RT X y H u (f b)) its (l.map g) := each_of_map f (by rw [el]; exact e)
  have srt : ((l.map g).mergeSort (dataLe false fun b => PyData.tuple ((f b).map .int))).map f = sortL l := by
    unfold sortL
    rw [List.map_mergeSort (r := dataLe false fun b : Int × List Int => PyData.tuple ((f b).map .int)) (s := leL) (f := f) fun a _ b _ => (leL_is (f a) (f b)).symm, el]
  refine sorted_data (R := fun u b => RT X y H u (f b)) (enc := fun b => PyData.tuple ((f b).map .int)) pl.isList eb (eb.mono fun _ _ h => h.reads I) (AllAlike.of fun a b => by show alike (.tuple _) (.tuple _) = true; simp only [alike]; exact alike_ints _ _)
    (Sortable.tuples fun b => ⟨_, _, rfl⟩) (by rw [List.length_map, ← hlen, ← rv.length]; exact hz) (fun b _ => by simp only [PyData.depth, depth_ints]; omega) fun out hl eo => ?_
  have eo2 : EachIs (RT X y H) out (sortL l) := by
    rw [← srt]
    exact each_mapf f eo
  obtain ⟨ws, r2, rv2⟩ := rt_each eo2
  obtain ⟨ep, he'⟩ := PyProof.Rows.sortedAll_at s.heap its out.toArray
  have hwl : ws.length ≤ sizeLine := by
    rw [rv2.length, hl, List.length_map, ← hlen, ← rv.length]; exact hz
  exact ⟨.ref _, upd H (s.heap.objs.size + 1) (.lst ws), I.laid (t' := s.toks) (fun _ _ => PyProof.Rows.sortedAll_old) (Nat.le_succ _) ⟨hwl, out, ep, rv2, by simpa using he'⟩, rfl, q _ _ (I.hok.fresh (Nat.le_succ _)) r2⟩
theorem keyN_of : ∀ {k : List Key} {ns : List Int}, keyN? k = some ns → k.map kV = ns.map V.int
  | [], _, h => by cases h; rfl
  | .inl i :: k, ns, h => by
    obtain ⟨l, h1, rfl⟩ := Option.map_eq_some_iff.mp (show (keyN? k).map (i :: ·) = some ns from h)
    rw [List.map_cons, keyN_of h1]; rfl
  | .inr _ :: _, _, h => by cases h
theorem each_keyN : ∀ {ks : List (List Key)} {l : List (List Int)} {vs : List V} {xs : List (List Key × Addr × Value)}, keysN? ks = some l → ks.length = vs.length → KT H (ks.zip vs) xs → (∀ a, y.Z a → ∀ zs, H a ≠ some (.tup zs)) → EachIs (RT X y H) (xs.map fun x => Value.ref x.2.1) l
  | [], _, _, _, h, _, r, _ => by
    cases h
    rw [List.zip_nil_left] at r
    cases r; exact .nil
  | k :: ks, l, [], _, _, hl, _, _ => by simp at hl
  | k :: ks, l, v :: vs, _, h, hl, r, hz => by
    simp only [keysN?] at h
    cases e : keyN? k with
    | none => rw [e] at h; cases h
    | some ns =>
      rw [e] at h
      obtain ⟨l', h1, rfl⟩ := Option.map_eq_some_iff.mp (show (keysN? ks).map (ns :: ·) = some l from h)
      rw [List.zip_cons_cons] at r
      cases r with
      | cons a t =>
        rw [List.map_cons]
        have ha := a.2.1
        rw [keyN_of e] at ha
        refine .cons ⟨.ref _, rfl, ?_⟩ (each_keyN h1 (by simpa using hl) t hz)
        simp only [tupI, Rep]
        exact ⟨_, _, rfl, ⟨fun z => hz _ z _ ha, ha⟩, Reps.ints⟩
/-- sorted(d), d's keys tuples of ints, the first of them empty -/
theorem srt_dict (hc : X.calm = true) (hu : X.A.units + 200 < cLine) {p : Addr} {vs : List V} {ks : List (List Key)} {l : List (List Int)} {g : List O} {Q : VK} (G : Good X.K y H g) (I : Inv X pins σ H s) (hp : H p = some (dHO (.t ks) vs)) (hkl : ks.length = vs.length) (hl : keysN? ks = some ([] :: l))
    (q : ∀ b ws, H b = none → Reps X.K y H ((sortL ([] :: l)).map tupI) ws → Q (.ref b) (upd H b (.lst ws))) : wpAny (model X.prog X.w) X.A (call (.builtin "sorted") [.ref p]) (EP X pins σ Q) X.xe s := by
  have hp : H p = some (.dT (ks.zip vs)) := hp
  obtain ⟨z, hs, xs, pr, o, es, ep, ho, hx, hdt, he, hn⟩ := (show ObjOk X.prog X.w H s.heap p (.dT (ks.zip vs)) from I.hok p _ hp)
  have l1 : es.size = xs.length := size_of_entries he
  have l2 : (ks.zip vs).length = xs.length := Paired.length pr
  have er := each_keyN (X := X) (y := y) hl hkl pr fun a z zs => G.mt a zs z
  have hlen : xs.length = ([] :: l).length := by rw [← er.length, List.length_map]
  refine Calls.call_function_entry PyProof.Rows.kind_sorted PyProof.Rows.plain_sorted PyProof.Rows.entry_sorted (PyProof.Rows.args_sorted1 _) ?_
  unfold Builtin.«sorted»
  refine wpAny_bind (m := checkCount "sorted" 1 1 _) (wpAny_pure ?_)
  refine wpAny_bind (PySem.W.kdu_collect (A := X.A.in1) (kdl_raw hs hx hdt) (I.ok.hd hc) ho (by omega) fun h' tk acc hk it => ?_)
  have ea : acc.toList = xs.map fun x => Value.ref x.2.1 := by
    have hl : acc.toList.length = xs.length := by rw [Array.length_toList, it.1]; exact l1
    apply List.ext_getElem?
    intro j
    rw [List.getElem?_map]
    cases hj : acc.toList[j]? with
    | none =>
      have h1 := List.getElem?_eq_none_iff.mp hj
      rw [List.getElem?_eq_none (by omega)]
      all_goals rfl
    | some v =>
      obtain ⟨en, hen, hv⟩ := it.2 j v (by rw [← Array.getElem?_toList]; exact hj)
      have qe := entry_at he j
      rw [hen] at qe
      cases hb : xs[j]? with
      | none =>
        rw [hb] at qe
        exact nomatch (show some en = none from qe)
      | some b =>
        rw [hb] at qe
        have e2 : en = entryOfKey (tupleKind (mixKind X.prog X.w)) b := Option.some.inj qe
        rw [hv, e2]
        all_goals rfl
  rw [← ea] at er
  have hal : acc.toList.length ≤ sizeLine := by rw [ea, List.length_map, ← l2]; exact z
  have I1 : Inv X pins σ H { s with heap := h', toks := tk } := I.kept hk
  refine wpAny_bind (wpAny_newList ?_ hal)
  have hoL : (h'.push (seqObj "list" acc.toList.toArray 0)).get? h'.objs.size = some (seqObj "list" acc.toList.toArray 0) := Heap.get?_push_size _ rfl
  show wpAny _ _ _ _ _ { s with heap := h'.push (seqObj "list" acc.toList.toArray 0), toks := tk }
  have e2 : EachIs (fun v ns => ∃ as, Reads (sortingHeap (h'.push (seqObj "list" acc.toList.toArray 0)) h'.objs.size acc.toList) v (.tuple (ns.map .int)) as) acc.toList ([] :: l) := er.mono fun u ns h => by
    obtain ⟨as, r⟩ := h.reads I
    refine ⟨as, PyProof.Rows.Reads.keeps (fun b o e => ?_) r⟩
    have hb := hk b o e
    exact sortingHeap_old (Nat.ne_of_lt (Heap.lt_size hb)) (Heap.get?_push_of_some _ hb)
  refine wpAny_bind (wpAny_holding (wpAny_call_entry PyProof.Rows.slot_list_sort ⟨_, hoL, rfl⟩ PyProof.Rows.entry_list_sort
    (list_sort_vals (s := { s with heap := h'.push (seqObj "list" acc.toList.toArray 0), toks := tk }) hoL (SortsAt.tup0 (s := { s with heap := sortingHeap (h'.push (seqObj "list" acc.toList.toArray 0)) h'.objs.size acc.toList, toks := tk }) e2 (by show X.A.units + 1 + 1 + 2 < cLine; omega)) hal ⟨_, rfl, ?_⟩)
    (PyProof.Rows.args_list_sort _)))
  have eo := sortVals_data (enc := fun ns : List Int => PyData.tuple (ns.map .int)) false er e2 (AllAlike.of fun a b => by show alike (.tuple _) (.tuple _) = true; simp only [alike]; exact alike_ints _ _)
  have em : ([] :: l).mergeSort (dataLe false fun ns : List Int => PyData.tuple (ns.map .int)) = sortL ([] :: l) := by
    unfold sortL
    congr 1
    funext a b
    exact (leL_is a b).symm
  rw [em] at eo
  obtain ⟨ws, r2, rv2⟩ := rt_each eo
  have hol := eo.length
  have hwl : ws.length ≤ sizeLine := by
    rw [rv2.length, hol]
    show (([] :: l).mergeSort leL).length ≤ sizeLine
    rw [List.length_mergeSort, ← hlen, ← l2]
    exact z
  obtain ⟨ep2, he'⟩ := PyProof.Rows.sortedHeap_at (vs := acc.toList) (out := (sortVals (dataKind (sortingHeap (h'.push (seqObj "list" acc.toList.toArray 0)) h'.objs.size acc.toList) (([] :: l).map fun ns => PyData.tuple (ns.map .int))) false acc.toList acc.toList).toArray) hoL
  refine wpAny_pure ⟨_, rfl, .ref h'.objs.size, upd H h'.objs.size (.lst ws), I1.laid (t' := tk) (fun b u e => ?_) (Nat.le_refl _)
    (show ObjOk X.prog X.w _ _ _ (.lst ws) from ⟨hwl, _, ep2, rv2, he'⟩), rfl, q _ _ (I1.hok.fresh (Nat.le_refl _)) r2⟩
  have hb : b < h'.objs.size := Heap.lt_size e
  rw [PyProof.Rows.sortedHeap_old (Nat.ne_of_lt hb) (by rw [size_push']; exact Nat.lt_succ_of_lt hb)]
  exact Heap.get?_push_of_some _ e
end
end Bk
end
section
set_option Elab.async false
set_option linter.all false
set_option maxRecDepth 100000
set_option maxHeartbeats 4000000
namespace Bk
open PySem PySem.Spec PyProof.Rows L2
theorem log_of {n : Nat} (h : n < 2 ^ 1900) : n.log2 < 1920 := by
  by_cases h0 : n = 0
  · subst h0; decide
  · have := (Nat.log2_lt h0 (k := 1900)).mpr h
    omega
section
variable {X : Cx} {pins : List (Addr × Obj)} {σ : L2.St} {H : Hp} {s : Shared} {y : Gh}
theorem rkeys : ∀ {es : List DictEntry} {kvs : List (Key × Value)} {ks : List Key}, Pairs (mixKind X.prog X.w) es kvs → kvs.map (·.1) = ks → ks.all keyS = true → (∀ t ∈ PyData.shownAll (ks.map keyP), t.length ≤ sizeLine) →
    (∃ as, ReadsAll s.heap (es.map (·.key)) (ks.map keyP) as) ∧ ∃ bs, ReadAtMost s.heap (PyData.depthAll (ks.map keyP)) bs ∧ ReprAllK X.prog X.w bs s.heap (PyData.depthAll (ks.map keyP)) (es.map (·.key)) (PyData.shownAll (ks.map keyP))
  | _, _, _, .nil, rfl, _, _ => ⟨⟨[], .nil⟩, [], (fun _ h => nomatch h), by simp only [List.map_nil, PyData.shownAll]; exact .nil⟩
  | _, _, _, .cons (e := e) (kv := kv) (kvs := kv2) h1 _ t, rfl, hk, hz => by
    simp only [List.map_cons, List.all_cons, Bool.and_eq_true] at hk
    have hz2 : ∀ t ∈ PyData.shownAll ((kv2.map (·.1)).map keyP), t.length ≤ sizeLine := fun t ht => hz t (by simp only [List.map_cons, PyData.shownAll]; exact List.mem_cons_of_mem _ ht)
    obtain ⟨⟨as, r⟩, bs, rb, rr⟩ := rkeys t rfl hk.2 hz2
    have hz1 := hz (keyP kv.1).shown (by simp only [List.map_cons, PyData.shownAll]; exact List.mem_cons_self)
    have one : Reads s.heap e.key (keyP kv.1) [] ∧ ReprIs X.prog X.w e.key (keyP kv.1).shown := by
      rcases keyIs_shape (show keyIs kv.1 e.key = true from h1) with ⟨i, tk, e1, e2⟩ | ⟨x, tk, e1, e2⟩
      · rw [e1, e2]
        rw [e1] at hk
        exact ⟨.int i tk, by simp only [keyP, PyData.shown]; exact ReprIs.int tk (log_of (of_decide_eq_true hk.1))⟩
      · rw [e1, e2]
        rw [e1] at hz1
        exact ⟨.str x tk, by simp only [keyP, PyData.shown] at hz1 ⊢; exact ReprIs.str x tk hz1⟩
    refine ⟨⟨[] ++ as, by simp only [List.map_cons]; exact .cons one.1 r⟩, bs, fun b hb => ?_, ?_⟩
    · obtain ⟨d, as', r', hd⟩ := rb b hb
      exact ⟨d, as', r', Nat.le_trans hd (by simp only [List.map_cons, PyData.depthAll]; exact Nat.le_max_right _ _)⟩
    · simp only [List.map_cons, PyData.shownAll, PyData.depthAll]
      exact .cons (.of_is one.2 _ _ _) (rr.more_le (fun b hb => hb) (Nat.le_max_right _ _))
theorem kv_fst {κ : Type} : ∀ {l : List (κ × V)} {m : List (κ × Value)}, KV l m → l.map (·.1) = m.map (·.1) ∧ Vals (l.map (·.2)) (m.map (·.2))
  | _, _, .nil => ⟨rfl, .nil⟩
  | _, _, .cons r t => by
    obtain ⟨h1, h2⟩ := kv_fst t
    exact ⟨by simp only [List.map_cons, r.1, h1], .cons r.2 h2⟩
theorem pairs_val : ∀ {es : List DictEntry} {kvs : List (Key × Value)}, Pairs (mixKind X.prog X.w) es kvs → es.map (·.val) = kvs.map (·.2)
  | _, _, .nil => rfl
  | _, _, .cons _ h t => by simp only [List.map_cons, h, pairs_val t]
mutual
theorem rk (I : Inv X pins σ H s) : ∀ (d : D) (n : Nat) (v : V) (u : Value), Rep X.K y H d v → RelV v u → shw n d = true → (pyd d).shown.length ≤ sizeLine →
    (∃ as, Reads s.heap u (pyd d) as) ∧ ∃ bs, ReadAtMost s.heap (pyd d).depth bs ∧ ReprK X.prog X.w bs s.heap (pyd d).depth u (pyd d).shown
  | .non, _, _, _, h, r, _, _ => by
    simp only [Rep] at h; subst h; cases r
    exact ⟨⟨[], by simp only [pyd]; exact .none⟩, [], (fun _ h => nomatch h), by simp only [pyd, PyData.shown]; exact .of_is ReprIs.none _ _ _⟩
  | .bl b, _, _, _, h, r, _, _ => by
    simp only [Rep] at h; subst h; cases r
    exact ⟨⟨[], by simp only [pyd]; exact .bool b⟩, [], (fun _ h => nomatch h), by simp only [pyd, PyData.shown]; exact .of_is (ReprIs.bool b) _ _ _⟩
  | .int i, n, _, _, h, r, hs, _ => by
    simp only [Rep] at h; subst h; obtain ⟨t, rfl⟩ := r
    have hs : i.natAbs < 2 ^ 1900 := by cases n <;> simpa [shw] using hs
    exact ⟨⟨[], by simp only [pyd]; exact .int i t⟩, [], (fun _ h => nomatch h), by simp only [pyd, PyData.shown]; exact .of_is (ReprIs.int t (log_of hs)) _ _ _⟩
  | .str x, _, _, _, h, r, _, hz => by
    simp only [Rep] at h; subst h; obtain ⟨t, rfl⟩ := r
    exact ⟨⟨[], by simp only [pyd]; exact .str x t⟩, [], (fun _ h => nomatch h), by simp only [pyd, PyData.shown] at hz ⊢; exact .of_is (ReprIs.str x t hz) _ _ _⟩
  | .tup ds, 0, _, _, _, _, hs, _ => by simp [shw] at hs
  | .tup ds, n + 1, _, _, h, r, hs, hz => by
    simp only [Rep] at h; simp only [shw] at hs
    obtain ⟨a, vs, rfl, h1, h2⟩ := h
    cases r
    obtain ⟨its, rv, ⟨o, e1, e2, m, e3⟩, _⟩ := I.tuple h1.sq
    have hz' : (tupleText (PyData.shownAll (pyds ds))).length ≤ sizeLine := by simpa only [pyd, PyData.shown] using hz
    obtain ⟨⟨as, ra⟩, bs, hb, hk⟩ := rks I ds n vs its h2 rv hs fun t ht => Nat.le_trans (tupleText_mem_le ht) hz'
    have r0 : Reads s.heap (.ref a) (.tuple (pyds ds)) as := .tuple e1 e2 e3 (by simpa using ra)
    have hna : a ∉ bs := not_mem_of_deeper r0 (by simp only [PyData.depth]; omega) hb
    simp only [pyd]
    refine ⟨⟨as, r0⟩, a :: bs, ReadAtMost.cons r0 (by simp only [PyData.depth]; omega) hb, ?_⟩
    simp only [PyData.depth, PyData.shown]
    exact ReprK.tuple e1 e2 e3 hna (by simpa using hk)
  | .lst ds, 0, _, _, _, _, hs, _ => by simp [shw] at hs
  | .lst ds, n + 1, _, _, h, r, hs, hz => by
    simp only [Rep] at h; simp only [shw] at hs
    obtain ⟨a, vs, rfl, _, h1, h2⟩ := h
    cases r
    obtain ⟨_, its, m, rv, e1⟩ := I.hok a _ h1
    have hz' : (listText (PyData.shownAll (pyds ds))).length ≤ sizeLine := by simpa only [pyd, PyData.shown] using hz
    obtain ⟨⟨as, ra⟩, bs, hb, hk⟩ := rks I ds n vs its h2 rv hs fun t ht => Nat.le_trans (listText_mem_le ht) hz'
    have r0 : Reads s.heap (.ref a) (.list (pyds ds)) (a :: as) := .list e1 rfl rfl (by simpa using ra)
    have hna : a ∉ bs := not_mem_of_deeper r0 (by simp only [PyData.depth]; omega) hb
    simp only [pyd]
    refine ⟨⟨_, r0⟩, a :: bs, ReadAtMost.cons r0 (by simp only [PyData.depth]; omega) hb, ?_⟩
    simp only [PyData.depth, PyData.shown]
    cases its with
    | nil =>
      have e0 : pyds ds = [] := by
        generalize pyds ds = l at ra
        cases ra
        rfl
      rw [e0]
      simp only [PyData.shownAll, listText_nil]
      exact ReprK.listEmpty e1 rfl rfl
    | cons x l => exact ReprK.list e1 rfl rfl hna (by simpa using hk.length_eq) (fun i z e => hk.item i z (by simpa using e))
  | .dct ks ds, 0, _, _, _, _, hs, _ => by simp [shw] at hs
  | .dct (.t ks) ds, n + 1, _, _, _, _, hs, _ => by simp [shw, keysS] at hs
  | .dct (.k ks) ds, n + 1, _, _, h, r, hs, hz => by
    simp only [Rep] at h; simp only [shw, keysS, Bool.and_eq_true, decide_eq_true_eq] at hs
    obtain ⟨a, vs, rfl, _, h1, hl, h2⟩ := h
    cases r
    replace h1 : H a = some (.dK (ks.zip vs)) := h1
    replace hl : ks.length = ds.length := hl
    obtain ⟨_, hsys, ws, rkv, o, es, ep, e1, e2, e3, _, hp, _⟩ := I.hok a _ h1
    obtain ⟨f1, f2⟩ := kv_fst rkv
    have lv : ks.length = vs.length := hl.trans h2.length
    rw [List.map_fst_zip (by omega)] at f1
    rw [List.map_snd_zip (by omega)] at f2
    have lp : (ks.map keyP).length = (pyds ds).length := by
      rw [List.length_map, hl]
      clear hl h1 h2 hs hz
      induction ds with
      | nil => rfl
      | cons d ds ih => simp only [pyds, List.length_cons, ih]
    generalize hkv : (ks.map keyP).zip (pyds ds) = kvs at hz ⊢
    have m1 : kvs.map (·.1) = ks.map keyP := by rw [← hkv]; exact List.map_fst_zip (by omega)
    have m2 : kvs.map (·.2) = pyds ds := by rw [← hkv]; exact List.map_snd_zip (by omega)
    have ed : pyd (.dct (.k ks) ds) = .dict kvs := by simp only [pyd, keysP]; rw [hkv]
    rw [ed] at hz ⊢
    have hz' : (dictText (PyData.shownKv kvs)).length ≤ sizeLine := by simpa only [PyData.shown] using hz
    obtain ⟨⟨as1, r1⟩, b1, hb1, k1⟩ := rkeys (s := s) hp f1.symm hs.2 (fun t ht => let ⟨p, hp, hl⟩ := PyData.shownKv_key_le kvs t (by rw [m1]; exact ht); Nat.le_trans hl (Nat.le_trans (dictText_mem_le hp) hz'))
    obtain ⟨⟨as2, r2⟩, b2, hb2, k2⟩ := rks I ds n vs (ws.map (·.2)) h2 f2 hs.1.1 (fun t ht => let ⟨p, hp, hl⟩ := PyData.shownKv_val_le kvs t (by rw [m2]; exact ht); Nat.le_trans hl (Nat.le_trans (dictText_mem_le hp) hz'))
    rw [← pairs_val hp] at r2 k2
    rw [← m1] at r1 hb1 k1
    rw [← m2] at r2 hb2 k2
    have r0 : Reads s.heap (.ref a) (.dict kvs) _ := .dict e1 e2.1 e3 r1 r2
    have hb : ReadAtMost s.heap (PyData.depthKv kvs) (b1 ++ b2) := (hb1.mono (PyData.depthAll_keys_le kvs)).append (hb2.mono (PyData.depthAll_vals_le kvs))
    have hna : a ∉ b1 ++ b2 := not_mem_of_deeper r0 (by simp only [PyData.depth]; omega) hb
    refine ⟨⟨_, r0⟩, a :: (b1 ++ b2), ReadAtMost.cons r0 (by simp only [PyData.depth]; omega) hb, ?_⟩
    simp only [PyData.depth, PyData.shown, PyData.shownKv_eq]
    exact ReprK.dict e1 e2.1 e3 hsys hna (ReprEntriesK.of_two es.toList _ _ (k1.more_le (fun b hb => List.mem_append_left _ hb) (PyData.depthAll_keys_le kvs)) (k2.more_le (fun b hb => List.mem_append_right _ hb) (PyData.depthAll_vals_le kvs)))
  | .ref _, _, _, _, _, _, hs, _ => by simp [shw] at hs
  | .scr _, _, _, _, _, _, hs, _ => by simp [shw] at hs
theorem rks (I : Inv X pins σ H s) : ∀ (ds : List D) (n : Nat) (vs : List V) (us : List Value), Reps X.K y H ds vs → Vals vs us → shws n ds = true → (∀ t ∈ PyData.shownAll (pyds ds), t.length ≤ sizeLine) →
    (∃ as, ReadsAll s.heap us (pyds ds) as) ∧ ∃ bs, ReadAtMost s.heap (PyData.depthAll (pyds ds)) bs ∧ ReprAllK X.prog X.w bs s.heap (PyData.depthAll (pyds ds)) us (PyData.shownAll (pyds ds))
  | [], _, _, _, h, r, _, _ => by
    simp only [Reps] at h; subst h; cases r
    exact ⟨⟨[], by simp only [pyds]; exact .nil⟩, [], (fun _ h => nomatch h), by simp only [pyds, PyData.shownAll]; exact .nil⟩
  | d :: ds, n, _, _, h, r, hs, hz => by
    simp only [Reps] at h; simp only [shws, Bool.and_eq_true] at hs
    obtain ⟨v, ws, rfl, h1, h2⟩ := h
    cases r with
    | cons r1 r2 =>
      simp only [pyds] at hz ⊢
      obtain ⟨⟨a1, ra1⟩, b1, hb1, k1⟩ := rk I d n v _ h1 r1 hs.1 (hz _ (by simp only [PyData.shownAll]; exact List.mem_cons_self))
      obtain ⟨⟨a2, ra2⟩, b2, hb2, k2⟩ := rks I ds n ws _ h2 r2 hs.2 (fun t ht => hz t (by simp only [PyData.shownAll]; exact List.mem_cons_of_mem _ ht))
      refine ⟨⟨_, .cons ra1 ra2⟩, b1 ++ b2, ?_, ?_⟩
      · simp only [PyData.depthAll]
        exact (hb1.mono (Nat.le_max_left _ _)).append (hb2.mono (Nat.le_max_right _ _))
      · simp only [PyData.depthAll, PyData.shownAll]
        exact .cons ((k1.more fun b hb => List.mem_append_left _ hb).level_le (Nat.le_max_left _ _)) (k2.more_le (fun b hb => List.mem_append_right _ hb) (Nat.le_max_right _ _))
end
end
end Bk
end
section
set_option Elab.async false
set_option linter.all false
set_option maxRecDepth 100000
set_option maxHeartbeats 4000000
namespace Bk
open PySem PySem.Spec PyProof.Rows L2
section
variable {K : PySem.W.Frag} {y : Gh} {H : Hp} {g : List O}
theorem rx1 {d : D} {xs : List V} (h : RepsX K true y H [d] xs) : ∃ x, xs = [x] ∧ RepT K y H d x := by
  obtain ⟨x, ws, rfl, h1, h2⟩ := h
  have h2 : ws = [] := h2
  subst h2
  exact ⟨x, rfl, h1⟩
theorem rx2 {d e : D} {xs : List V} (h : RepsX K true y H [d, e] xs) : ∃ x z, xs = [x, z] ∧ RepT K y H d x ∧ RepT K y H e z := by
  obtain ⟨x, ws, rfl, h1, h2⟩ := h
  obtain ⟨z, rfl, h3⟩ := rx1 (K := K) (y := y) (H := H) (d := e) (xs := ws) h2
  exact ⟨x, z, rfl, h1, h3⟩
end
theorem pyds_len : ∀ ds : List D, (pyds ds).length = ds.length
  | [] => rfl
  | d :: ds => by simp only [pyds, List.length_cons, pyds_len ds]
mutual
theorem shw_dep : ∀ (d : D) (n : Nat), shw n d = true → (pyd d).depth ≤ n
  | .non, _, _ => by simp [pyd, PyData.depth]
  | .bl _, _, _ => by simp [pyd, PyData.depth]
  | .int _, _, _ => by simp [pyd, PyData.depth]
  | .str _, _, _ => by simp [pyd, PyData.depth]
  | .tup ds, 0, h => by simp [shw] at h
  | .tup ds, n + 1, h => by
    simp only [shw] at h
    have := shw_deps ds n h
    simp only [pyd, PyData.depth]
    omega
  | .lst ds, 0, h => by simp [shw] at h
  | .lst ds, n + 1, h => by
    simp only [shw] at h
    have := shw_deps ds n h
    simp only [pyd, PyData.depth]
    omega
  | .dct ks ds, 0, h => by simp [shw] at h
  | .dct (.t ks) ds, n + 1, h => by simp [shw, keysS] at h
  | .dct (.k ks) ds, n + 1, h => by
    simp only [shw, Bool.and_eq_true] at h
    have := shw_deps ds n h.1.1
    simp only [pyd, keysP, PyData.depth]
    have go : ∀ (ks : List Key) (es : List PyData), PyData.depthKv ((ks.map keyP).zip es) ≤ PyData.depthAll es := by
      intro ks
      induction ks with
      | nil => intro es; simp [PyData.depthKv]
      | cons k ks ih =>
        intro es
        cases es with
        | nil => simp [PyData.depthKv]
        | cons e es =>
          have := ih es
          have hk : (keyP k).depth = 0 := by cases k <;> simp [keyP, PyData.depth]
          simp only [List.map_cons, List.zip_cons_cons, PyData.depthKv, PyData.depthAll, hk]
          omega
    have := go ks (pyds ds)
    omega
  | .ref _, _, h => by simp [shw] at h
  | .scr _, _, h => by simp [shw] at h
theorem shw_deps : ∀ (ds : List D) (n : Nat), shws n ds = true → PyData.depthAll (pyds ds) ≤ n
  | [], _, _ => by simp [pyds, PyData.depthAll]
  | d :: ds, n, h => by
    simp only [shws, Bool.and_eq_true] at h
    have := shw_dep d n h.1
    have := shw_deps ds n h.2
    simp only [pyds, PyData.depthAll]
    omega
end
section
variable {X : Cx}
theorem call_repr (hc : X.calm = true) (hg : X.A.guards = some []) (hu : X.A.units + 200 < cLine) {pins : List (Addr × Obj)} {s : Shared} {σ : L2.St} {H : Hp} {y : Gh} {d : D} {x : V} {u : Value} {Q : VK} (I : Inv X pins σ H s)
    (h : RepT X.K y H d x) (rx : RelV x u) (hs : shw 60 d = true) (hl : (shown d).length ≤ 16000000) (q : Q (.str (shown d)) H) :
    wpAny (model X.prog X.w) X.A (call (.builtin "repr") [u]) (EP X pins σ Q) X.xe s := by
  have hz : (pyd d).shown.length ≤ sizeLine := Nat.le_trans hl (by decide)
  have qq : ∀ h' t tk, (∀ b o, s.heap.get? b = some o → h'.get? b = some o) → EP X pins σ Q (.str (pyd d).shown t) { s with heap := h', toks := tk } := fun h' t tk hk => ⟨.str _, H, I.kept hk, ⟨t, rfl⟩, q⟩
  have hcu : X.A.units + 1 < cLine := by omega
  cases d with
  | non =>
    rw [rt_non h] at rx; cases rx
    exact P.repr_of_none (by have := qq s.heap s.toks (s.toks + 1) fun _ _ e => e; simpa only [pyd, PyData.shown] using this)
  | bl b =>
    rw [rt_bl h] at rx; cases rx
    exact P.repr_of_bool (by have := qq s.heap s.toks (s.toks + 1) fun _ _ e => e; simpa only [pyd, PyData.shown] using this)
  | int i =>
    rw [rt_int h] at rx; obtain ⟨t, rfl⟩ := rx
    exact P.repr_of_int (log_of (by simpa [shw] using hs)) (by have := qq s.heap s.toks (s.toks + 1) fun _ _ e => e; simpa only [pyd, PyData.shown] using this)
  | str z =>
    rw [rt_str h] at rx; obtain ⟨t, rfl⟩ := rx
    exact P.repr_of_str (by have := qq s.heap s.toks (s.toks + 1) fun _ _ e => e; simpa only [pyd, PyData.shown] using this) (by simpa only [pyd, PyData.shown] using hz)
  | tup ds =>
    have h0 : Rep X.K y H (.tup ds) x := h
    simp only [Rep] at h0
    obtain ⟨a, vs, rfl, h1, h2⟩ := h0
    cases rx
    simp only [shw] at hs
    obtain ⟨its, rv, ⟨o, e1, e2, m, e3⟩, _⟩ := I.tuple h1.sq
    have hz' : (tupleText (PyData.shownAll (pyds ds))).length ≤ sizeLine := by simpa only [pyd, PyData.shown] using hz
    obtain ⟨⟨as, ra⟩, bs, hb, hk⟩ := rks I ds 59 vs its h2 rv hs fun t ht => Nat.le_trans (tupleText_mem_le ht) hz'
    have r0 : Reads s.heap (.ref a) (.tuple (pyds ds)) as := .tuple e1 e2 e3 (by simpa using ra)
    have hna : a ∉ bs := not_mem_of_deeper r0 (by simp only [PyData.depth]; omega) hb
    have hd := shw_deps ds 59 hs
    refine call_repr_slot hcu ⟨o, e1, e2⟩ F.slot_tuple_repr (call_tuple_reprK e1 e2 e3 hna (by simpa using hk) (show X.A.in1.guards = some [] from hg) (fun b _ => Clear.nil b) (by show X.A.units + 1 + (PyData.depthAll (pyds ds) + 1) < cLine; omega) (fun _ _ e => e) (fun h' u tk hk => ⟨_, _, rfl, ?_⟩) hz')
    have := qq h' u tk hk
    simpa only [pyd, PyData.shown] using this
  | lst ds =>
    obtain ⟨a, vs, rfl, h1, h2⟩ := rt_lst h
    cases rx
    simp only [shw] at hs
    obtain ⟨_, its, m, rv, e1⟩ := I.hok a _ h1
    have hz' : (listText (PyData.shownAll (pyds ds))).length ≤ sizeLine := by simpa only [pyd, PyData.shown] using hz
    obtain ⟨⟨as, ra⟩, bs, hb, hk⟩ := rks I ds 59 vs its h2 rv hs fun t ht => Nat.le_trans (listText_mem_le ht) hz'
    have r0 : Reads s.heap (.ref a) (.list (pyds ds)) (a :: as) := .list e1 rfl rfl (by simpa using ra)
    have hna : a ∉ bs := not_mem_of_deeper r0 (by simp only [PyData.depth]; omega) hb
    have hd := shw_deps ds 59 hs
    cases its with
    | nil =>
      have e0 : pyds ds = [] := by
        generalize pyds ds = l at ra
        cases ra
        rfl
      refine call_repr_slot hcu ⟨_, e1, rfl⟩ F.slot_list_repr.toG (call_list_repr_empty ⟨_, e1, rfl⟩ e1 rfl ⟨_, _, rfl, ?_⟩)
      have := qq s.heap s.toks (s.toks + 1) fun _ _ e => e
      simpa only [pyd, PyData.shown, e0, PyData.shownAll, listText_nil] using this
    | cons z l =>
      refine call_repr_slot hcu ⟨_, e1, rfl⟩ F.slot_list_repr.toG (call_list_reprK e1 rfl rfl hna (by simpa using hk.length_eq) (fun i w e => hk.item i w (by simpa using e)) (show X.A.in1.guards = some [] from hg) (fun b _ => Clear.nil b) (by show X.A.units + 1 + (PyData.depthAll (pyds ds) + 1) < cLine; omega) (fun _ _ e => e) (fun h' u tk hk => ⟨_, _, rfl, ?_⟩) hz')
      have := qq h' u tk hk
      simpa only [pyd, PyData.shown] using this
  | dct kks ds =>
    cases kks with
    | t ks => simp [shw, keysS] at hs
    | k ks =>
    obtain ⟨a, vs, rfl, _, h1, hkl, h2⟩ := h
    cases rx
    replace h1 : H a = some (.dK (ks.zip vs)) := h1
    replace hkl : ks.length = ds.length := hkl
    have hsd := shw_dep (.dct (.k ks) ds) 60 hs
    simp only [shw, keysS, Bool.and_eq_true, decide_eq_true_eq] at hs
    obtain ⟨_, hsys, ws, rkv, o, es, ep, e1, e2, e3, _, hp, _⟩ := I.hok a _ h1
    obtain ⟨f1, f2⟩ := kv_fst rkv
    have lv : ks.length = vs.length := hkl.trans h2.length
    rw [List.map_fst_zip (by omega)] at f1
    rw [List.map_snd_zip (by omega)] at f2
    have lp : (ks.map keyP).length = (pyds ds).length := by rw [List.length_map, hkl, pyds_len]
    generalize hkv : (ks.map keyP).zip (pyds ds) = kvs
    have m1 : kvs.map (·.1) = ks.map keyP := by rw [← hkv]; exact List.map_fst_zip (by omega)
    have m2 : kvs.map (·.2) = pyds ds := by rw [← hkv]; exact List.map_snd_zip (by omega)
    have ed : pyd (.dct (.k ks) ds) = .dict kvs := by simp only [pyd, keysP]; rw [hkv]
    rw [ed] at hz qq hsd
    have hz' : (dictText (PyData.shownKv kvs)).length ≤ sizeLine := by simpa only [PyData.shown] using hz
    obtain ⟨⟨as1, r1⟩, b1, hb1, k1⟩ := rkeys (s := s) hp f1.symm hs.2 (fun t ht => let ⟨p, hp, hl⟩ := PyData.shownKv_key_le kvs t (by rw [m1]; exact ht); Nat.le_trans hl (Nat.le_trans (dictText_mem_le hp) hz'))
    obtain ⟨⟨as2, r2⟩, b2, hb2, k2⟩ := rks I ds 59 vs (ws.map (·.2)) h2 f2 hs.1.1 (fun t ht => let ⟨p, hp, hl⟩ := PyData.shownKv_val_le kvs t (by rw [m2]; exact ht); Nat.le_trans hl (Nat.le_trans (dictText_mem_le hp) hz'))
    rw [← pairs_val hp] at r2 k2
    rw [← m1] at r1 hb1 k1
    rw [← m2] at r2 hb2 k2
    have r0 : Reads s.heap (.ref a) (.dict kvs) _ := .dict e1 e2.1 e3 r1 r2
    have hb : ReadAtMost s.heap (PyData.depthKv kvs) (b1 ++ b2) := (hb1.mono (PyData.depthAll_keys_le kvs)).append (hb2.mono (PyData.depthAll_vals_le kvs))
    have hna : a ∉ b1 ++ b2 := not_mem_of_deeper r0 (by simp only [PyData.depth]; omega) hb
    simp only [PyData.depth] at hsd
    refine call_repr_slot hcu ⟨o, e1, e2.1⟩ F.slot_dict_repr (call_dict_reprK e1 e2.1 e3 hsys hna (ReprEntriesK.of_two es.toList _ _ (k1.more_le (fun b hb => List.mem_append_left _ hb) (PyData.depthAll_keys_le kvs)) (k2.more_le (fun b hb => List.mem_append_right _ hb) (PyData.depthAll_vals_le kvs)))
      (show X.A.in1.guards = some [] from hg) (fun b _ => Clear.nil b) (by show X.A.units + 1 + (PyData.depthKv kvs + 1) < cLine; omega) (fun _ _ e => e) (fun h' u tk hk => ⟨_, _, rfl, ?_⟩) (by rw [← PyData.shownKv_eq]; exact hz'))
    have := qq h' u tk hk
    rw [← PyData.shownKv_eq]
    simpa only [PyData.shown] using this
  | ref n => simp [shw] at hs
  | scr n => simp [shw] at hs
theorem cr_bi (hc : X.calm = true) (hg : X.A.guards = some []) (hu : X.A.units + 200 < cLine) (f : Bi) : CallR X f.val (rBi X.K f) := by
  intro pins s σ H xs us Q I rxs h
  obtain ⟨y, g, ds, o, G, h1, ho, a⟩ := h
  by_cases hsp : ∃ n, f = .len ∧ ds = [.ref n]
  · obtain ⟨n, rfl, rfl⟩ := hsp
    obtain ⟨x, rfl, h2⟩ := rx1 h1
    obtain ⟨p, hp, rfl⟩ : ∃ p, y.al[n]? = some p ∧ x = .ref p := by simpa only [RepT, Rep] using h2
    simp only [biG] at ho
    cases hg : g[n]? with
    | none => rw [hg] at ho; cases ho
    | some ob =>
      cases ob with
      | lst xs =>
        rw [hg] at ho
        simp only [Option.some.injEq] at ho
        subst ho
        obtain ⟨vs, q1, q2⟩ := G.objs n p _ hp hg
        exact call_len_seq pins s σ H _ us Q I rxs ⟨p, vs, rfl, .inl (.inl (.inl q1)), by rw [← q2.length]; exact a.int G⟩
  have ho : biD f ds = some o := by
    unfold biG at ho
    split at ho
    · exact absurd ⟨_, rfl, rfl⟩ hsp
    · exact ho
  cases f with
  | len =>
    match ds, ho with
    | [.lst ds], ho =>
      simp only [biD, Option.some.injEq] at ho; subst ho
      obtain ⟨x, rfl, h2⟩ := rx1 h1
      obtain ⟨p, vs, rfl, hp, r⟩ := rt_lst h2
      exact call_len_seq pins s σ H _ us Q I rxs ⟨p, vs, rfl, .inl (.inl (.inl hp)), by rw [← r.length]; exact a.int G⟩
    | [.tup ds], ho =>
      simp only [biD, Option.some.injEq] at ho; subst ho
      obtain ⟨x, rfl, h2⟩ := rx1 h1
      obtain ⟨p, vs, rfl, hp, r⟩ := rt_tup h2
      exact call_len_seq pins s σ H _ us Q I rxs ⟨p, vs, rfl, .inr hp, by rw [← r.length]; exact a.int G⟩
    | [.scr ns], ho =>
      simp only [biD, Option.some.injEq] at ho; subst ho
      obtain ⟨x, rfl, h2⟩ := rx1 h1
      obtain ⟨p, rfl, hp⟩ : ∃ p, x = .ref p ∧ ScrAt X.K y H p (ns.map V.int) := by simpa only [RepT, Rep] using h2
      have ha := a.int G
      exact call_len_seq pins s σ H _ us Q I rxs ⟨p, _, rfl, .inl hp.sq, by rw [List.length_map]; exact ha⟩
    | [.str z], ho =>
      simp only [biD] at ho
      split at ho
      · rename_i hz
        simp only [Option.some.injEq] at ho; subst ho
        obtain ⟨x, rfl, h2⟩ := rx1 h1
        exact call_len_str pins s σ H _ us Q I rxs ⟨z, by rw [rt_str h2], lim_size hz, a.int G⟩
      · cases ho
  | abs =>
    match ds, ho with
    | [.int i], ho =>
      simp only [biD, Option.some.injEq] at ho; subst ho
      obtain ⟨x, rfl, h2⟩ := rx1 h1
      refine call_abs pins s σ H _ us Q I rxs ⟨i, by rw [rt_int h2], ?_⟩
      have e : (if i < 0 then -i else i) = ((i.natAbs : Nat) : Int) := by split <;> omega
      rw [e]; exact a.int G
  | sum =>
    match ds, ho with
    | [.lst ds], ho =>
      simp only [biD] at ho
      cases e : ints? ds with
      | none => rw [e] at ho; cases ho
      | some ns =>
        rw [e] at ho
        simp only [Option.map_some, Option.some.injEq] at ho; subst ho
        obtain ⟨x, rfl, h2⟩ := rx1 h1
        obtain ⟨p, vs, rfl, hp, r⟩ := rt_lst h2
        obtain ⟨_, ev⟩ := ints_rep r e
        subst ev
        exact cr_sum hc pins s σ H _ us Q I rxs ⟨p, ns, rfl, .inl (.inl hp), a.int G⟩
    | [.tup ds], ho =>
      simp only [biD] at ho
      cases e : ints? ds with
      | none => rw [e] at ho; cases ho
      | some ns =>
        rw [e] at ho
        simp only [Option.map_some, Option.some.injEq] at ho; subst ho
        obtain ⟨x, rfl, h2⟩ := rx1 h1
        obtain ⟨p, vs, rfl, hp, r⟩ := rt_tup h2
        obtain ⟨_, ev⟩ := ints_rep r e
        subst ev
        rw [Vals.ref1 rxs]
        exact tup_sum hc I hp (a.int G)
  | tuple =>
    match ds, ho with
    | [.lst ds], ho =>
      simp only [biD, Option.some.injEq] at ho; subst ho
      obtain ⟨x, rfl, h2⟩ := rx1 h1
      obtain ⟨p, vs, rfl, hp, r⟩ := rt_lst h2
      exact call_tuple_of pins s σ H _ us Q I rxs ⟨p, vs, rfl, .inl ⟨.inl (.inl hp), fun l hl => a.newT G r l hl⟩⟩
    | [.tup ds], ho =>
      simp only [biD, Option.some.injEq] at ho; subst ho
      obtain ⟨x, rfl, h2⟩ := rx1 h1
      have h3 : Rep X.K y H (.tup ds) x := h2
      obtain ⟨p, vs, rfl, hp, r⟩ := rt_tup h2
      exact call_tuple_of pins s σ H _ us Q I rxs ⟨p, vs, rfl, .inr ⟨hp, a.tupV G h3⟩⟩
  | list =>
    match ds, ho with
    | [.lst ds], ho =>
      simp only [biD, Option.some.injEq] at ho; subst ho
      obtain ⟨x, rfl, h2⟩ := rx1 h1
      obtain ⟨p, vs, rfl, hp, r⟩ := rt_lst h2
      exact call_list_of pins s σ H _ us Q I rxs ⟨p, vs, rfl, .inl (.inl (.inl hp)), fun l hl => a.newL G r l hl⟩
    | [.tup ds], ho =>
      simp only [biD, Option.some.injEq] at ho; subst ho
      obtain ⟨x, rfl, h2⟩ := rx1 h1
      obtain ⟨p, vs, rfl, hp, r⟩ := rt_tup h2
      exact call_list_of pins s σ H _ us Q I rxs ⟨p, vs, rfl, .inr hp, fun l hl => a.newL G r l hl⟩
  | sorted =>
    match ds, ho with
    | [.lst ds], ho =>
      simp only [biD] at ho
      obtain ⟨x, rfl, h2⟩ := rx1 h1
      obtain ⟨p, vs, rfl, hp, r⟩ := rt_lst h2
      cases e : ints? ds with
      | none =>
        rw [e] at ho
        obtain ⟨l, e2, ho2⟩ := Option.bind_eq_some_iff.mp (show (tups? ds).bind srtL = some o from ho)
        clear ho
        cases tups_of e2
        unfold srtL at ho2
        split at ho2
        · rename_i hne
          cases ho2
          rw [Vals.ref1 rxs]
          refine srt_tups hu I hp r (fun ns hn q => ?_) fun b ws hb rw => a.newL G rw b hb
          have := List.all_eq_true.mp hne ns hn
          rw [q] at this
          exact absurd this (by decide)
        · cases ho2
      | some ns =>
        rw [e] at ho
        simp only [Option.some.injEq] at ho; subst ho
        obtain ⟨_, ev⟩ := ints_rep r e
        subst ev
        refine cr_sortedI pins s σ H _ us Q I rxs ⟨p, ns, rfl, .inl (.inl hp), fun ns' l hp' hw hl => ?_⟩
        rw [sorted_is hp' hw]
        exact a.newL G Reps.ints l hl
    | [.tup ds], ho =>
      simp only [biD] at ho
      cases e : ints? ds with
      | none => rw [e] at ho; cases ho
      | some ns =>
        rw [e] at ho
        simp only [Option.map_some, Option.some.injEq] at ho; subst ho
        obtain ⟨x, rfl, h2⟩ := rx1 h1
        obtain ⟨p, vs, rfl, hp, r⟩ := rt_tup h2
        obtain ⟨_, ev⟩ := ints_rep r e
        subst ev
        rw [Vals.ref1 rxs]
        refine tup_sorted I hp fun ns' l hp' hw hl => ?_
        rw [sorted_is hp' hw]
        exact a.newL G Reps.ints l hl
    | [.dct (.t ks) ds], ho =>
      simp only [biD] at ho
      obtain ⟨l, e2, ho⟩ := Option.bind_eq_some_iff.mp ho
      match l, e2, ho with
      | [] :: l, e2, ho =>
        simp only [srtK, Option.some.injEq] at ho
        subst ho
        obtain ⟨x, rfl, h2⟩ := rx1 h1
        obtain ⟨p, vs, rfl, _, hp, hl, r⟩ := h2
        rw [Vals.ref1 rxs]
        exact srt_dict hc hu G I hp (by rw [← r.length]; exact hl) e2 fun b ws hb rw => a.newL G rw b hb
      | [], e2, ho => cases ho
      | (_ :: _) :: _, e2, ho => cases ho
  | int =>
    match ds, ho with
    | [.int i], ho =>
      simp only [biD, Option.some.injEq] at ho; subst ho
      obtain ⟨x, rfl, h2⟩ := rx1 h1
      exact call_int1 pins s σ H _ us Q I rxs (.inl ⟨i, by rw [rt_int h2], a.int G⟩)
    | [.bl i], ho =>
      simp only [biD, Option.some.injEq] at ho; subst ho
      obtain ⟨x, rfl, h2⟩ := rx1 h1
      exact call_int1 pins s σ H _ us Q I rxs (.inr ⟨i, by rw [rt_bl h2], a.int G⟩)
  | str =>
    match ds, ho with
    | [.int i], ho =>
      simp only [biD] at ho
      split at ho
      · rename_i hi
        simp only [Option.some.injEq] at ho; subst ho
        obtain ⟨x, rfl, h2⟩ := rx1 h1
        exact call_str_int pins s σ H _ us Q I rxs ⟨i, by rw [rt_int h2], log_of hi, a.str G⟩
      · cases ho
  | repr =>
    match ds, ho with
    | [d], ho =>
      simp only [biD] at ho
      split at ho
      · rename_i hi
        simp only [Option.some.injEq] at ho; subst ho
        rw [Bool.and_eq_true, decide_eq_true_eq] at hi
        obtain ⟨x, rfl, h2⟩ := rx1 h1
        cases rxs with
        | cons r rr =>
          cases rr
          exact call_repr hc hg hu I h2 r hi.1 hi.2 (a.str G)
      · cases ho
    | [], ho => simp [biD] at ho
    | _ :: _ :: _, ho => simp [biD] at ho
  | max =>
    match ds, ho with
    | [.int i, .int j], ho =>
      simp only [biD, Option.some.injEq] at ho; subst ho
      obtain ⟨x, z, rfl, h2, h3⟩ := rx2 h1
      exact call_max2 hc pins s σ H _ us Q I rxs ⟨i, j, by rw [rt_int h2, rt_int h3], a.int G⟩
    | [.lst ds], ho =>
      simp only [biD] at ho
      obtain ⟨l, e, ho⟩ := Option.bind_eq_some_iff.mp ho
      obtain ⟨x, rfl, h2⟩ := rx1 h1
      obtain ⟨p, vs, rfl, hp, r⟩ := rt_lst h2
      obtain ⟨_, ev⟩ := ints_rep r e
      subst ev
      cases l with
      | nil => cases ho
      | cons k l =>
        cases ho
        rw [Vals.ref1 rxs]
        exact top_ints hc hu I (.inl (.inl (.inl hp))) (a.int G)
    | [.tup ds], ho =>
      simp only [biD] at ho
      obtain ⟨l, e, ho⟩ := Option.bind_eq_some_iff.mp ho
      obtain ⟨x, rfl, h2⟩ := rx1 h1
      obtain ⟨p, vs, rfl, hp, r⟩ := rt_tup h2
      obtain ⟨_, ev⟩ := ints_rep r e
      subst ev
      cases l with
      | nil => cases ho
      | cons k l =>
        cases ho
        rw [Vals.ref1 rxs]
        exact top_ints hc hu I (.inr hp) (a.int G)
  | min =>
    match ds, ho with
    | [.int i, .int j], ho =>
      simp only [biD, Option.some.injEq] at ho; subst ho
      obtain ⟨x, z, rfl, h2, h3⟩ := rx2 h1
      exact call_min2 hc pins s σ H _ us Q I rxs ⟨i, j, by rw [rt_int h2, rt_int h3], a.int G⟩
    | [.lst ds], ho =>
      simp only [biD] at ho
      obtain ⟨x, rfl, h2⟩ := rx1 h1
      obtain ⟨p, vs, rfl, hp, r⟩ := rt_lst h2
      cases e : ints? ds with
      | none =>
        rw [e] at ho
        obtain ⟨l, e2, ho2⟩ := Option.bind_eq_some_iff.mp (show (tups? ds).bind lowL = some o from ho)
        clear ho
        cases tups_of e2
        cases l with
        | nil => cases ho2
        | cons k l =>
          cases ho2
          rw [Vals.ref1 rxs]
          exact low_tups hc hu I hp r fun v hv => a.tupV G hv
      | some l =>
        rw [e] at ho
        obtain ⟨_, ev⟩ := ints_rep r e
        subst ev
        cases l with
        | nil => cases ho
        | cons k l =>
          cases ho
          rw [Vals.ref1 rxs]
          exact low_ints hc hu I (.inl (.inl hp)) (a.int G)
  | all =>
    match ds, ho with
    | [.lst ds], ho =>
      simp only [biD] at ho
      cases e : bools? ds with
      | none => rw [e] at ho; cases ho
      | some ns =>
        rw [e] at ho
        simp only [Option.map_some, Option.some.injEq] at ho; subst ho
        obtain ⟨x, rfl, h2⟩ := rx1 h1
        obtain ⟨p, vs, rfl, hp, r⟩ := rt_lst h2
        have ev := bools_rep r e
        subst ev
        exact cr_all hc pins s σ H _ us Q I rxs ⟨p, ns, rfl, .inl (.inl hp), a.bl G⟩

/-! ## isinstance -/
def Ty.nm : Ty → String
  | .int => "int" | .bool => "bool" | .tuple => "tuple" | .list => "list" | .str => "str" | .dict => "dict"
def rIsiB (K : PySem.W.Frag) (t : Ty) : List V → Hp → VK → Prop := fun xs H Q => ∃ y g d b x, Good K y H g ∧ RepT K y H d x ∧ xs = [x, .ty t.nm] ∧ isTy d t = some b ∧ Q (.bl b) H
theorem tyx_of {K : PySem.W.Frag} {y : Gh} {H : Hp} {d : D} {v : V} {t : Ty} {b : Bool} (h : RepT K y H d v) (e : isTy d t = some b) : ∃ T : String, TyX K H v (.type T) ∧ PySem.W.kitOne K (.type T) (.type t.nm) = some b := by
  cases d with
  | non => rw [rt_non h]; refine ⟨"NoneType", .base .non, ?_⟩; simp only [isTy, Option.some.injEq] at e; subst e; cases t <;> rfl
  | bl b => rw [rt_bl h]; refine ⟨"bool", .base (.bl _), ?_⟩; simp only [isTy, Option.some.injEq] at e; subst e; cases t <;> rfl
  | int b => rw [rt_int h]; refine ⟨"int", .base (.int _), ?_⟩; simp only [isTy, Option.some.injEq] at e; subst e; cases t <;> rfl
  | str b => rw [rt_str h]; refine ⟨"str", .base (.str _), ?_⟩; simp only [isTy, Option.some.injEq] at e; subst e; cases t <;> rfl
  | lst ds => obtain ⟨p, vs, rfl, hp, _⟩ := rt_lst h; refine ⟨"list", .base (.lst hp), ?_⟩; simp only [isTy, Option.some.injEq] at e; subst e; cases t <;> rfl
  | dct ks ds => obtain ⟨p, vs, rfl, _, hp, _⟩ := h; refine ⟨"dict", (by cases ks with | k ks => exact .base (.dK hp) | t ks => exact .base (.dT hp)), ?_⟩; simp only [isTy, Option.some.injEq] at e; subst e; cases t <;> rfl
  | tup ds =>
    obtain ⟨p, vs, rfl, hp, _⟩ := rt_tup h
    have e2 : PySem.W.kitOne K (.type "tuple") (.type t.nm) = some b := by
      simp only [isTy, Option.some.injEq] at e; subst e; cases t <;> rfl
    rcases hp with (hp | ⟨o, hp⟩) | ⟨o, its, n, hk, hc, _⟩
    · exact ⟨"tuple", .base (.tup hp), e2⟩
    · exact ⟨"tuple", .fTuple hp, e2⟩
    · exact ⟨"tuple", .kTuple hk hc, e2⟩
  | ref n => simp [isTy] at e
  | scr n => simp [isTy] at e
theorem call_isiB (t : Ty) : CallR X (.builtin "isinstance") (rIsiB X.K t) := by
  intro pins s σ H xs us Q I r h
  obtain ⟨y, g, d, b, x, G, h1, e1, e2, q⟩ := h
  obtain ⟨T, k1, k2⟩ := tyx_of h1 e2
  exact call_isi pins s σ H xs us Q I r ⟨x, .ty t.nm, .type T, .type t.nm, b, e1, .ty _, k1, k2, q⟩
end
end Bk
end
section
set_option Elab.async false
set_option linter.all false
set_option maxRecDepth 100000
set_option maxHeartbeats 4000000
namespace Bk
open PySem PySem.Spec PyProof.Rows L2 RZ

/-! ## enumerate over a tuple -/
def IteT (K : PySem.W.Frag) (a : Addr) : It :=
  ⟨fun i H => ∃ (xs : List V) (x : V), SqT K H a xs ∧ xs[i]? = some x, fun i H v H' => ∃ T x, v = .ref T ∧ H T = none ∧ H' = upd H T (.tup [.int (i : Nat), x]) ∧ ∀ xs, SqT K H a xs → xs[i]? = some x, fun i H => ∃ xs : List V, SqT K H a xs ∧ xs.length ≤ i⟩
theorem apart_ti {h : Heap} {a it : Addr} {its : Array Value} {i : Nat} (t : h.IsTuple a its) (q : h.IsTupleIter it a i) : a ≠ it := fun e => by
  subst e
  obtain ⟨o, e1, _, n, d1⟩ := t
  obtain ⟨o', e2, _, d2⟩ := q
  rw [e1] at e2; cases e2
  rw [d1] at d2; cases d2
theorem turn_enumT {P : Program} {w : World} {K : PySem.W.Frag} {elts : List Expr} {kk : Nat} {tpos : Pos} (a e it : Addr) :
    Turn P w K (.Tuple elts kk tpos) (IteT K a) [e, it] e (fun i h => (∃ old, IsEnum h e it ((i : Nat) : Int) old) ∧ h.IsTupleIter it a i ∧ e ≠ it ∧ e ≠ a) where
  mem := by simp
  obj := fun i h st b hb => by
    obtain ⟨⟨old, he⟩, ⟨o, ho, hc, hd⟩, _⟩ := st
    have e' : b = e ∨ b = it := by simpa using hb
    rcases e' with z | z
    · rw [z]; exact ⟨_, he, fun v q => nomatch q⟩
    · rw [z]; exact ⟨o, ho, fun v q => by rw [hd] at q; cases q⟩
  keep := fun i h h' st k => let ⟨⟨old, he⟩, hi, hne, hea⟩ := st; ⟨⟨old, k e (by simp) _ he⟩, hi.at fun o q => k it (by simp) o q, hne, hea⟩
  item := by
    intro X hP hw hK hc i pins s σ H E I hf st hg
    subst hP hw hK
    obtain ⟨⟨old, he⟩, hit, hne, hea⟩ := st
    obtain ⟨xs, x, hq, hx⟩ := hg
    obtain ⟨its, rv, p, hz⟩ := I.tuple hq
    obtain ⟨u, hu, ru⟩ := rv.get hx
    have p : s.heap.IsTuple a its.toArray := p
    have hel : e < s.heap.objs.size := Heap.lt_size he
    have hil : it < s.heap.objs.size := by obtain ⟨_, q, _⟩ := hit; exact Heap.lt_size q
    have hai := apart_ti p hit
    have D := Draws.tuple (prog := X.prog) (w := X.w) (A := X.A.in1) (I.ok.hd hc) it a hai its.toArray
    have hl : i < its.toArray.size := by
      have := (List.getElem?_eq_some_iff.mp hu).1
      simpa using this
    refine wpAny_pyNext_enum_itemC D he ⟨hit, p⟩ hl hne (by simp [hne, hea]) fun v h' tk hP ho hst' hT hsz hk => ?_
    have ev : v = u := by
      have hP' : its.toArray[i]? = some v := hP
      have hu' : its.toArray[i]? = some u := by simpa using hu
      rw [hu'] at hP'; cases hP'; rfl
    subst ev
    refine ⟨_, rfl, wpAny_letOwnedTupleGo_enum (s := { s with heap := h', toks := tk + 1 }) ho fun h'' he' sb => ?_⟩
    have hT2 : h''.get? s.heap.objs.size = some { cls := .type "tuple", data := .seq #[.int i tk, v] } := (sb.2 _ (Nat.ne_of_gt hel)).trans hT
    have new : ObjOk X.prog X.w (upd H s.heap.objs.size (.tup [.int (i : Nat), x])) h'' s.heap.objs.size (.tup [.int (i : Nat), x]) :=
      ⟨by show 2 ≤ sizeLine; decide, [.int i tk, v], .cons ⟨_, rfl⟩ (.cons ru .nil), ⟨_, hT2, rfl, _, rfl⟩⟩
    have I1 : Inv X pins σ (upd H s.heap.objs.size (.tup [.int (i : Nat), x])) { s with heap := h'', toks := tk + 1 } :=
      I.turnedNew (ch := [e, it]) (fun b ob hb q => (sb.2 b (fun z => hb (by simp [z]))).trans (hk b ob (fun z => hb (by simp [z])) (fun z => hb (by simp [z])) q)) hf (Nat.le_refl _) new
    refine ⟨.ref s.heap.objs.size, _, I1, rfl, ⟨_, x, rfl, I.hok.fresh (Nat.le_refl _), rfl, fun ys hy => by rw [I.tuple_inj hy hq]; exact hx⟩, ⟨⟨v, ?_⟩, hst'.1.at fun o q => (sb.2 it (Ne.symm hne)).trans q, hne, hea⟩, fun b hb => ?_⟩
    · have e1 : ((i + 1 : Nat) : Int) = (i : Int) + 1 := by omega
      rw [e1]; exact he'
    · have hb' : b < s.heap.objs.size := by
        have e' : b = e ∨ b = it := by simpa using hb
        rcases e' with z | z
        · rw [z]; exact hel
        · rw [z]; exact hil
      rw [upd_ne (Nat.ne_of_lt hb')]
      exact (hf b hb).1
  done := by
    intro X hP hw hK hc i pins s σ H E I hf st hg
    subst hP hw hK
    obtain ⟨⟨old, he⟩, hit, hne, hea⟩ := st
    obtain ⟨xs, hq, hx⟩ := hg
    obtain ⟨its, rv, p, hz⟩ := I.tuple hq
    have p : s.heap.IsTuple a its.toArray := p
    have hl := rv.length
    have hT : s.TypeIs (.ref e) "enumerate" := ⟨_, he, rfl⟩
    unfold pyNext
    refine wpAny_bind (wpAny_attempt (wpAny_callSpecial?_slot (name := Str.ofString "__next__") hT F.slot_enumerate_next
      (wpAny_call_entry F.slot_enumerate_next hT F.entry_enumerate_next ?_ (F.args_enumerate_next_1 _))))
    show wpAny _ _ (field (.ref e) 2 >>= _) _ _ _
    refine wpAny_bind (wpAny_field he rfl (x := .ref it) rfl ?_)
    refine wpAny_bind (wpAny_nextOf_tuple_end (I.ok.hd hc) hit p (by simp; omega) fun h' x he' hx' => ?_)
    obtain ⟨o, ho, hc'⟩ := hx'
    refine wpAny_bind (wpAny_isInstance (T := "StopIteration") (b := true) ⟨o, ho, hc'⟩ isSubtype_stop ?_)
    obtain ⟨f0, f1, f2, f3, f4, f5⟩ := hf it (by simp)
    exact wpAny_pure ⟨rfl, I.turned (t' := s.toks) (fun b o hb q => he' b o hb q) f0 f1 f3 f4 f5⟩
  self := fun A i s Q E st h => let ⟨⟨_, he⟩, _⟩ := st; wpAny_pyIter_enum he h

theorem meets_enumB1 {v : Value} {o : Obj} {H : Heap → Prop} (B : Begins v o H) :
    Meets (Builtin.«enumerate.__new__» ⟨[.type "enumerate", v], []⟩) (fun _ R s => H s.heap ∧
      R (.ok (.ret (.ref (s.heap.push o).objs.size))) { s with heap := (s.heap.push o).push { cls := .type "enumerate", data := .fields #[.none, .bool false, .ref s.heap.objs.size, rawInt 0, .none, .none] } }) :=
  .of_wp fun prog w A R s h => by
    obtain ⟨hp, g, d, tk, os⟩ := s; obtain ⟨h1, h⟩ := h
    have hsub := sub_enumerate
    have q1 : ∀ {A' : Around} {E : Value → Shared → Prop} {Q : Value → Shared → Prop}, Q (.ref hp.objs.size) ⟨hp.push o, g, d, tk, os⟩ → wpAny (model prog w) A' (pyIter v) Q E ⟨hp, g, d, tk, os⟩ :=
      fun q => B.iter prog w _ _ ⟨hp, g, d, tk, os⟩ _ h1 q
    wp_walk using q1
    refine wpAny_stack_any fun st => wpAny_pure ?_
    split
    · rename_i c _ _ _ _ _
      cases (c == Value.type "enumerate")
      · wp_walk using q1
        exact ⟨_, rfl, h⟩
      · wp_walk using q1
        exact ⟨_, rfl, h⟩
    · wp_walk using q1
      exact ⟨_, rfl, h⟩
theorem call_enumT {prog : Program} {w : World} {A : Around} {E : Value → Shared → Prop} {s : Shared} {a : Addr} {its : Array Value} {Q : Value → Shared → Prop} (h1 : s.heap.IsTuple a its)
    (h : ∀ h', IsEnum h' (s.heap.objs.size + 1) s.heap.objs.size 0 .none → h'.IsTupleIter s.heap.objs.size a 0 →
      (∀ b o, s.heap.get? b = some o → h'.get? b = some o) → Q (.ref (s.heap.objs.size + 1)) { s with heap := h' }) :
    wpAny (model prog w) A (call (.type "enumerate") [.ref a]) Q E s := by
  have B := begins_tuple a its
  refine callType_new F.called_enumerate (by decide) (F.typeCall_enumerate_1 _) (F.newCall_enumerate_1 _) (fun obj => F.args_object_init_2 obj _) F.entry_enumerate_new
    (meets_enumB1 B) ⟨h1, ?_⟩
  generalize ho : ({ cls := .type "tuple_iterator", data := .fields #[.ref a, .int 0 0] } : Obj) = o
  have hf : o.isFreed = false := by rw [← ho]; rfl
  have hz : (s.heap.push o).objs.size = s.heap.objs.size + 1 := Heap.size_push ..
  show _ ∧ _
  rw [hz]
  have he : IsEnum ((s.heap.push o).push { cls := .type "enumerate", data := .fields #[.none, .bool false, .ref s.heap.objs.size, rawInt 0, .none, .none] }) (s.heap.objs.size + 1) s.heap.objs.size 0 .none := by
    have := Heap.get?_push_size (s.heap.push o) (o := { cls := .type "enumerate", data := .fields #[.none, .bool false, .ref s.heap.objs.size, rawInt 0, .none, .none] }) rfl
    rw [hz] at this; exact this
  refine ⟨⟨_, he, rfl⟩, h _ he ⟨o, Heap.get?_push_of_some _ (Heap.get?_push_size _ hf), by rw [← ho], by rw [← ho]; rfl⟩ fun b o x => Heap.get?_push_of_some _ (Heap.get?_push_of_some _ x)⟩

/-! ## what is walked -/
section
variable (K : PySem.W.Frag)
/-- J gives the values xs, from (y, H) on, in all states that R reaches -/
def WOf (R : Gh → Hp → Prop) (J : It) (xs : List D) : Prop := ∃ (G : Hp → Prop) (Y : Nat → Hp → V → Hp → Prop), Walk J xs.length G Y ∧ (∀ y2 H2, R y2 H2 → G H2) ∧
  ∀ y2 H2 g2 i x H3, R y2 H2 → Good K y2 H2 g2 → i < xs.length → Y i H2 x H3 → Ext y2 H2 y2 H3 ∧ Good K y2 H3 g2 ∧ ∃ d, xs[i]? = some d ∧ Rep K y2 H3 d x
/-- what a comprehension may reach; what a for may -/
def RchX (t : Bool) (y : Gh) (H : Hp) (y2 : Gh) (H2 : Hp) : Prop := if t then Ext y H y2 H2 else Evo y H y2 H2
end
section
variable {K : PySem.W.Frag} {y : Gh} {H : Hp} {t : Bool}
theorem RchX.reps {y2 : Gh} {H2 : Hp} (r : RchX t y H y2 H2) {ds : List D} {vs : List V} (h : Reps K y H ds vs) : Reps K y2 H2 ds vs := by
  cases t
  · exact Reps.monoS (show Evo y H y2 H2 from r) ds vs h
  · exact Reps.mono (show Ext y H y2 H2 from r) ds vs h
theorem RchX.refl : RchX t y H y H := by
  cases t
  · exact Evo.refl y H
  · exact Ext.refl y H
theorem lstAt {ds : List D} {v : V} (h : RepX K t y H (.lst ds) v) : ∃ a vs, v = .ref a ∧ Reps K y H ds vs ∧ ∀ y2 H2, RchX t y H y2 H2 → SqL K H2 a vs := by
  cases t
  · have h : Rep K y H (.lst ds) v := h
    simp only [Rep] at h
    obtain ⟨a, vs, e, n, h1, h2⟩ := h
    exact ⟨a, vs, e, h2, fun y2 H2 r => .inl (.inl ((show Evo y H y2 H2 from r).at n h1).2)⟩
  · obtain ⟨a, vs, e, n, h1, h2⟩ := (h : RepT K y H (.lst ds) v)
    exact ⟨a, vs, e, h2, fun y2 H2 r => .inl (.inl ((show Ext y H y2 H2 from r).keep _ _ h1 n))⟩
theorem tupAt {ds : List D} {v : V} (h : RepX K t y H (.tup ds) v) : ∃ a vs, v = .ref a ∧ Reps K y H ds vs ∧ ∀ y2 H2, RchX t y H y2 H2 → SqT K H2 a vs := by
  have h : Rep K y H (.tup ds) v := by cases t <;> exact h
  simp only [Rep] at h
  obtain ⟨a, vs, e, h1, h2⟩ := h
  refine ⟨a, vs, e, h2, fun y2 H2 r => ?_⟩
  cases t
  · exact ((show Evo y H y2 H2 from r).tup h1).sq
  · exact ((show Ext y H y2 H2 from r).tup h1).sq
theorem seqAt {d : D} {xs : List D} {v : V} (hd : items d = some xs) (h : RepX K t y H d v) : ∃ a vs, v = .ref a ∧ Reps K y H xs vs ∧
    ((∀ y2 H2, RchX t y H y2 H2 → SqL K H2 a vs) ∨ ∀ y2 H2, RchX t y H y2 H2 → SqT K H2 a vs) := by
  cases d with
  | lst ds =>
    simp only [items, Option.some.injEq] at hd; subst hd
    obtain ⟨a, vs, e, h1, h2⟩ := lstAt h
    exact ⟨a, vs, e, h1, .inl h2⟩
  | tup ds =>
    simp only [items, Option.some.injEq] at hd; subst hd
    obtain ⟨a, vs, e, h1, h2⟩ := tupAt h
    exact ⟨a, vs, e, h1, .inr h2⟩
  | _ => simp [items] at hd
/-- the ghost itself, or one more address owned that is free yet -/
def OffOf (y : Gh) (H : Hp) (y0 : Gh) : Prop := y0 = y ∨ ∃ p, H p = none ∧ y0 = y.off p
theorem OffOf.reps {y0 : Gh} (o : OffOf y H y0) {ds : List D} {vs : List V} (h : Reps K y H ds vs) : Reps K y0 H ds vs := by
  rcases o with rfl | ⟨p, hp, rfl⟩
  · exact h
  · exact Reps.off0 hp _ _ h
theorem OffOf.rch {y0 y2 : Gh} {H2 : Hp} (o : OffOf y H y0) (h : RchX t y0 H y2 H2) : ∃ y3, RchX t y H y3 H2 := by
  rcases o with rfl | ⟨p, hp, rfl⟩
  · exact ⟨y2, h⟩
  · cases t
    · have h : Evo (y.off p) H y2 H2 := h
      refine ⟨y2.back y.W, (⟨h.eA, h.pre, fun a u h1 h2 h3 => h.keep a u h1 h2 fun z => ?_, h.dom, fun a w => .inl w⟩ : Evo y H (y2.back y.W) H2)⟩
      rcases z with z | z
      · exact h3 z
      · exact ne_of_none h1 hp z
    · have h : Ext (y.off p) H y2 H2 := h
      exact ⟨y2.back y.W, (⟨h.eA, rfl, h.pre, h.keep, h.dom⟩ : Ext y H (y2.back y.W) H2)⟩
def WOf2 (K : PySem.W.Frag) (t : Bool) (y : Gh) (H : Hp) (J : It) (xs : List D) : Prop := ∀ y0, OffOf y H y0 → WOf K (RchX t y0 H) J xs
theorem wof_at {J : It} {xs : List D} {vs : List V} (h : Reps K y H xs vs) {G : Hp → Prop} (w : Walk J vs.length G (YAt vs)) (hG : ∀ y2 H2, RchX t y H y2 H2 → G H2) : WOf2 K t y H J xs := by
  intro y0 o
  have h := o.reps h
  refine ⟨G, YAt vs, by rw [h.length]; exact w, fun y2 H2 r => (o.rch r).elim fun y3 r => hG y3 H2 r, fun y2 H2 g2 i x H3 r G2 hi hy => ?_⟩
  obtain ⟨e, ex⟩ := hy
  subst e
  obtain ⟨d, h1, h2⟩ := (r.reps h).get ex
  exact ⟨Ext.refl _ _, G2, d, h1, h2⟩
theorem pair_ext {y2 : Gh} {H2 : Hp} {g2 : List O} {T : Addr} {x z : V} {d e : D} (G2 : Good K y2 H2 g2) (hT : H2 T = none) (h1 : Rep K y2 H2 d x) (h2 : Rep K y2 H2 e z) :
    Ext y2 H2 y2 (upd H2 T (.tup [x, z])) ∧ Good K y2 (upd H2 T (.tup [x, z])) g2 ∧ Rep K y2 (upd H2 T (.tup [x, z])) (.tup [d, e]) (.ref T) := by
  refine ⟨ext_new hT, G2.new hT, ?_⟩
  simp only [Rep]
  exact ⟨T, [x, z], rfl, ⟨G2.free hT, upd_same⟩, Reps.mono (ext_new hT) _ _ (.cons h1 (.cons h2 .nil))⟩
theorem wof_pair {J : It} {xs es : List D} {vs ws : List V} {n : Nat} (h : Reps K y H xs vs) (h' : Reps K y H es ws) (hn : n = min vs.length ws.length) {G : Hp → Prop} (w : Walk J n G (YPair (fun i => vs[i]?) fun i => ws[i]?)) (hG : ∀ y2 H2, RchX t y H y2 H2 → G H2) :
    WOf2 K t y H J ((xs.zip es).map fun p => .tup [p.1, p.2]) := by
  intro y0 o
  have h := o.reps h
  have h' := o.reps h'
  refine ⟨G, _, by rw [List.length_map, List.length_zip, h.length, h'.length, ← hn]; exact w, fun y2 H2 r => (o.rch r).elim fun y3 r => hG y3 H2 r, fun y2 H2 g2 i x H3 r G2 hi hy => ?_⟩
  obtain ⟨T, x1, x2, e1, e2, e3, e4, e5⟩ := hy
  subst e1 e3
  obtain ⟨d, h1, h2⟩ := (r.reps h).get e4
  obtain ⟨d', h1', h2'⟩ := (r.reps h').get e5
  obtain ⟨q1, q2, q3⟩ := pair_ext G2 e2 h2 h2'
  exact ⟨q1, q2, _, by rw [List.getElem?_map, List.getElem?_zip_eq_some (z := (d, d')) |>.mpr ⟨h1, h1'⟩]; rfl, q3⟩
theorem wof_enum {J : It} {xs : List D} {vs : List V} (h : Reps K y H xs vs) {G : Hp → Prop} (w : Walk J vs.length G (YPair (fun i => some (.int (i : Nat))) fun i => vs[i]?)) (hG : ∀ y2 H2, RchX t y H y2 H2 → G H2) :
    WOf2 K t y H J (xs.zipIdx.map fun p => .tup [.int (p.2 : Nat), p.1]) := by
  intro y0 o
  have h := o.reps h
  refine ⟨G, _, by rw [List.length_map, List.length_zipIdx, h.length]; exact w, fun y2 H2 r => (o.rch r).elim fun y3 r => hG y3 H2 r, fun y2 H2 g2 i x H3 r G2 hi hy => ?_⟩
  obtain ⟨T, x1, x2, e1, e2, e3, e4, e5⟩ := hy
  subst e1 e3
  cases e4
  obtain ⟨d, h1, h2⟩ := (r.reps h).get e5
  obtain ⟨q1, q2, q3⟩ := pair_ext (d := .int (i : Nat)) (x := .int (i : Nat)) G2 e2 (by simp only [Rep]) h2
  refine ⟨q1, q2, _, ?_, q3⟩
  rw [List.getElem?_map, List.getElem?_zipIdx, h1]
  simp
theorem wof_fn {J : It} {n : Nat} {f : Nat → Int} (w : Walk J n (fun _ => True) (YFn fun i => .int (f i))) : WOf2 K t y H J ((List.range n).map fun i => .int (f i)) := by
  intro y0 o
  refine ⟨_, _, by rw [List.length_map, List.length_range]; exact w, fun _ _ _ => trivial, fun y2 H2 g2 i x H3 r G2 hi hy => ?_⟩
  obtain ⟨e1, e2⟩ := hy
  subst e1 e2
  rw [List.length_map, List.length_range] at hi
  exact ⟨Ext.refl _ _, G2, .int (f i), by rw [List.getElem?_map, List.getElem?_range hi]; rfl, by simp only [Rep]⟩
end

/-! ## the readings of iterables -/
section
variable (K : PySem.W.Frag) (mg : Str → Option Value) (W : WX)
abbrev tI (t : Bool) (F : List Slot → List O → Res (List D)) : TI := tG K mg W (fun y H xs J => WOf2 K t y H J xs) F
end
theorem lift_get {α : Type} {K : PySem.W.Frag} {mg : Str → Option Value} {W : WX} {β : Type} {P : Gh → Hp → α → β → Prop} {y : Gh} {σ : L2.St} {H : Hp} {Q : β → Hp → Prop} {o : Option α} {g : List O} (h : PostG K mg W P y σ H Q (lift o g)) :
    ∃ a, o = some a ∧ PostG K mg W P y σ H Q (.ok a g) := by
  cases o with
  | none => exact h.elim
  | some a => exact ⟨a, rfl, h⟩
section
variable {X : Cx} {W : WX} {t : Bool} {tg : Expr}
theorem walk_enumT {K : PySem.W.Frag} {a : Addr} {xs : List V} : Walk (IteT K a) xs.length (fun H => SqT K H a xs) (YPair (fun i => some (.int (i : Nat))) (fun i => xs[i]?)) := by
  refine ⟨fun i _ hi q => ⟨xs, xs[i], q, by simp [hi]⟩, fun _ q => ⟨xs, q, Nat.le_refl _⟩, fun i H v H' _ q y => ?_⟩
  obtain ⟨T, x, h1, h2, h3, h4⟩ := y
  exact ⟨T, .int (i : Nat), x, h1, h2, h3, rfl, h4 xs q⟩
theorem walk_zipT {K : PySem.W.Frag} {a b : Addr} {xs ys : List V} {n : Nat} (hn : n = min xs.length ys.length) : Walk (ItzT K a b) n (fun H => SqT K H a xs ∧ SqT K H b ys) (YPair (fun i => xs[i]?) (fun i => ys[i]?)) := by
  subst hn
  refine ⟨fun i _ hi q => ?_, fun _ q => ⟨xs, ys, q.1, q.2, by omega⟩, fun i H v H' _ q y => ?_⟩
  · have h1 : i < xs.length := by omega
    have h2 : i < ys.length := by omega
    exact ⟨xs, ys, xs[i], ys[i], q.1, q.2, by simp [h1], by simp [h2]⟩
  · obtain ⟨T, x, z, h1, h2, h3, h4, h5⟩ := y
    exact ⟨T, x, z, h1, h2, h3, h4 xs q.1, h5 ys q.2⟩
theorem pi_seqB {e : Expr} {Fe : List Slot → List O → Res D} (he : PE X e (tE X.K X.mg W t Fe)) : PI X tg e (tI X.K X.mg W t fun r g => (Fe r g).bind fun d g => lift (iterD .seq [d]) g) := by
  refine ⟨fun pins s σ H R I h => ?_⟩
  have h2 : (tE X.K X.mg W t Fe) σ H (fun x H1 => ∃ a vs, x = V.ref a ∧ ((SqL X.K H1 a vs ∧ R (Itl X.K a) H1) ∨ (SqT X.K H1 a vs ∧ R (Itt X.K a) H1))) := tG.bind h fun y r d g v H1 _ G p q => by
    obtain ⟨xs, e1, q⟩ := lift_get q
    obtain ⟨a, vs, rfl, h1, h2⟩ := seqAt e1 p
    rcases h2 with h2 | h2
    · exact ⟨a, vs, rfl, .inl ⟨h2 _ _ RchX.refl, q y H1 _ (Ext.refl _ _) G (wof_at h1 walk_list h2)⟩⟩
    · exact ⟨a, vs, rfl, .inr ⟨h2 _ _ RchX.refl, q y H1 _ (Ext.refl _ _) G (wof_at h1 walk_tup h2)⟩⟩
  refine thn (he.run pins s σ H _ I h2) fun v s1 ⟨x, H1, I1, r1, a, vs, e1, q⟩ => ?_
  subst e1
  cases r1
  have fp : ∀ b ∈ [s1.heap.objs.size], FpOk X pins H1 b := fun b hb => by
    have e : b = s1.heap.objs.size := by simpa using hb
    subst e
    exact I1.fpOk (Nat.le_refl _) (I1.hok.fresh (Nat.le_refl _))
  rcases q with ⟨q1, q⟩ | ⟨q1, q⟩
  · obtain ⟨its, rv, p, hz⟩ := I1.list q1
    exact wpAny_pyIter_list p.isList ⟨s1.heap.objs.size, [s1.heap.objs.size], _, _, H1, rfl, I1.kept (t' := s1.toks) fun b o e => Heap.get?_push_of_some _ e, turn_list a _, ⟨_, Heap.get?_push_size _ rfl, rfl, rfl⟩, fp, q⟩
  · obtain ⟨its, rv, p, hz⟩ := I1.tuple q1
    exact wpAny_pyIter_tuple (show s1.heap.IsTuple a its.toArray from p) ⟨s1.heap.objs.size, [s1.heap.objs.size], _, _, H1, rfl, I1.kept (t' := s1.toks) fun b o e => Heap.get?_push_of_some _ e, turn_tuple a _, ⟨_, Heap.get?_push_size _ rfl, rfl, rfl⟩, fp, q⟩
theorem rx_int1 {K : PySem.W.Frag} {y : Gh} {H : Hp} {j : Int} {vs : List V} (h : RepsX K t y H [.int j] vs) : vs = [.int j] := by
  obtain ⟨v, ws, rfl, h1, h2⟩ := h
  have h2 : ws = [] := h2
  subst h2
  have e : v = .int j := by cases t <;> simpa only [RepX, RepT, Rep, if_true, Bool.false_eq_true, if_false] using h1
  rw [e]
theorem rx_one {K : PySem.W.Frag} {y : Gh} {H : Hp} {d : D} {vs : List V} (h : RepsX K t y H [d] vs) : ∃ v, vs = [v] ∧ RepX K t y H d v := by
  obtain ⟨v, ws, rfl, h1, h2⟩ := h
  have h2 : ws = [] := h2
  subst h2
  exact ⟨v, rfl, h1⟩
theorem rx_two {K : PySem.W.Frag} {y : Gh} {H : Hp} {d e : D} {vs : List V} (h : RepsX K t y H [d, e] vs) : ∃ v w, vs = [v, w] ∧ RepX K t y H d v ∧ RepX K t y H e w := by
  obtain ⟨v, ws, rfl, h1, h2⟩ := h
  obtain ⟨w, rfl, h3⟩ := rx_one h2
  exact ⟨v, w, rfl, h1, h3⟩
theorem rx_intv {K : PySem.W.Frag} {y : Gh} {H : Hp} {j : Int} {v : V} (h1 : RepX K t y H (.int j) v) : v = .int j := by
  cases t <;> simpa only [RepX, RepT, Rep, if_true, Bool.false_eq_true, if_false] using h1
theorem pi_rangeB {a : Expr} {Fa : List Slot → List O → Res (List D)} {p pos : Pos} (hg : Gl X "range") (hm : X.mg "range" = none) (ha : PA X [a] (tA X.K X.mg W t Fa)) (hs : starEach [a] X.env = [(false, eval a X.env)]) :
    PI X tg (.Call (.Name "range" p) [a] [] pos) (tI X.K X.mg W t fun r g => (Fa r g).bind fun ds g => lift (iterD .range ds) g) := by
  refine ⟨fun pins s σ H R I h => (pi_range1 hg hm ha hs).run pins s σ H R I ?_⟩
  refine tG.bind h fun y r ds g vs H1 _ G p q => ?_
  obtain ⟨xs, e1, q⟩ := lift_get q
  match ds, e1 with
  | [.int j], e1 =>
    simp only [iterD] at e1
    split at e1
    · rename_i hj
      cases e1
      rw [rx_int1 p]
      refine ⟨j, rfl, by omega, by omega, q y H1 _ (Ext.refl _ _) G ?_⟩
      exact wof_fn (f := fun i => ((i : Nat) : Int)) ((walk_range (lo := 0)).mono (fun _ h => h) fun i H x H' _ _ y => ⟨y.1, by rw [y.2]; simp⟩)
    · cases e1
theorem pi_range2B {a b : Expr} {Fa : List Slot → List O → Res (List D)} {p pos : Pos} (hg : Gl X "range") (hm : X.mg "range" = none) (ha : PA X [a, b] (tA X.K X.mg W t Fa)) (hs : starEach [a, b] X.env = [(false, eval a X.env), (false, eval b X.env)]) (hs2 : starEach [b] X.env = [(false, eval b X.env)]) :
    PI X tg (.Call (.Name "range" p) [a, b] [] pos) (tI X.K X.mg W t fun r g => (Fa r g).bind fun ds g => lift (iterD .range2 ds) g) := by
  refine ⟨fun pins s σ H R I h => (pi_range2 hg hm ha hs hs2).run pins s σ H R I ?_⟩
  refine tG.bind h fun y r ds g vs H1 _ G p q => ?_
  obtain ⟨xs, e1, q⟩ := lift_get q
  match ds, e1 with
  | [.int i, .int j], e1 =>
    simp only [iterD] at e1
    split at e1
    · rename_i hj
      cases e1
      obtain ⟨v, w, rfl, p1, p2⟩ := rx_two p
      rw [rx_intv p1, rx_intv p2]
      exact ⟨i, j, rfl, by omega, q y H1 _ (Ext.refl _ _) G (wof_fn (f := fun k => i + ((k : Nat) : Int)) walk_range)⟩
    · cases e1
theorem pi_enumB {e : Expr} {Fa : List Slot → List O → Res (List D)} {p pos tpos : Pos} {elts : List Expr} {kk : Nat} (hg : Gl X "enumerate") (hm : X.mg "enumerate" = none) (ha : PA X [e] (tA X.K X.mg W t Fa)) (hs : starEach [e] X.env = [(false, eval e X.env)]) :
    PI X (.Tuple elts kk tpos) (.Call (.Name "enumerate" p) [e] [] pos) (tI X.K X.mg W t fun r g => (Fa r g).bind fun ds g => lift (iterD .enum ds) g) := by
  refine ⟨fun pins s σ H R I h => ?_⟩
  have h2 : (tA X.K X.mg W t Fa) σ H (fun vs H1 => ∃ a xs, vs = [V.ref a] ∧ ((SqL X.K H1 a xs ∧ R (Ite X.K a) H1) ∨ (SqT X.K H1 a xs ∧ R (IteT X.K a) H1))) := tG.bind h fun y r ds g vs H1 _ G p q => by
    obtain ⟨xs, e1, q⟩ := lift_get q
    match ds, e1 with
    | [d], e1 =>
      simp only [iterD] at e1
      cases hd : items d with
      | none => rw [hd] at e1; cases e1
      | some zs =>
        rw [hd] at e1
        simp only [Option.map_some, Option.some.injEq] at e1
        subst e1
        obtain ⟨v, rfl, p1⟩ := rx_one p
        obtain ⟨a, vs, rfl, h1, h2⟩ := seqAt hd p1
        rcases h2 with h2 | h2
        · exact ⟨a, vs, rfl, .inl ⟨h2 _ _ RchX.refl, q y H1 _ (Ext.refl _ _) G (wof_enum h1 walk_enum h2)⟩⟩
        · exact ⟨a, vs, rfl, .inr ⟨h2 _ _ RchX.refl, q y H1 _ (Ext.refl _ _) G (wof_enum h1 walk_enumT h2)⟩⟩
    | [], e1 => simp [iterD] at e1
    | _ :: _ :: _, e1 => simp [iterD] at e1
  refine Call_ (ld_blt I hg hm boot_enumerate (PyProof.Rows.callWith_type1 (thn (ha.run pos pins s σ H _ I h2) fun us s1 ⟨vs, H1, I1, r1, q1⟩ => ?_) hs rfl))
  obtain ⟨a, xs, ex, q1⟩ := q1
  subst ex
  cases r1 with
  | cons r rr =>
    cases rr
    cases r
    have fp : ∀ b ∈ [s1.heap.objs.size + 1, s1.heap.objs.size], FpOk X pins H1 b := fun b hb => by
      have e' : b = s1.heap.objs.size + 1 ∨ b = s1.heap.objs.size := by simpa using hb
      have hle : s1.heap.objs.size ≤ b := by
        rcases e' with z | z
        · rw [z]; exact Nat.le_add_right _ _
        · rw [z]; exact Nat.le_refl _
      exact I1.fpOk hle (I1.hok.fresh hle)
    rcases q1 with ⟨hq, q⟩ | ⟨hq, q⟩
    · obtain ⟨its, rv, p', hz⟩ := I1.list hq
      refine call_enumerate_list p'.isList fun h' he hit hsz hk => wpAny_pyIter_enum he ?_
      have I2 : Inv X pins σ H1 { s1 with heap := h' } := I1.kept (t' := s1.toks) hk
      exact ⟨s1.heap.objs.size + 1, [s1.heap.objs.size + 1, s1.heap.objs.size], _, _, H1, rfl, I2, turn_enum a (s1.heap.objs.size + 1) s1.heap.objs.size, ⟨⟨.none, he⟩, hit, Nat.succ_ne_self _⟩, fp, q⟩
    · obtain ⟨its, rv, p', hz⟩ := I1.tuple hq
      have p' : s1.heap.IsTuple a its.toArray := p'
      have la : a < s1.heap.objs.size := by obtain ⟨o, e, _⟩ := p'; exact Heap.lt_size e
      refine call_enumT p' fun h' he hit hk => wpAny_pyIter_enum he ?_
      have I2 : Inv X pins σ H1 { s1 with heap := h' } := I1.kept (t' := s1.toks) hk
      exact ⟨s1.heap.objs.size + 1, [s1.heap.objs.size + 1, s1.heap.objs.size], _, _, H1, rfl, I2, turn_enumT a (s1.heap.objs.size + 1) s1.heap.objs.size, ⟨⟨.none, he⟩, hit, Nat.succ_ne_self _, Nat.ne_of_gt (Nat.lt_succ_of_lt la)⟩, fp, q⟩
theorem pi_zipB {e e2 : Expr} {Fa : List Slot → List O → Res (List D)} {p pos tpos : Pos} {elts : List Expr} {kk : Nat} (hg : Gl X "zip") (hm : X.mg "zip" = none) (ha : PA X [e, e2] (tA X.K X.mg W t Fa))
    (hs : starEach [e, e2] X.env = (false, eval e X.env) :: starEach [e2] X.env) (hpl : (backTo pos (starEach [e2] X.env)).any (·.1) = false) :
    PI X (.Tuple elts kk tpos) (.Call (.Name "zip" p) [e, e2] [] pos) (tI X.K X.mg W t fun r g => (Fa r g).bind fun ds g => lift (iterD .zip ds) g) := by
  refine ⟨fun pins s σ H R I h => (pi_zipA hg hm ha hs hpl).run pins s σ H R I ?_⟩
  refine tG.bind h fun y r ds g vs H1 _ G p q => ?_
  obtain ⟨xs, e1, q⟩ := lift_get q
  match ds, e1 with
  | [.lst d, .lst d2], e1 =>
    simp only [iterD, Option.some.injEq] at e1
    subst e1
    obtain ⟨v, w, rfl, p1, p2⟩ := rx_two p
    obtain ⟨a, vs, rfl, h1, h2⟩ := lstAt p1
    obtain ⟨a', vs', rfl, h1', h2'⟩ := lstAt p2
    exact ⟨a, a', vs, vs', rfl, .inl ⟨h2 _ _ RchX.refl, h2' _ _ RchX.refl, q y H1 _ (Ext.refl _ _) G (wof_pair h1 h1' rfl (walk_zip rfl) fun y2 H2 r => ⟨h2 _ _ r, h2' _ _ r⟩)⟩⟩
  | [.tup d, .tup d2], e1 =>
    simp only [iterD, Option.some.injEq] at e1
    subst e1
    obtain ⟨v, w, rfl, p1, p2⟩ := rx_two p
    obtain ⟨a, vs, rfl, h1, h2⟩ := tupAt p1
    obtain ⟨a', vs', rfl, h1', h2'⟩ := tupAt p2
    exact ⟨a, a', vs, vs', rfl, .inr ⟨h2 _ _ RchX.refl, h2' _ _ RchX.refl, q y H1 _ (Ext.refl _ _) G (wof_pair h1 h1' rfl (walk_zipT rfl) fun y2 H2 r => ⟨h2 _ _ r, h2' _ _ r⟩)⟩⟩
end
end Bk
end
section
set_option Elab.async false
set_option linter.all false
set_option maxRecDepth 100000
set_option maxHeartbeats 4000000
namespace Bk
open PySem PySem.Spec PyProof.Rows L2 RZ

/-! ## own syntax against the program's -/
structure MT where
  N : List Str     -- the names by slot
  fs : Nat → Option Str    -- the functions by number
  gs : Nat → Option Str    -- the constants by number
def visB (sc : Scope) (x : Str) : Bool := match sc.names.lookup x with
  | some .local => true | some .cell => true | some .free => true | _ => false
def locB (sc : Scope) (x : Str) : Bool := match sc.names.lookup x with
  | some .local => true | some .cell => true | _ => false
def glB (sc : Scope) (x : Str) : Bool := match sc.names.lookup x with
  | some .globalImplicit => true | _ => false
def nmB (x : Str) : Bool := !(x == Str.ofString "__debug__") && !(x == Str.ofString "__classdict__") && !(x == Str.ofString "__name__")
def notStar : Expr → Bool
  | .Starred _ _ => false
  | _ => true
def notSet : Expr → Bool
  | .Set _ _ _ => false
  | _ => true
def notSl : Expr → Bool
  | .Slice _ _ _ _ => false
  | _ => true
def notTup : Expr → Bool
  | .Tuple _ _ _ => false
  | _ => true
def notLc : Expr → Bool
  | .ListComp _ _ _ _ => false | .SetComp _ _ _ _ => false | .DictComp _ _ _ _ _ => false
  | _ => true
/-- a test is asked by its value -/
def plainT : Expr → Bool
  | .UnaryOp .Not _ _ => false | .BoolOp _ _ _ => false | .IfExp _ _ _ _ => false | .Compare _ _ _ _ => false
  | _ => true
def rdB (T : MT) (sc : Scope) (i : Nat) (x : Str) : Bool := decide (T.N[i]? = some x) && visB sc x && nmB x
def bnB (sc : Scope) (s : String) (x : Str) : Bool := (x == Str.ofString s) && glB sc x
def Bi.nm : Bi → String
  | .len => "len" | .abs => "abs" | .sum => "sum" | .tuple => "tuple" | .list => "list" | .sorted => "sorted" | .int => "int" | .str => "str" | .repr => "repr" | .max => "max" | .min => "min" | .all => "all"
def bnames : List String := ["len", "abs", "sum", "tuple", "list", "sorted", "int", "str", "repr", "max", "min", "all", "range", "enumerate", "zip", "isinstance", "set", "bool", "dict"]
/-- the parts of an iterable -/
def call1 : Expr → Option (Str × Expr)
  | .Call (.Name f _) [a] [] _ => some (f, a)
  | _ => none
def call2 : Expr → Option (Str × Expr × Expr)
  | .Call (.Name f _) [a, b] [] _ => some (f, a, b)
  | _ => none
def itX (sc : Scope) (ik : IK) (e : Expr) : Option (List Expr) := match ik with
  | .seq => if notSet e then some [e] else none
  | .range => (call1 e).bind fun p => if bnB sc "range" p.1 then some [p.2] else none
  | .range2 => (call2 e).bind fun p => if bnB sc "range" p.1 then some [p.2.1, p.2.2] else none
  | .enum => (call1 e).bind fun p => if bnB sc "enumerate" p.1 then some [p.2] else none
  | .zip => (call2 e).bind fun p => if bnB sc "zip" p.1 then some [p.2.1, p.2.2] else none
theorem call1_inv {e : Expr} {f : Str} {a : Expr} (h : call1 e = some (f, a)) : ∃ p p2, e = .Call (.Name f p) [a] [] p2 := by
  unfold call1 at h
  split at h
  · cases h; exact ⟨_, _, rfl⟩
  · cases h
theorem call2_inv {e : Expr} {f : Str} {a b : Expr} (h : call2 e = some (f, a, b)) : ∃ p p2, e = .Call (.Name f p) [a, b] [] p2 := by
  unfold call2 at h
  split at h
  · cases h; exact ⟨_, _, rfl⟩
  · cases h
theorem it1_inv {sc : Scope} {e : Expr} {s : String} {xs : List Expr} (h : ((call1 e).bind fun p => if bnB sc s p.1 then some [p.2] else none) = some xs) : ∃ f p a p2, e = .Call (.Name f p) [a] [] p2 ∧ bnB sc s f = true ∧ xs = [a] := by
  cases q : call1 e with
  | none => rw [q] at h; cases h
  | some z =>
    obtain ⟨f, a⟩ := z
    obtain ⟨p, p2, rfl⟩ := call1_inv q
    rw [q] at h
    by_cases hb : bnB sc s f = true
    · simp [hb] at h
      exact ⟨f, p, a, p2, rfl, hb, h.symm⟩
    · simp [hb] at h
theorem it2_inv {sc : Scope} {e : Expr} {s : String} {xs : List Expr} (h : ((call2 e).bind fun p => if bnB sc s p.1 then some [p.2.1, p.2.2] else none) = some xs) : ∃ f p a b p2, e = .Call (.Name f p) [a, b] [] p2 ∧ bnB sc s f = true ∧ xs = [a, b] := by
  cases q : call2 e with
  | none => rw [q] at h; cases h
  | some z =>
    obtain ⟨f, a, b⟩ := z
    obtain ⟨p, p2, rfl⟩ := call2_inv q
    rw [q] at h
    by_cases hb : bnB sc s f = true
    · simp [hb] at h
      exact ⟨f, p, a, b, p2, rfl, hb, h.symm⟩
    · simp [hb] at h
def mNs (N : List Str) (sc : Scope) : List Nat → List Expr → Bool
  | [], [] => true
  | i :: is, .Name x _ :: xs => decide (N[i]? = some x) && locB sc x && mNs N sc is xs
  | _, _ => false
def mTg (N : List Str) (sc : Scope) : Tg → Expr → Bool
  | .nm i, .Name x _ => decide (N[i]? = some x) && locB sc x
  | .tp is, .Tuple xs _ _ => mNs N sc is xs
  | _, _ => false
/-- pairs go to pairs of names -/
def ikOk : IK → Tg → Bool
  | .enum, .nm _ => false | .zip, .nm _ => false
  | _, _ => true
def ownB (N : List Str) (tg : Tg) : List (Str × Nat) := tg.slots.map fun i => (N.getD i ⟨#[]⟩, i)
def plainOps : CmpOp → Expr → Bool := fun o e => !behindInMarks o e
/-- what is new when it comes -/
def fresh : E → Bool
  | .lst _ => true | .seqS false _ _ => true | .dct0 _ => true | .dct1 _ _ => true | .dctC _ _ _ => true | .bin _ _ _ => true | .bi _ _ => true | .sset _ => true | .slice _ _ _ => true | .rev _ => true | .rng1 false _ => true | .rng2 false _ _ => true | .comp _ _ _ _ _ => true
  | _ => false

def Me.nm : Me → String
  | .join => "join" | .split => "split"
/-- what a method is asked of is no module and no super() -/
def mBase : Expr → Bool
  | .Name _ _ => true | .Constant _ _ _ => true
  | _ => false
/-- the parts of f'{a}s{b}t{c}' -/
def fs5 : List Expr → Option (Expr × Str × Expr × Str × Expr)
  | [.FormattedValue x (-1) none _, .Constant (.str y1) _ _, .FormattedValue z (-1) none _, .Constant (.str y2) _ _, .FormattedValue w (-1) none _] => some (x, y1, z, y2, w)
  | _ => none
theorem fs5_inv {ps : List Expr} {x : Expr} {y1 : Str} {z : Expr} {y2 : Str} {w : Expr} (h : fs5 ps = some (x, y1, z, y2, w)) : ∃ p1 k1 p2 p3 k2 p4 p5, ps = [.FormattedValue x (-1) none p1, .Constant (.str y1) k1 p2, .FormattedValue z (-1) none p3, .Constant (.str y2) k2 p4, .FormattedValue w (-1) none p5] := by
  unfold fs5 at h
  split at h
  · cases h; exact ⟨_, _, _, _, _, _, _, rfl⟩
  · cases h
mutual
def mE (T : MT) : E → Scope → Expr → Bool
  | .var i, sc, .Name x _ => rdB T sc i x
  | .own i, sc, .Name x _ => rdB T sc i x
  | .glob i, sc, .Name x _ => decide (T.gs i = some x) && glB sc x && nmB x
  | .int k, _, .Constant (.int j) _ _ => k == j
  | .bl k, _, .Constant (.bool j) _ _ => k == j
  | .non, _, .Constant .none _ _ => true
  | .str s, _, .Constant (.str x) _ _ => x == Str.ofString s
  | .tup es, sc, .Tuple xs _ _ => mEs T es sc xs
  | .lst es, sc, .List xs _ => mEs T es sc xs
  | .seqS true st es, sc, .Tuple xs _ _ => mS T es st sc xs
  | .seqS false st es, sc, .List xs _ => mS T es st sc xs
  | .bin op a b, sc, .BinOp x o z _ => decide (op.op = o) && mE T a sc x && mE T b sc z
  | .neg a, sc, .UnaryOp .USub x _ => mE T a sc x
  | .not a, sc, .UnaryOp .Not x _ => mE T a sc x
  | .cmp op a b, sc, .Compare x [o] [z] _ => decide (op.op = o) && plainOps o z && mE T a sc x && mE T b sc z
  | .chain op op2 a b c, sc, .Compare x [o, o2] [z, u] _ => decide (op.op = o) && decide (op2.op = o2) && plainOps o2 u && mE T a sc x && mE T b sc z && mE T c sc u
  | .band es, sc, .BoolOp .And xs _ => !es.isEmpty && mEs T es sc xs
  | .bor es, sc, .BoolOp .Or xs _ => !es.isEmpty && mEs T es sc xs
  | .ife c a b, sc, .IfExp x z u _ => mE T c sc x && mE T a sc z && mE T b sc u
  | .call f es, sc, .Call (.Name x _) xs [] _ => decide (T.fs f = some x) && glB sc x && nmB x && mEs T es sc xs
  | .bi f es, sc, .Call (.Name x _) xs [] _ => bnB sc f.nm x && !es.isEmpty && mEs T es sc xs
  | .isi e t, sc, .Call (.Name x _) [z, .Name y _] [] _ => bnB sc "isinstance" x && bnB sc t.nm y && notStar z && mE T e sc z
  | .sset a, sc, .Call (.Name x _) [.Call (.Name y _) [z] [] _] [] _ => bnB sc "sorted" x && bnB sc "set" y && notStar z && mE T a sc z
  | .ix a b, sc, .Subscript x z _ => notSl z && mE T a sc x && mE T b sc z
  | .slice a lo hi, sc, .Subscript x (.Slice l u none _) _ => mE T a sc x && mO T lo sc l && mO T hi sc u
  | .rev a, sc, .Subscript x (.Slice none none (some (.UnaryOp .USub (.Constant (.int k) _ _) _)) _) _ => k == 1 && mE T a sc x
  | .rng1 s a, sc, .Call (.Name x _) [.Call (.Name y _) [z] [] _] [] _ => bnB sc (if s then "tuple" else "list") x && bnB sc "range" y && notStar z && mE T a sc z
  | .rng2 s a b, sc, .Call (.Name x _) [.Call (.Name y _) [z, w] [] _] [] _ => bnB sc (if s then "tuple" else "list") x && bnB sc "range" y && notStar z && notStar w && mE T a sc z && mE T b sc w
  | .comp elt tg ik its ifs, sc, .ListComp x [⟨tx, ix, fx, n⟩] scope _ => n == 0 && (match itX sc ik ix with
      | some xs => mEs T its sc xs
      | none => false) && ikOk ik tg && mTg T.N scope tg tx && blkC T.N sc scope (ownB T.N tg) && decide (ifs.length ≤ 1) && mEs T ifs (relS scope sc) fx && mE T elt (relS scope sc) x
  | .mk e, sc, x => fresh e && plainT x && mE T e sc x
  | .meth m a b, sc, .Call (.Attribute x f ap) [z] [] cp => (f == Str.ofString m.nm) && (ap.endLine == cp.line) && notStar z && mBase x && mE T a sc x && mE T b sc z
  | .fs3 s1 s2 a b c, sc, .JoinedStr ps _ => match fs5 ps with
    | some q => q.2.1 == Str.ofString s1 && q.2.2.2.1 == Str.ofString s2 && mE T a sc q.1 && mE T b sc q.2.2.1 && mE T c sc q.2.2.2.2
    | none => false
  | .dct0 _, _, .Dict [] [] _ => true
  | .dct1 k e, sc, .Dict [some (.Constant (.str x) _ _)] [v] _ => x == Str.ofString k && mE T e sc v
  | .dctC _ k c, sc, .Dict [some x] [v] _ => mE T k sc x && mE T c sc v && (constE c).isSome
  | _, _, _ => false
def mEs (T : MT) : List E → Scope → List Expr → Bool
  | [], _, [] => true
  | e :: es, sc, x :: xs => notStar x && mE T e sc x && mEs T es sc xs
  | _, _, _ => false
def mS (T : MT) : List E → List Bool → Scope → List Expr → Bool
  | [], [], _, [] => true
  | e :: es, true :: st, sc, .Starred x _ :: xs => mE T e sc x && mS T es st sc xs
  | e :: es, false :: st, sc, x :: xs => notStar x && mE T e sc x && mS T es st sc xs
  | _, _, _, _ => false
def mO (T : MT) : List E → Scope → Option Expr → Bool
  | [], _, none => true
  | [e], sc, some x => mE T e sc x
  | _, _, _ => false
end
/-! ## functions -/
section
variable (K : PySem.W.Frag) (mg : Str → Option Value)
/-- what a function with the meaning F promises -/
def spB (n : Nat) (F : List D → List O → Res D) : Sp := fun vs H Q E => ∃ y g ds, vs.length = n ∧ Reps K y H ds vs ∧ Good K y H g ∧ match F ds g with
  | .ok d g' => ∀ y' H' v, Ext y H y' H' → Good K y' H' g' → Rep K y' H' d v → Q v H'
  | .exc x g' => ∀ y' H' c od, Ext y H y' H' → Good K y' H' g' → XRep K mg y' H' x c od → E c od H'
  | .bad => False
end
structure GFn (P : Program) (w : World) (K : PySem.W.Frag) (mg : Str → Option Value) (base : Heap) (k : Nat) (f : Addr) (fd : FuncData) (ps : List Str) (sp : Sp) : Prop where
  len : ∀ vs H Q E, sp vs H Q E → vs.length = ps.length
  run : ∀ (A : Around) (outer : List Env) (s : Shared) (H : Hp) (args : Args) (us : List Value) (vs : List V) (Q : VK) (E : XK), Room k A → A.guards = some [] → Env0 P w K mg base A outer s H → BindsTo s fd args (ps.zip us) → Vals vs us → sp vs H Q E →
    codeAny (model P w) A (.call (.ref f) args) (CR (L2.CX P w) outer P w H s Q E) s
/-- all that stands around an expression -/
structure HX (gl : Nat → Option D) (cl : Nat → List D → List O → Res D) (T : MT) (X : Cx) (W : WX) : Prop where
  N : X.N = T.N
  nd : X.N.Nodup
  calm : X.calm = true
  units : X.A.units + 200 < cLine
  guards : X.A.guards = some []
  bn : ∀ s ∈ bnames, X.mg (Str.ofString s) = none
  gls : ∀ i d, gl i = some d → ∃ x u v, T.gs i = some x ∧ X.mg x = some u ∧ RelV v u ∧ ∀ y H, Rep X.K y H d v
  fns : ∀ i x, T.fs i = some x → ∃ fa fd ps, X.mg x = some (.ref fa) ∧ PySem.W.keepIn X.K (.ref fa) = true ∧ Binds X.K fd ps [] ∧ (∀ ds g, ds.length ≠ ps.length → cl i ds g = .bad) ∧
    ((∀ ds g, cl i ds g = .bad) ∨ ∃ k, Room k X.A ∧ GFn X.prog X.w X.K X.mg X.base k fa fd ps (spB X.K X.mg ps.length (cl i)))
  tk : Takes X W
theorem HX.blk {gl : Nat → Option D} {cl : Nat → List D → List O → Res D} {T : MT} {X : Cx} {W : WX} (h : HX gl cl T X W) (s : Shared) (H : Hp) (scope : Scope) (ce : Env) (fp : List Addr) : HX gl cl T (X.blk s H scope ce fp) (fun _ _ _ _ => False) :=
  ⟨h.N, h.nd, h.calm, h.units, h.guards, h.bn, h.gls, h.fns, takes0⟩

/-! ## small lemmas -/
theorem peI {X : Cx} {e : Expr} {t t' : TE} (h : PE X e t) (k : ∀ σ H Q, t' σ H Q → t σ H Q) : PE X e t' := ⟨fun pins s σ H Q I q => h.run pins s σ H Q I (k σ H Q q)⟩
theorem ptI {X : Cx} {e : Expr} {t t' : TT} (h : PT X e t) (k : ∀ σ H Q, t' σ H Q → t σ H Q) : PT X e t' := ⟨fun pins s σ H Q I q => h.run pins s σ H Q I (k σ H Q q)⟩
theorem pwI {X : Cx} {e : Expr} {t t' : TT} (h : PW X e t) (k : ∀ σ H Q, t' σ H Q → t σ H Q) : PW X e t' := ⟨fun wh pins s σ H Q I q => h.run wh pins s σ H Q I (k σ H Q q)⟩
theorem paI {X : Cx} {e : List Expr} {t t' : TA} (h : PA X e t) (k : ∀ σ H Q, t' σ H Q → t σ H Q) : PA X e t' := ⟨fun pos pins s σ H Q I q => h.run pos pins s σ H Q I (k σ H Q q)⟩
theorem vis_of {sc : Scope} {x : Str} (h : visB sc x = true) : Vis sc x := by
  unfold visB at h
  unfold Vis
  split at h <;> first | exact .inl (by assumption) | exact .inr (.inl (by assumption)) | exact .inr (.inr (by assumption)) | cases h
theorem loc_of {sc : Scope} {x : Str} (h : locB sc x = true) : L2.Loc sc x := by
  unfold locB at h
  unfold L2.Loc
  split at h <;> first | exact .inl (by assumption) | exact .inr (by assumption) | cases h
theorem gl_of {X : Cx} {x : Str} (h : glB X.env.scope x = true) : Gl X x := by
  unfold glB at h
  show X.env.scope.names.lookup x = some .globalImplicit
  split at h
  · assumption
  · cases h
theorem nm_of {x : Str} (h : nmB x = true) : (x == Str.ofString "__debug__") = false ∧ (x == Str.ofString "__classdict__") = false ∧ x ≠ Str.ofString "__name__" := by
  unfold nmB at h
  simp only [Bool.and_eq_true, Bool.not_eq_true'] at h
  exact ⟨h.1.1, h.1.2, fun e => by rw [e] at h; simp at h⟩
theorem bn_of {X : Cx} {s : String} {x : Str} (h : bnB X.env.scope s x = true) : x = Str.ofString s ∧ Gl X x := by
  unfold bnB at h
  simp only [Bool.and_eq_true, beq_iff_eq] at h
  exact ⟨h.1, gl_of h.2⟩
theorem star_cons {e : Expr} {es : List Expr} {env : Env} (h : notStar e = true) : starEach (e :: es) env = (false, eval e env) :: starEach es env := by
  cases e <;> first | rfl | cases h
theorem star_all {env : Env} {pos : Pos} : ∀ {es : List Expr}, (∀ e ∈ es, notStar e = true) → (backTo pos (starEach es env)).any (·.1) = false
  | [], _ => rfl
  | e :: es, h => by
    rw [star_cons (h e List.mem_cons_self)]
    show (false || (backTo pos (starEach es env)).any (·.1)) = false
    rw [star_all fun x hx => h x (List.mem_cons_of_mem _ hx)]
    rfl
theorem mEs_star {T : MT} {sc : Scope} : ∀ {es : List E} {xs : List Expr}, mEs T es sc xs = true → ∀ x ∈ xs, notStar x = true
  | [], [], _, x, hx => by cases hx
  | e :: es, z :: zs, h, x, hx => by
    simp only [mEs, Bool.and_eq_true] at h
    rcases List.mem_cons.mp hx with rfl | hx
    · exact h.1.1
    · exact mEs_star h.2 x hx
  | [], _ :: _, h, _, _ => by simp [mEs] at h
  | _ :: _, [], h, _, _ => by simp [mEs] at h
theorem plain_of {e : Expr} {env : Env} (h : plainT e = true) : ∀ whole, isTrue e env whole = (do let v ← whole; standAt e.pos; holding [v] (truthy v)) := by
  intro w
  cases e with
  | UnaryOp op x p => cases op <;> first | rfl | exact absurd (show false = true from h) Bool.false_ne_true
  | _ => first | rfl | exact absurd (show false = true from h) Bool.false_ne_true
end Bk
end
section
set_option Elab.async false
set_option linter.all false
set_option maxRecDepth 100000
set_option maxHeartbeats 4000000
namespace Bk
open PySem PySem.Spec PyProof.Rows L2 RZ

abbrev EV := List Slot → List O → Res D
abbrev EA := List Slot → List O → Res (List D)
abbrev EB := List Slot → List O → Res Bool
section
variable {X : Cx} {W : WX} {gl : Nat → Option D} {cl : Nat → List D → List O → Res D} {T : MT} {m : Mode} {pos : Pos}
theorem PostX.use {m : Mode} {K : PySem.W.Frag} {mg : Str → Option Value} {y : Gh} {σ : L2.St} {H : Hp} {Q : VK} {d : D} {g : List O} (hm : m ≠ .f) (h : PostX K mg W m y σ H Q (.ok d g)) (G : Good K y H g) {v : V} (r : RepX K m.b y H d v) : Q v H := by
  cases m with
  | v => exact h y H v (Ext.refl _ _) G r
  | t => exact h y H v (Ext.refl _ _) G r
  | f => exact absurd rfl hm
theorem PostX.flat {m : Mode} {K : PySem.W.Frag} {mg : Str → Option Value} {y : Gh} {σ : L2.St} {H : Hp} {Q : VK} {d : D} {g : List O} (h : PostX K mg W m y σ H Q (.ok d g)) (G : Good K y H g) {v : V} (r : Rep K y H d v) (hd : ∀ ds, d ≠ .lst ds) (hd' : ∀ ks ds, d ≠ .dct ks ds) : Q v H := by
  have a := PostX.an h y H (Ext.refl _ _) G
  cases d with
  | lst ds => exact absurd rfl (hd ds)
  | dct ks ds => exact absurd rfl (hd' ks ds)
  | _ => exact a v r
theorem PostX.stepG {m : Mode} {K : PySem.W.Frag} {mg : Str → Option Value} {y y1 : Gh} {σ : L2.St} {H H1 : Hp} {Q : VK} {R : Res D} (e : Ext y H y1 H1) (h : PostX K mg W m y σ H Q R) : PostX K mg W m y1 σ H1 Q R := IsPost.x.step e h
theorem PostX.bl {m : Mode} {K : PySem.W.Frag} {mg : Str → Option Value} {y : Gh} {σ : L2.St} {H : Hp} {Q : VK} {b : Bool} {g : List O} (h : PostX K mg W m y σ H Q (.ok (.bl b) g)) (G : Good K y H g) : Q (.bl b) H :=
  h.flat G (by simp only [Rep]) (fun _ e => nomatch e) fun _ _ e => nomatch e
theorem tst_bl {K : PySem.W.Frag} {y : Gh} {H : Hp} {d : D} {v : V} {g : List O} (h : RepX K true y H d v) : (∃ b, v = .bl b ∧ asB d g = .ok b g) ∨ asB d g = .bad := by
  cases d with
  | bl b => exact .inl ⟨b, rt_bl (K := K) (y := y) (H := H) h, rfl⟩
  | _ => exact .inr rfl
/-- an expression as a test, by its value -/
theorem pt_of {x : Expr} {F : EV} (h : PE X x (tX X.K X.mg W .t F)) (hp : plainT x = true) : PT X x (tT X.K X.mg W fun r g => (F r g).bind asB) := by
  refine ptI (pt_val h (plain_of hp)) fun σ H Q ⟨y, r, g, S, G, p⟩ => ?_
  refine bindP IsPost.gp S G p fun y1 d g1 v H1 S1 G1 pd e1 p1 => ?_
  rcases tst_bl (g := g1) pd with ⟨b, rfl, e⟩ | e
  · rw [e] at p1
    exact ⟨b, rfl, p1 y1 H1 b (Ext.refl _ _) G1 rfl⟩
  · rw [e] at p1; exact p1.elim
/-! ### leaves -/
theorem pe_varB {i : Nat} {x : Str} (hN : X.N = T.N) (h : rdB T X.env.scope i x = true) (hm : m ≠ .f) : PE X (.Name x pos) (tX X.K X.mg W m fun r g => match r[i]? with
    | some (.fz d) => .ok d g
    | _ => .bad) := by
  unfold rdB at h
  simp only [Bool.and_eq_true, decide_eq_true_eq] at h
  obtain ⟨n1, n2, _⟩ := nm_of h.2
  refine peI (pe_var (i := i) (by rw [hN]; exact h.1.1) (vis_of h.1.2) n1 n2) fun σ H Q ⟨y, r, g, S, G, p⟩ => ?_
  dsimp only at p
  cases e : r[i]? with
  | none => rw [e] at p; exact (IsPost.x.bad p).elim
  | some s =>
    rw [e] at p
    cases s with
    | fz d =>
      obtain ⟨o, e1, v, e2, rv⟩ := S.at_ i _ e
      exact ⟨v, by rw [e1, e2], PostX.use hm p G rv.x⟩
    | _ => exact (IsPost.x.bad p).elim
theorem pe_ownB {i : Nat} {x : Str} (hN : X.N = T.N) (h : rdB T X.env.scope i x = true) (hm : m ≠ .f) : PE X (.Name x pos) (tX X.K X.mg W m fun r g => if m.b then (match r[i]? with
    | some (.own ds) => .ok (.lst ds) g
    | some (.ownK ks ds) => .ok (.dct ks ds) g
    | _ => .bad) else .bad) := by
  unfold rdB at h
  simp only [Bool.and_eq_true, decide_eq_true_eq] at h
  obtain ⟨n1, n2, _⟩ := nm_of h.2
  refine peI (pe_var (i := i) (by rw [hN]; exact h.1.1) (vis_of h.1.2) n1 n2) fun σ H Q ⟨y, r, g, S, G, p⟩ => ?_
  cases m with
  | f => exact absurd rfl hm
  | v => exact p.elim
  | t =>
    dsimp only [Mode.b, if_true] at p
    cases e : r[i]? with
    | none => rw [e] at p; exact (IsPost.x.bad p).elim
    | some s =>
      rw [e] at p
      obtain ⟨o, e1, q⟩ := S.at_ i _ e
      cases s with
      | own ds =>
        obtain ⟨b, vs, e2, w, hb, rr⟩ := q
        exact ⟨.ref b, by rw [e1, e2], PostX.use hm p G (show RepT X.K y H (.lst ds) (.ref b) from ⟨b, vs, rfl, fun z => (G.disj b z).2 w, hb, rr⟩)⟩
      | ownK ks ds =>
        obtain ⟨b, vs, e2, w, hb, hl, rr⟩ := q
        exact ⟨.ref b, by rw [e1, e2], PostX.use hm p G (show RepT X.K y H (.dct ks ds) (.ref b) from ⟨b, vs, rfl, fun z => (G.disj b z).2 w, hb, hl, rr⟩)⟩
      | _ => exact (IsPost.x.bad p).elim
theorem pe_globB (h : HX gl cl T X W) {i : Nat} {x : Str} (h1 : T.gs i = some x) (h2 : glB X.env.scope x = true) (h3 : nmB x = true) (hm : m ≠ .f) : PE X (.Name x pos) (tX X.K X.mg W m fun r g => lift (gl i) g) := by
  obtain ⟨n1, n2, _⟩ := nm_of h3
  cases e : gl i with
  | none => 
    refine ⟨fun pins s σ H Q I ⟨y, r, g, S, G, p⟩ => (IsPost.x.bad p).elim⟩
  | some d =>
    obtain ⟨z, u, v, e1, e2, rv, rp⟩ := h.gls i d e
    rw [h1] at e1; cases e1
    exact peI (pe_glob (gl_of h2) e2 rv n1) fun σ H Q ⟨y, r, g, S, G, p⟩ => PostX.use hm p G (rp y H).x
theorem pe_constB {d : D} {v : V} {x : Expr} (h : PE X x (tC v)) (hr : ∀ y H, Rep X.K y H d v) (hm : m ≠ .f) : PE X x (tX X.K X.mg W m fun _ g => .ok d g) :=
  peI h fun σ H Q ⟨y, r, g, S, G, p⟩ => PostX.use hm p G (hr y H).x
/-! ### lists of expressions -/
theorem pa_nilB {t : Bool} : PA X [] (tA X.K X.mg W t fun _ g => .ok [] g) := paI pa_nil fun σ H Q ⟨y, r, g, S, G, p⟩ => p y H [] (Ext.refl _ _) G rfl
theorem pa_consB {e : Expr} {es : List Expr} {F : EV} {Fs : EA} {m : Mode} (hm : m ≠ .f) (hs : notStar e = true) (h1 : PE X e (tX X.K X.mg W m F)) (h2 : PA X es (tA X.K X.mg W m.b Fs)) : PA X (e :: es) (tA X.K X.mg W m.b fun r g => (F r g).bind fun d g => (Fs r g).bind fun ds g => .ok (d :: ds) g) := by
  have h1' : PE X e (tE X.K X.mg W m.b F) := by
    cases m with
    | v => exact h1
    | t => exact h1
    | f => exact absurd rfl hm
  refine paI (pa_cons h1' h2 (star_cons hs)) fun σ H Q ⟨y, r, g, S, G, p⟩ => ?_
  refine bindP IsPost.gp S G p fun y1 d g1 v H1 S1 G1 pd e1 p1 => ?_
  refine bindP IsPost.gp S1 G1 p1 fun y2 ds g2 vs H2 S2 G2 pds e2 p2 => ?_
  exact p2 y2 H2 (v :: vs) (Ext.refl _ _) G2 ⟨v, vs, rfl, pd.mono e2, pds⟩
/-! ### operators -/
theorem pe_tupB {es : List Expr} {Fs : EA} {k : Nat} (h : PA X es (tA X.K X.mg W false Fs)) : PE X (.Tuple es k pos) (tX X.K X.mg W m fun r g => (Fs r g).bind fun ds g => lift (mkT ds) g) := by
  refine peI (pe_tup h) fun σ H Q ⟨y, r, g, S, G, p⟩ => ?_
  refine bindP IsPost.x S G p fun y1 ds g1 vs H1 S1 G1 pd e1 p1 => ?_
  obtain ⟨o, ho, p2⟩ := lift_post IsPost.x p1
  unfold mkT at ho
  split at ho
  · rename_i hl
    cases ho
    have pd := RepsX.f pd
    exact ⟨by rw [← pd.length]; exact lim_size hl, fun p hp => (PostX.an p2).newT G1 pd p hp⟩
  · cases ho
theorem pe_lstB {es : List Expr} {Fs : EA} (h : PA X es (tA X.K X.mg W false Fs)) : PE X (.List es pos) (tX X.K X.mg W m fun r g => (Fs r g).bind fun ds g => lift (mkL ds) g) := by
  refine peI (pe_lst h) fun σ H Q ⟨y, r, g, S, G, p⟩ => ?_
  refine bindP IsPost.x S G p fun y1 ds g1 vs H1 S1 G1 pd e1 p1 => ?_
  obtain ⟨o, ho, p2⟩ := lift_post IsPost.x p1
  unfold mkL at ho
  split at ho
  · rename_i hl
    cases ho
    have pd := RepsX.f pd
    exact ⟨by rw [← pd.length]; exact lim_size hl, fun p hp => (PostX.an p2).newL G1 pd p hp⟩
  · cases ho
theorem pe_binB {op : Bop} {a b : Expr} {Fa Fb : EV} (hu : X.A.units + 200 < cLine) (ha : PE X a (tX X.K X.mg W .t Fa)) (hb : PE X b (tX X.K X.mg W .t Fb)) :
    PE X (.BinOp a op.op b pos) (tX X.K X.mg W m fun r g => (Fa r g).bind fun x g => (Fb r g).bind fun y g => lift (binop op x y) g) := by
  refine peI (pe_op (op_bin (by omega) op) ha hb) fun σ H Q ⟨y, r, g, S, G, p⟩ => ?_
  refine bindP IsPost.x S G p fun y1 d g1 v H1 S1 G1 pd e1 p1 => ?_
  refine bindP IsPost.x S1 G1 p1 fun y2 e g2 w H2 S2 G2 pe e2 p2 => ?_
  obtain ⟨o, ho, p3⟩ := lift_post IsPost.x p2
  exact ⟨y2, g2, d, e, o, G2, pd.mono e2, pe, ho, PostX.an p3⟩
theorem pe_negB {a : Expr} {Fa : EV} (ha : PE X a (tX X.K X.mg W .t Fa)) : PE X (.UnaryOp .USub a pos) (tX X.K X.mg W m fun r g => (Fa r g).bind fun x g => match x with
    | .int i => .ok (.int (-i)) g
    | _ => .bad) := by
  refine peI (pe_un un_neg ha) fun σ H Q ⟨y, r, g, S, G, p⟩ => ?_
  refine bindP IsPost.x S G p fun y1 d g1 v H1 S1 G1 pd e1 p1 => ?_
  cases d with
  | int i => exact ⟨i, rt_int (show RepT X.K y1 H1 (.int i) v from pd), (PostX.an p1).int G1⟩
  | _ => exact (IsPost.x.bad p1).elim
theorem pe_notB {a : Expr} {Fa : EV} (ha : PE X a (tX X.K X.mg W .t Fa)) : PE X (.UnaryOp .Not a pos) (tX X.K X.mg W m fun r g => ((Fa r g).bind asB).bind fun b g => .ok (.bl (!b)) g) := by
  refine peI (pe_not ha) fun σ H Q ⟨y, r, g, S, G, p⟩ => ?_
  have p : PostX X.K X.mg W m y σ H Q ((Fa r g).bind fun d g => (asB d g).bind fun b g => .ok (.bl (!b)) g) := by
    dsimp only at p
    rw [Res.assoc] at p
    exact p
  refine bindP IsPost.x S G p fun y1 d g1 v H1 S1 G1 pd e1 p1 => ?_
  rcases tst_bl (g := g1) pd with ⟨b, rfl, e⟩ | e
  · rw [e] at p1
    exact ⟨b, rfl, PostX.bl p1 G1⟩
  · rw [e] at p1; exact (IsPost.x.bad p1).elim
theorem pt_notB {a : Expr} {Fa : EB} (ha : PT X a (tT X.K X.mg W Fa)) : PT X (.UnaryOp .Not a pos) (tT X.K X.mg W fun r g => ((Fa r g).bind fun b g => .ok (.bl (!b)) g).bind asB) := by
  refine ptI (pt_not ha) fun σ H Q ⟨y, r, g, S, G, p⟩ => ?_
  have p : PostG X.K X.mg W (fun _ _ (b c : Bool) => b = c) y σ H Q ((Fa r g).bind fun b g => .ok (!b) g) := by
    dsimp only at p
    rw [Res.assoc] at p
    exact p
  refine bindP IsPost.gp S G p fun y1 d g1 v H1 S1 G1 pd e1 p1 => ?_
  subst pd
  exact p1 y1 H1 _ (Ext.refl _ _) G1 rfl
theorem pe_cmpB {op : Cop} {a b : Expr} {Fa Fb : EV} (hu : X.A.units + 200 < cLine) (ha : PE X a (tX X.K X.mg W .t Fa)) (hb : PE X b (tX X.K X.mg W .t Fb)) (hm : behindInMarks op.op b = false) :
    PE X (.Compare a [op.op] [b] pos) (tX X.K X.mg W m fun r g => (Fa r g).bind fun x g => (Fb r g).bind fun y g => (lift (cmpop op x y) g).bind fun b g => .ok (.bl b) g) := by
  refine peI (pe_cmpR (op_cmp (by omega) op) ha hb hm) fun σ H Q ⟨y, r, g, S, G, p⟩ => ?_
  refine bindP IsPost.x S G p fun y1 d g1 v H1 S1 G1 pd e1 p1 => ?_
  refine bindP IsPost.x S1 G1 p1 fun y2 e g2 w H2 S2 G2 pe e2 p2 => ?_
  cases ho : cmpop op d e with
  | none => rw [ho] at p2; exact (IsPost.x.bad p2).elim
  | some c =>
    rw [ho] at p2
    exact ⟨y2, g2, d, e, c, G2, pd.mono e2, pe, ho, PostX.bl p2 G2⟩
theorem pt_cmpB {op : Cop} {a b : Expr} {Fa Fb : EV} (hu : X.A.units + 200 < cLine) (ha : PE X a (tX X.K X.mg W .t Fa)) (hb : PE X b (tX X.K X.mg W .t Fb)) (hm : behindInMarks op.op b = false) :
    PT X (.Compare a [op.op] [b] pos) (tT X.K X.mg W fun r g => ((Fa r g).bind fun x g => (Fb r g).bind fun y g => (lift (cmpop op x y) g).bind fun b g => .ok (.bl b) g).bind asB) := by
  refine ptI (pt_cmpR (op_cmp (by omega) op) ha hb hm) fun σ H Q ⟨y, r, g, S, G, p⟩ => ?_
  have p : PostG X.K X.mg W (fun _ _ (b c : Bool) => b = c) y σ H Q ((Fa r g).bind fun x g => (Fb r g).bind fun y g => lift (cmpop op x y) g) := by
    dsimp only at p
    have e : ∀ x z g, ((lift (cmpop op x z) g).bind fun b g => Res.ok (D.bl b) g).bind asB = lift (cmpop op x z) g := fun x z g => by cases cmpop op x z <;> rfl
    simp only [Res.assoc] at p e
    simp only [e] at p
    exact p
  refine bindP IsPost.gp S G p fun y1 d g1 v H1 S1 G1 pd e1 p1 => ?_
  refine bindP IsPost.gp S1 G1 p1 fun y2 e g2 w H2 S2 G2 pe e2 p2 => ?_
  obtain ⟨c, ho, p3⟩ := lift_post IsPost.gp p2
  exact ⟨y2, g2, d, e, c, G2, pd.mono e2, pe, ho, c, rfl, p3 y2 H2 c (Ext.refl _ _) G2 rfl⟩
end
end Bk
end
section
set_option Elab.async false
set_option linter.all false
set_option maxRecDepth 100000
set_option maxHeartbeats 4000000
namespace Bk
open PySem PySem.Spec PyProof.Rows L2 RZ
section
variable {X : Cx} {W : WX} {gl : Nat → Option D} {cl : Nat → List D → List O → Res D} {T : MT} {m : Mode} {pos : Pos}
theorem pe_chainB {op op2 : Cop} {a b c : Expr} {Fa Fb Fc : EV} (hu : X.A.units + 200 < cLine) (ha : PE X a (tX X.K X.mg W .t Fa)) (hb : PE X b (tX X.K X.mg W .t Fb)) (hc : PE X c (tX X.K X.mg W .t Fc)) (hm : lastMarks [op.op, op2.op] [b, c] = false) :
    PE X (.Compare a [op.op, op2.op] [b, c] pos) (tX X.K X.mg W m fun r g => (Fa r g).bind fun x g => (Fb r g).bind fun y g => (lift (cmpop op x y) g).bind fun k g =>
      if k then (Fc r g).bind fun z g => (lift (cmpop op2 y z) g).bind fun b g => .ok (.bl b) g else .ok (.bl false) g) := by
  refine peI (pe_chain (op_cmp (by omega) op) (op_cmp (by omega) op2) ha hb hc hm) fun σ H Q ⟨y, r, g, S, G, p⟩ => ?_
  refine bindP IsPost.x S G p fun y1 d g1 v H1 S1 G1 pd e1 p1 => ?_
  refine bindP IsPost.x S1 G1 p1 fun y2 e g2 w H2 S2 G2 pe e2 p2 => ?_
  cases ho : cmpop op d e with
  | none => rw [ho] at p2; exact (IsPost.x.bad p2).elim
  | some k =>
    rw [ho] at p2
    simp only [lift_some, Res.bind_ok] at p2
    refine ⟨y2, g2, d, e, k, G2, pd.mono e2, pe, ho, k, rfl, ?_⟩
    cases k with
    | false => exact PostX.bl p2 G2
    | true =>
      simp only [if_true] at p2 ⊢
      refine bindP IsPost.x S2 G2 p2 fun y3 f g3 u H3 S3 G3 pf e3 p3 => ?_
      cases ho2 : cmpop op2 e f with
      | none => rw [ho2] at p3; exact (IsPost.x.bad p3).elim
      | some k2 =>
        rw [ho2] at p3
        exact ⟨y3, g3, e, f, k2, G3, RepT.mono e3 pe, pf, ho2, PostX.bl p3 G3⟩
theorem pt_chainB {op op2 : Cop} {a b c : Expr} {Fa Fb Fc : EV} (hu : X.A.units + 200 < cLine) (ha : PE X a (tX X.K X.mg W .t Fa)) (hb : PE X b (tX X.K X.mg W .t Fb)) (hc : PE X c (tX X.K X.mg W .t Fc)) (hm : lastMarks [op.op, op2.op] [b, c] = false) :
    PT X (.Compare a [op.op, op2.op] [b, c] pos) (tT X.K X.mg W fun r g => ((Fa r g).bind fun x g => (Fb r g).bind fun y g => (lift (cmpop op x y) g).bind fun k g =>
      if k then (Fc r g).bind fun z g => (lift (cmpop op2 y z) g).bind fun b g => .ok (.bl b) g else .ok (.bl false) g).bind asB) := by
  refine ptI (pt_chain (op_cmp (by omega) op) (op_cmp (by omega) op2) ha hb hc hm) fun σ H Q ⟨y, r, g, S, G, p⟩ => ?_
  have p := (by
    dsimp only at p
    simp only [Res.assoc] at p
    exact p : PostG X.K X.mg W (fun _ _ (b c : Bool) => b = c) y σ H Q ((Fa r g).bind fun x g => (Fb r g).bind fun y g => (lift (cmpop op x y) g).bind fun k g =>
      (if k then (Fc r g).bind fun z g => (lift (cmpop op2 y z) g).bind fun b g => .ok (.bl b) g else .ok (.bl false) g).bind asB))
  refine bindP IsPost.gp S G p fun y1 d g1 v H1 S1 G1 pd e1 p1 => ?_
  refine bindP IsPost.gp S1 G1 p1 fun y2 e g2 w H2 S2 G2 pe e2 p2 => ?_
  cases ho : cmpop op d e with
  | none => rw [ho] at p2; exact (IsPost.gp.bad p2).elim
  | some k =>
    rw [ho] at p2
    simp only [lift_some, Res.bind_ok] at p2
    refine ⟨y2, g2, d, e, k, G2, pd.mono e2, pe, ho, k, rfl, ?_⟩
    cases k with
    | false => exact ⟨false, rfl, p2 y2 H2 false (Ext.refl _ _) G2 rfl⟩
    | true =>
      simp only [if_true] at p2 ⊢
      rw [Res.assoc] at p2
      refine bindP IsPost.gp S2 G2 p2 fun y3 f g3 u H3 S3 G3 pf e3 p3 => ?_
      cases ho2 : cmpop op2 e f with
      | none => rw [ho2] at p3; exact (IsPost.gp.bad p3).elim
      | some k2 =>
        rw [ho2] at p3
        exact ⟨y3, g3, e, f, k2, G3, RepT.mono e3 pe, pf, ho2, k2, rfl, p3 y3 H3 k2 (Ext.refl _ _) G3 rfl⟩
/-! ### and, or, if else -/
theorem pe_oneB {op : BoolOp} {a : Expr} {Fa : EV} (ha : PE X a (tX X.K X.mg W .t Fa)) : PE X (.BoolOp op [a] pos) (tX X.K X.mg W m fun r g => ((Fa r g).bind asB).bind fun b g => .ok (.bl b) g) := by
  refine peI (pe_one ha) fun σ H Q ⟨y, r, g, S, G, p⟩ => ?_
  have p : PostX X.K X.mg W m y σ H Q ((Fa r g).bind fun d g => (asB d g).bind fun b g => .ok (.bl b) g) := by
    dsimp only at p
    rw [Res.assoc] at p
    exact p
  refine bindP IsPost.x S G p fun y1 d g1 v H1 S1 G1 pd e1 p1 => ?_
  rcases tst_bl (g := g1) pd with ⟨b, rfl, e⟩ | e
  · rw [e] at p1
    exact PostX.bl p1 G1
  · rw [e] at p1; exact (IsPost.x.bad p1).elim
theorem bool_id {R : Res D} : ((R.bind asB).bind fun b g => Res.ok (D.bl b) g).bind asB = R.bind asB := by
  cases R with
  | ok d g => cases d <;> rfl
  | exc x g => rfl
  | bad => rfl
theorem pw_oneB {c : Bool} {a : Expr} {Fa : EV} (ha : PT X a (tT X.K X.mg W fun r g => (Fa r g).bind asB)) : PW X (.BoolOp (if c then .And else .Or) [a] pos) (tT X.K X.mg W fun r g => (((Fa r g).bind asB).bind fun b g => .ok (.bl b) g).bind asB) := by
  have e : (fun (r : List Slot) (g : List O) => (((Fa r g).bind asB).bind fun b g => Res.ok (D.bl b) g).bind asB) = fun r g => (Fa r g).bind asB := by
    funext r g
    exact bool_id
  rw [e]
  cases c
  · exact pw_or1 ha
  · exact pw_and1 ha
theorem pe_boolB {c : Bool} {a b : Expr} {rest : List Expr} {Fa Fb : EV} (ha : PE X a (tX X.K X.mg W .t Fa)) (hb : PE X (.BoolOp (if c then .And else .Or) (b :: rest) pos) (tX X.K X.mg W m Fb)) :
    PE X (.BoolOp (if c then .And else .Or) (a :: b :: rest) pos) (tX X.K X.mg W m fun r g => ((Fa r g).bind asB).bind fun b g => if b = c then Fb r g else .ok (.bl b) g) := by
  have key : ∀ σ H Q, (tX X.K X.mg W m fun r g => ((Fa r g).bind asB).bind fun b g => if b = c then Fb r g else .ok (.bl b) g) σ H Q →
      tX X.K X.mg W .t Fa σ H fun x H1 => ∃ k, x = .bl k ∧ if k = c then tX X.K X.mg W m Fb σ H1 Q else Q (.bl k) H1 := fun σ H Q ⟨y, r, g, S, G, p⟩ => by
    have p : PostX X.K X.mg W m y σ H Q ((Fa r g).bind fun d g => (asB d g).bind fun b g => if b = c then Fb r g else .ok (.bl b) g) := by
      dsimp only at p
      rw [Res.assoc] at p
      exact p
    refine bindP IsPost.x S G p fun y1 d g1 v H1 S1 G1 pd e1 p1 => ?_
    rcases tst_bl (g := g1) pd with ⟨b, rfl, e⟩ | e
    · rw [e] at p1
      refine ⟨b, rfl, ?_⟩
      simp only [Res.bind_ok] at p1
      by_cases hb : b = c
      · rw [if_pos hb] at p1 ⊢
        exact ⟨y1, r, g1, S1, G1, p1⟩
      · rw [if_neg hb] at p1 ⊢
        exact PostX.bl p1 G1
    · rw [e] at p1; exact (IsPost.x.bad p1).elim
  cases c with
  | true =>
    refine peI (pe_and ha hb) fun σ H Q q => ?_
    obtain ⟨y, r, g, S, G, p⟩ := key σ H Q q
    refine ⟨y, r, g, S, G, ?_⟩
    have mono : ∀ (R : Res D) (Q Q' : VK), (∀ v H, Q v H → Q' v H) → PostG X.K X.mg W (RepX X.K true) y σ H Q R → PostG X.K X.mg W (RepX X.K true) y σ H Q' R := fun R Q Q' hq h => by
      cases R with
      | ok d g => exact fun y' H' v e G r => hq v H' (h y' H' v e G r)
      | exc x g => exact h
      | bad => exact h
    refine mono _ _ _ (fun v H1 ⟨k, ek, q⟩ => ⟨k, ek, ?_⟩) p
    cases k
    · simpa using q
    · simpa using q
  | false =>
    refine peI (pe_or ha hb) fun σ H Q q => ?_
    obtain ⟨y, r, g, S, G, p⟩ := key σ H Q q
    refine ⟨y, r, g, S, G, ?_⟩
    have mono : ∀ (R : Res D) (Q Q' : VK), (∀ v H, Q v H → Q' v H) → PostG X.K X.mg W (RepX X.K true) y σ H Q R → PostG X.K X.mg W (RepX X.K true) y σ H Q' R := fun R Q Q' hq h => by
      cases R with
      | ok d g => exact fun y' H' v e G r => hq v H' (h y' H' v e G r)
      | exc x g => exact h
      | bad => exact h
    refine mono _ _ _ (fun v H1 ⟨k, ek, q⟩ => ⟨k, ek, ?_⟩) p
    cases k
    · simpa using q
    · simpa using q
theorem pw_boolB {c : Bool} {a b : Expr} {rest : List Expr} {Fa Fb : EV} (ha : PT X a (tT X.K X.mg W fun r g => (Fa r g).bind asB)) (hb : PW X (.BoolOp (if c then .And else .Or) (b :: rest) pos) (tT X.K X.mg W fun r g => (Fb r g).bind asB)) :
    PW X (.BoolOp (if c then .And else .Or) (a :: b :: rest) pos) (tT X.K X.mg W fun r g => (((Fa r g).bind asB).bind fun b g => if b = c then Fb r g else .ok (.bl b) g).bind asB) := by
  have key : ∀ σ H Q, (tT X.K X.mg W fun r g => (((Fa r g).bind asB).bind fun b g => if b = c then Fb r g else .ok (.bl b) g).bind asB) σ H Q →
      (tT X.K X.mg W fun r g => (Fa r g).bind asB) σ H fun k H1 => if k = c then (tT X.K X.mg W fun r g => (Fb r g).bind asB) σ H1 Q else Q k H1 := fun σ H Q ⟨y, r, g, S, G, p⟩ => by
    have p : PostG X.K X.mg W (fun _ _ (b c : Bool) => b = c) y σ H Q (((Fa r g).bind asB).bind fun b g => (if b = c then Fb r g else .ok (.bl b) g).bind asB) := by
      dsimp only at p
      rw [Res.assoc] at p
      exact p
    refine bindP (F := fun r g => (Fa r g).bind asB) IsPost.gp S G p fun y1 b g1 v H1 S1 G1 pd e1 p1 => ?_
    subst pd
    by_cases hb : b = c
    · rw [if_pos hb] at p1 ⊢
      exact ⟨y1, r, g1, S1, G1, p1⟩
    · rw [if_neg hb] at p1 ⊢
      exact p1 y1 H1 b (Ext.refl _ _) G1 rfl
  have mono : ∀ {y : Gh} {σ : L2.St} {H : Hp} (R : Res Bool) (Q Q' : Bool → Hp → Prop), (∀ v H, Q v H → Q' v H) → PostG X.K X.mg W (fun _ _ (b c : Bool) => b = c) y σ H Q R → PostG X.K X.mg W (fun _ _ (b c : Bool) => b = c) y σ H Q' R := fun R Q Q' hq h => by
    cases R with
    | ok d g => exact fun y' H' v e G r => hq v H' (h y' H' v e G r)
    | exc x g => exact h
    | bad => exact h
  cases c with
  | true =>
    refine pwI (pw_and ha hb) fun σ H Q q => ?_
    obtain ⟨y, r, g, S, G, p⟩ := key σ H Q q
    refine ⟨y, r, g, S, G, mono _ _ _ (fun k H1 q => ?_) p⟩
    cases k
    · simpa using q
    · simpa using q
  | false =>
    refine pwI (pw_or ha hb) fun σ H Q q => ?_
    obtain ⟨y, r, g, S, G, p⟩ := key σ H Q q
    refine ⟨y, r, g, S, G, mono _ _ _ (fun k H1 q => ?_) p⟩
    cases k
    · simpa using q
    · simpa using q
theorem pe_ifB {c a b : Expr} {Fc Fa Fb : EV} (hc : PT X c (tT X.K X.mg W fun r g => (Fc r g).bind asB)) (ha : PE X a (tX X.K X.mg W m Fa)) (hb : PE X b (tX X.K X.mg W m Fb)) :
    PE X (.IfExp c a b pos) (tX X.K X.mg W m fun r g => ((Fc r g).bind asB).bind fun x g => if x = true then Fa r g else Fb r g) := by
  refine peI (pe_ifExp hc ha hb) fun σ H Q ⟨y, r, g, S, G, p⟩ => ?_
  refine bindP (F := fun r g => (Fc r g).bind asB) IsPost.x S G p fun y1 b g1 v H1 S1 G1 pd e1 p1 => ?_
  subst pd
  cases b with
  | true => exact ⟨y1, r, g1, S1, G1, by simpa using p1⟩
  | false => exact ⟨y1, r, g1, S1, G1, by simpa using p1⟩
theorem pt_ifExp {c a b : Expr} {tc ta tb : TT} (hc : PT X c tc) (ha : PT X a ta) (hb : PT X b tb) : PT X (.IfExp c a b pos) (fun σ H Q => tc σ H fun k H1 => if k = true then ta σ H1 Q else tb σ H1 Q) := by
  refine ⟨fun pins s σ H Q I h => ?_⟩
  show wpAny (model X.prog X.w) X.A (do if ← PySem.isTrue c X.env (eval c X.env) then PySem.isTrue a X.env (eval a X.env) else PySem.isTrue b X.env (eval b X.env)) _ _ _
  refine wpAny_bind (thn (hc.run pins s σ H _ I h) fun k s1 ⟨H1, I1, q⟩ => ?_)
  cases k with
  | true => exact ha.run pins s1 σ H1 Q I1 (by simpa using q)
  | false => exact hb.run pins s1 σ H1 Q I1 (by simpa using q)
theorem pt_ifB {c a b : Expr} {Fc Fa Fb : EV} (hc : PT X c (tT X.K X.mg W fun r g => (Fc r g).bind asB)) (ha : PT X a (tT X.K X.mg W fun r g => (Fa r g).bind asB)) (hb : PT X b (tT X.K X.mg W fun r g => (Fb r g).bind asB)) :
    PT X (.IfExp c a b pos) (tT X.K X.mg W fun r g => (((Fc r g).bind asB).bind fun x g => if x = true then Fa r g else Fb r g).bind asB) := by
  refine ptI (pt_ifExp hc ha hb) fun σ H Q ⟨y, r, g, S, G, p⟩ => ?_
  have p : PostG X.K X.mg W (fun _ _ (b c : Bool) => b = c) y σ H Q (((Fc r g).bind asB).bind fun x g => (if x = true then Fa r g else Fb r g).bind asB) := by
    dsimp only at p
    rw [Res.assoc] at p
    exact p
  refine bindP (F := fun r g => (Fc r g).bind asB) IsPost.gp S G p fun y1 b g1 v H1 S1 G1 pd e1 p1 => ?_
  subst pd
  cases b with
  | true => exact ⟨y1, r, g1, S1, G1, by simpa using p1⟩
  | false => exact ⟨y1, r, g1, S1, G1, by simpa using p1⟩
end
end Bk
end
section
set_option Elab.async false
set_option linter.all false
set_option maxRecDepth 100000
set_option maxHeartbeats 4000000
namespace Bk
open PySem PySem.Spec PyProof.Rows L2 RZ
section
variable {X : Cx} {W : WX} {gl : Nat → Option D} {cl : Nat → List D → List O → Res D} {T : MT} {m : Mode} {pos : Pos}
/-! ### calls -/
theorem run_g {k : Nat} {f : Addr} {fd : FuncData} {ps : List Str} {sp : Sp} {pins : List (Addr × Obj)} {σ : L2.St} {H : Hp} {s : Shared} {Q : VK} {us : List Value} {vs : List V} (F : GFn X.prog X.w X.K X.mg X.base k f fd ps sp) (hr : Room k X.A) (hgd : X.A.guards = some []) (hb : Binds X.K fd ps []) (tk : Takes X W)
    (I : Inv X pins σ H s) (r : Vals vs us) (h : sp vs H Q (WE W σ)) : wpAny (model X.prog X.w) X.A (call (.ref f) us) (EP X pins σ Q) X.xe s := by
  have hl : (us ++ []).length = ps.length := by rw [List.append_nil, ← r.length]; exact F.len _ _ _ _ h
  have b := hb s us I.kIn hl
  rw [List.append_nil] at b
  refine wpAny_call (codeAny_mono (F.run X.A X.stack s H ⟨us, []⟩ us vs Q (WE W σ) hr hgd I.env0 b r h) fun r s' hq => ?_)
  match r, hq with
  | .error e, hq => exact passAt tk σ pins H s e s' I hq
  | .ok (.ret u), hq => exact I.after hq
  | .ok .next, hq => exact False.elim hq
  | .ok .brk, hq => exact False.elim hq
  | .ok .cont, hq => exact False.elim hq
theorem pe_callB1 (h : HX gl cl T X W) {i : Nat} {x : Str} {p : Pos} {es : List Expr} {Fs : EA} (hi : T.fs i = some x) (hg : glB X.env.scope x = true) (hn : nmB x = true) (hs : ∀ e ∈ es, notStar e = true) (h0 : es = [] → Fs = fun _ g => .ok [] g) (ha : PA X es (tA X.K X.mg W false Fs)) (hm : m ≠ .f) :
    PE X (.Call (.Name x p) es [] pos) (tX X.K X.mg W m fun r g => (Fs r g).bind fun ds g => cl i ds g) := by
  obtain ⟨n1, n2, _⟩ := nm_of hn
  obtain ⟨fa, fd, ps, h2, h3, h4, h6, h7⟩ := h.fns i x hi
  have key : ∀ σ H Q, (tX X.K X.mg W m fun r g => (Fs r g).bind fun ds g => cl i ds g) σ H Q → (tA X.K X.mg W false Fs) σ H fun vs H1 => spB X.K X.mg ps.length (cl i) vs H1 Q (WE W σ) := fun σ H Q ⟨y, r, g, S, G, p⟩ => by
    refine bindP IsPost.x S G p fun y1 ds g1 vs H1 S1 G1 pd e1 p1 => ?_
    have hl : ds.length = ps.length := by
      by_cases e : ds.length = ps.length
      · exact e
      · rw [h6 ds g1 e] at p1; exact (IsPost.x.bad p1).elim
    refine ⟨y1, g1, ds, by rw [← (RepsX.f pd).length, hl], RepsX.f pd, G1, ?_⟩
    cases hr : cl i ds g1 with
    | bad => rw [hr] at p1; exact (IsPost.x.bad p1).elim
    | exc c g2 => rw [hr] at p1; exact IsPost.x.exc p1
    | ok d g2 =>
      rw [hr] at p1
      cases m with
      | v => exact fun y' H' v e G r => p1 y' H' v e G r
      | t => exact fun y' H' v e G r => p1 y' H' v e G r.t
      | f => exact absurd rfl hm
  have fin : ∀ {pins : List (Addr × Obj)} {s : Shared} {σ : L2.St} {H : Hp} {Q : VK} {us : List Value} {vs : List V}, Inv X pins σ H s → Vals vs us → spB X.K X.mg ps.length (cl i) vs H Q (WE W σ) → wpAny (model X.prog X.w) X.A (call (.ref fa) us) (EP X pins σ Q) X.xe s := by
    intro pins s σ H Q us vs I r q
    rcases h7 with hb | ⟨k, hr, F⟩
    · obtain ⟨y, g, ds, _, _, _, z⟩ := q
      rw [hb] at z
      exact z.elim
    · exact run_g F hr h.guards h4 h.tk I r q
  refine ⟨fun pins s σ H Q I q => ?_⟩
  have q2 := key σ H Q q
  cases es with
  | nil =>
    refine wpAny_Call_Name_kw (ld_glob I (gl_of hg) h2 ?_ n1)
    refine PySem.W.callWith_K0 I.kIn h3 (fin (us := []) I .nil ?_)
    obtain ⟨y, r, g, S, G, p⟩ := q2
    rw [h0 rfl] at p
    exact p y H [] (Ext.refl _ _) G rfl
  | cons e es =>
    refine wpAny_Call_Name_kw (ld_glob I (gl_of hg) h2 ?_ n1)
    exact PySem.W.callWith_K (h₀ := X.base) I.ok.mod.kin h3 (thn (ha.run pos pins s σ H _ I q2) fun us s1 ⟨vs, H1, I1, r, q3⟩ => ⟨I1.kIn, fin I1 r q3⟩) (star_cons (hs e List.mem_cons_self)) (star_all fun x hx => hs x (List.mem_cons_of_mem _ hx))
/-! ### built-in functions -/
theorem dbg_of {x : Str} {s : String} (e : x = Str.ofString s) (h : (Str.ofString s == Str.ofString "__debug__") = false) : (x == Str.ofString "__debug__") = false := by rw [e]; exact h
theorem pe_biB (h : HX gl cl T X W) {f : Bi} {x : Str} {p : Pos} {es : List Expr} {Fs : EA} (hb : bnB X.env.scope f.nm x = true) (he : es ≠ []) (hs : ∀ e ∈ es, notStar e = true) (ha : PA X es (tA X.K X.mg W true Fs)) :
    PE X (.Call (.Name x p) es [] pos) (tX X.K X.mg W m fun r g => (Fs r g).bind fun ds g => lift (biG g f ds) g) := by
  obtain ⟨ex, hg⟩ := bn_of hb
  have hmg : X.mg x = none := by rw [ex]; exact h.bn _ (by cases f <;> decide)
  have cr := cr_bi (X := X) h.calm h.guards h.units f
  have fin : ∀ σ H Q, (tX X.K X.mg W m fun r g => (Fs r g).bind fun ds g => lift (biG g f ds) g) σ H Q → tCB (rBi X.K f) (tA X.K X.mg W true Fs) σ H Q := fun σ H Q ⟨y, r, g, S, G, p⟩ => by
    refine bindP IsPost.x S G p fun y1 ds g1 vs H1 S1 G1 pd e1 p1 => ?_
    obtain ⟨o, ho, p2⟩ := lift_post IsPost.x p1
    exact ⟨y1, g1, ds, o, G1, pd, ho, PostX.an p2⟩
  cases es with
  | nil => exact absurd rfl he
  | cons e es =>
    have hs1 := star_cons (env := X.env) (es := es) (hs e List.mem_cons_self)
    have hs2 := star_all (env := X.env) (pos := pos) fun x hx => hs x (List.mem_cons_of_mem e hx)
    subst ex
    refine peI (t := tCB (rBi X.K f) (tA X.K X.mg W true Fs)) ?_ fin
    cases f
    · exact pe_callB cr hg hmg (by decide +kernel) ha (by decide) (by decide) hs1 hs2
    · exact pe_callB cr hg hmg (by decide +kernel) ha (by decide) (by decide) hs1 hs2
    · exact pe_callB cr hg hmg (by decide +kernel) ha (by decide) (by decide) hs1 hs2
    · exact pe_callTy cr hg hmg (by decide +kernel) ha (by decide) (by decide) hs1 hs2
    · exact pe_callTy cr hg hmg (by decide +kernel) ha (by decide) (by decide) hs1 hs2
    · exact pe_callB cr hg hmg (by decide +kernel) ha (by decide) (by decide) hs1 hs2
    · exact pe_callTy cr hg hmg (by decide +kernel) ha (by decide) (by decide) hs1 hs2
    · exact pe_callTy cr hg hmg (by decide +kernel) ha (by decide) (by decide) hs1 hs2
    · exact pe_callB cr hg hmg (by decide +kernel) ha (by decide) (by decide) hs1 hs2
    · exact pe_callB cr hg hmg (by decide +kernel) ha (by decide) (by decide) hs1 hs2
    · exact pe_callB cr hg hmg (by decide +kernel) ha (by decide) (by decide) hs1 hs2
    · exact pe_callB cr hg hmg (by decide +kernel) ha (by decide) (by decide) hs1 hs2
theorem pe_tyB (h : HX gl cl T X W) {t : Ty} {y : Str} {p : Pos} (hb : bnB X.env.scope t.nm y = true) : PE X (.Name y p) (tC (.ty t.nm)) := by
  obtain ⟨ey, hg⟩ := bn_of hb
  have hmg : X.mg y = none := by rw [ey]; exact h.bn _ (by cases t <;> decide)
  subst ey
  cases t
  · exact pe_bltn hg hmg (u := .type "int") (by decide +kernel) rfl (by decide) (by decide)
  · exact pe_bltn hg hmg (u := .type "bool") (by decide +kernel) rfl (by decide) (by decide)
  · exact pe_bltn hg hmg (u := .type "tuple") (by decide +kernel) rfl (by decide) (by decide)
  · exact pe_bltn hg hmg (u := .type "list") (by decide +kernel) rfl (by decide) (by decide)
  · exact pe_bltn hg hmg (u := .type "str") (by decide +kernel) rfl (by decide) (by decide)
  · exact pe_bltn hg hmg (u := .type "dict") (by decide +kernel) rfl (by decide) (by decide)
theorem pe_isiB (h : HX gl cl T X W) {t : Ty} {x y : Str} {z : Expr} {p p2 : Pos} {F : EV} (hb : bnB X.env.scope "isinstance" x = true) (ht : bnB X.env.scope t.nm y = true) (hz : notStar z = true) (ha : PE X z (tX X.K X.mg W .t F)) :
    PE X (.Call (.Name x p) [z, .Name y p2] [] pos) (tX X.K X.mg W m fun r g => (F r g).bind fun d g => (lift (isTy d t) g).bind fun b g => .ok (.bl b) g) := by
  obtain ⟨ex, hg⟩ := bn_of hb
  have hmg : X.mg x = none := by rw [ex]; exact h.bn _ (by decide)
  subst ex
  have hpa : PA X [z, .Name y p2] (tCons (tX X.K X.mg W .t F) (tCons (tC (.ty t.nm)) tNil)) := pa_cons ha (pa_cons (pe_tyB h ht) pa_nil (star_cons rfl)) (star_cons hz)
  refine peI (pe_callB (call_isiB t) hg hmg (by decide +kernel) hpa (by decide) (by decide) (star_cons hz) (star_all fun x hx => by
    rcases List.mem_cons.mp hx with rfl | hx
    · rfl
    · cases hx)) fun σ H Q ⟨y, r, g, S, G, p⟩ => ?_
  refine bindP IsPost.x S G p fun y1 d g1 v H1 S1 G1 pd e1 p1 => ?_
  cases ho : isTy d t with
  | none => rw [ho] at p1; exact (IsPost.x.bad p1).elim
  | some b =>
    rw [ho] at p1
    exact ⟨y1, g1, d, b, v, G1, pd, rfl, ho, PostX.bl p1 G1⟩
/-! ### items, slices -/
theorem plainIx_of {b : Expr} (h : notSl b = true) : PlainIx b := by
  intro o i
  cases b <;> first | rfl | exact absurd (show false = true from h) Bool.false_ne_true
theorem pe_ixB (hu : X.A.units + 200 < cLine) {a b : Expr} {Fa Fb : EV} (hm : m ≠ .f) (hb' : notSl b = true) (ha : PE X a (tX X.K X.mg W .t Fa)) (hb : PE X b (tX X.K X.mg W .t Fb)) :
    PE X (.Subscript a b pos) (tX X.K X.mg W m fun r g => (Fa r g).bind fun x g => (Fb r g).bind fun y g => lift (ixD (deref g x) y) g) := by
  refine peI (pe_ix (ix_B (by omega)) ha hb (plainIx_of hb')) fun σ H Q ⟨y, r, g, S, G, p⟩ => ?_
  refine bindP IsPost.x S G p fun y1 d g1 v H1 S1 G1 pd e1 p1 => ?_
  refine bindP IsPost.x S1 G1 p1 fun y2 e g2 w H2 S2 G2 pe e2 p2 => ?_
  obtain ⟨o, ho, p3⟩ := lift_post IsPost.x p2
  refine ⟨y2, g2, d, e, o, G2, pd.mono e2, pe, ho, ?_⟩
  cases m with
  | v => exact Ans.of (mg := X.mg) (W := W) (σ := σ) (t := false) p3
  | t => exact Ans.of (mg := X.mg) (W := W) (σ := σ) (t := true) p3
  | f => exact absurd rfl hm
abbrev tO (K : PySem.W.Frag) (mg : Str → Option Value) (W : WX) (F : List Slot → List O → Res (Option Int)) : TO := tG K mg W (fun _ _ (a b : Option Int) => a = b) F
theorem po_noneB : PO X none (tO X.K X.mg W fun _ g => .ok none g) := ⟨fun pins s σ H Q I ⟨y, r, g, S, G, p⟩ => po_none.run pins s σ H Q I (p y H none (Ext.refl _ _) G rfl)⟩
theorem po_someB {e : Expr} {F : EV} (h : PE X e (tX X.K X.mg W .t F)) : PO X (some e) (tO X.K X.mg W fun r g => (F r g).bind fun d g => lift (optI [d]) g) := by
  refine ⟨fun pins s σ H Q I ⟨y, r, g, S, G, p⟩ => (po_some h).run pins s σ H Q I ?_⟩
  refine bindP IsPost.gp S G p fun y1 d g1 v H1 S1 G1 pd e1 p1 => ?_
  cases d with
  | int i => exact ⟨i, rt_int (show RepT X.K y1 H1 (.int i) v from pd), p1 y1 H1 (some i) (Ext.refl _ _) G1 rfl⟩
  | _ => exact p1.elim
theorem pe_sliceB {a : Expr} {lo hi : Option Expr} {p2 : Pos} {Fa : EV} {Fl Fh : List Slot → List O → Res (Option Int)} (ha : PE X a (tX X.K X.mg W .t Fa)) (hl : PO X lo (tO X.K X.mg W Fl)) (hh : PO X hi (tO X.K X.mg W Fh)) :
    PE X (.Subscript a (.Slice lo hi none p2) pos) (tX X.K X.mg W m fun r g => (Fa r g).bind fun x g => (Fl r g).bind fun l g => (Fh r g).bind fun h g => lift (sliceD x l h) g) := by
  refine peI (pe_slice sl_B ha hl hh) fun σ H Q ⟨y, r, g, S, G, p⟩ => ?_
  refine bindP IsPost.x S G p fun y1 d g1 v H1 S1 G1 pd e1 p1 => ?_
  refine bindP IsPost.x S1 G1 p1 fun y2 l g2 l' H2 S2 G2 el e2 p2 => ?_
  refine bindP IsPost.x S2 G2 p2 fun y3 u g3 u' H3 S3 G3 eu e3 p3 => ?_
  subst el eu
  obtain ⟨o, ho, p4⟩ := lift_post IsPost.x p3
  exact ⟨y3, g3, d, o, G3, RepT.mono e3 (RepT.mono e2 pd), ho, PostX.an p4⟩
/-! ### stars -/
theorem pa_starB {e : Expr} {p : Pos} {es : List Expr} {F : EV} {Fs : EA} (h1 : PE X e (tX X.K X.mg W .t F)) (h2 : PA X es (tA X.K X.mg W false Fs)) :
    PA X (.Starred e p :: es) (tA X.K X.mg W false fun r g => (F r g).bind fun d g => (lift (items d) g).bind fun xs g => (Fs r g).bind fun ds g => .ok (xs ++ ds) g) := by
  refine paI (StX.pa_star h1 h2 rfl) fun σ H Q ⟨y, r, g, S, G, p⟩ => ?_
  refine bindP IsPost.gp S G p fun y1 d g1 v H1 S1 G1 pd e1 p1 => ?_
  cases hd : items d with
  | none => rw [hd] at p1; exact (IsPost.gp.bad p1).elim
  | some xs =>
    rw [hd] at p1
    obtain ⟨a, vs, ea, rr, hq⟩ := seqAt (t := true) hd pd
    refine ⟨a, vs, ea, ?_, ?_⟩
    · rcases hq with hq | hq
      · exact .inr (hq _ _ RchX.refl)
      · exact .inl (hq _ _ RchX.refl)
    · refine bindP (P := RepsX X.K false) IsPost.gp S1 G1 p1 fun y2 ds g2 ws H2 S2 G2 pds e2 p2 => ?_
      refine p2 y2 H2 (vs ++ ws) (Ext.refl _ _) G2 ?_
      have all : ∀ {ds : List D} {vs : List V}, Reps X.K y2 H2 ds vs → RepsX X.K false y2 H2 ds vs := by
        intro ds
        induction ds with
        | nil => intro vs h; simpa only [Reps, RepsX] using h
        | cons d ds ih =>
          intro vs h
          simp only [Reps] at h
          obtain ⟨v, ws, e1, h1, h2⟩ := h
          exact ⟨v, ws, e1, h1, ih h2⟩
      exact all ((Reps.mono e2 _ _ rr).append (RepsX.f pds))
/-! ### tuple(range(..)), list(range(..)) -/
theorem rg_reps {K : PySem.W.Frag} {y : Gh} {H : Hp} {a b : Int} : Reps K y H ((List.range (b - a).toNat).map fun (k : Nat) => D.int (a + k)) (rgV a b) := by
  have e1 : (List.range (b - a).toNat).map (fun (k : Nat) => D.int (a + k)) = ((List.range (b - a).toNat).map fun (k : Nat) => a + (k : Int)).map D.int := by rw [List.map_map]; rfl
  have e2 : rgV a b = ((List.range (b - a).toNat).map fun (k : Nat) => a + (k : Int)).map V.int := by unfold rgV; rw [List.map_map]; rfl
  rw [e1, e2]
  exact Reps.ints
theorem rgD_int {d e : D} {xs : List D} (h : rgD d e = some xs) : ∃ i j, d = .int i ∧ e = .int j ∧ RgOk i j ∧ xs = (List.range (j - i).toNat).map fun (k : Nat) => D.int (i + k) := by
  cases d <;> first | (cases h; done) | skip
  cases e <;> first | (cases h; done) | skip
  rename_i i j
  simp only [rgD] at h
  split at h
  · rename_i hc
    cases h
    exact ⟨i, j, rfl, rfl, ⟨by omega, by omega, by omega, by omega, by omega⟩, rfl⟩
  · cases h
theorem rg_fin {s : Bool} {i j : Int} {σ : L2.St} {y : Gh} {H : Hp} {Q : VK} {g : List O} (p : PostX X.K X.mg W m y σ H Q (.ok (mkSeq s ((List.range (j - i).toNat).map fun (k : Nat) => D.int (i + k))) g)) (G : Good X.K y H g) (q : Addr) (hq : H q = none) :
    Q (.ref q) (upd H q (if s then .tup (rgV i j) else .lst (rgV i j))) := by
  cases s with
  | true => exact (PostX.an p).newT G rg_reps q hq
  | false => exact (PostX.an p).newL G rg_reps q hq
theorem pe_rngB {te : L2.St → Hp → (Int → Int → Hp → Prop) → Prop} {s : Bool} {x : Str} {p pos : Pos} {e : Expr} {F : EV} (h : HX gl cl T X W) (hb : bnB X.env.scope (if s then "tuple" else "list") x = true) (he : PRg X e te) (na : starEach [e] X.env = (false, eval e X.env) :: starEach [] X.env)
    (k : ∀ σ H Q, tX X.K X.mg W m F σ H Q → te σ H fun i j H1 => RgOk i j ∧ ∀ q, H1 q = none → Q (.ref q) (upd H1 q (if s then .tup (rgV i j) else .lst (rgV i j)))) :
    PE X (.Call (.Name x p) [e] [] pos) (tX X.K X.mg W m F) := by
  obtain ⟨ex, hg⟩ := bn_of hb
  have hmg : X.mg x = none := by rw [ex]; exact h.bn _ (by cases s <;> decide)
  subst ex
  cases s with
  | true => exact peI (pe_tupRg h.calm hg hmg he na) k
  | false => exact peI (pe_listRg h.calm hg hmg he na) k
theorem pe_rng1B {s : Bool} {x y : Str} {p p2 pos2 pos : Pos} {a : Expr} {F : EV} (h : HX gl cl T X W) (hb : bnB X.env.scope (if s then "tuple" else "list") x = true) (hr : bnB X.env.scope "range" y = true) (hs : notStar a = true) (ha : PE X a (tX X.K X.mg W .t F)) :
    PE X (.Call (.Name x p) [.Call (.Name y p2) [a] [] pos2] [] pos) (tX X.K X.mg W m fun r g => (F r g).bind fun d g => lift ((rgD (.int 0) d).map (mkSeq s)) g) := by
  obtain ⟨ey, hg⟩ := bn_of hr
  have hmg : X.mg y = none := by rw [ey]; exact h.bn _ (by decide)
  subst ey
  refine pe_rngB h hb (prg_1 hg hmg ha (star_cons hs)) rfl fun σ H Q ⟨y, r, g, S, G, p⟩ => ?_
  refine bindP IsPost.x S G p fun y1 d g1 v H1 S1 G1 pd e1 p1 => ?_
  obtain ⟨o, ho, p2⟩ := lift_post IsPost.x p1
  cases hx : rgD (.int 0) d with
  | none => rw [hx] at ho; cases ho
  | some xs =>
    rw [hx] at ho
    obtain ⟨i, j, e1, rfl, ok, rfl⟩ := rgD_int hx
    cases e1
    cases ho
    exact ⟨j, rt_int (show RepT X.K y1 H1 (.int j) v from pd), ok, fun q hq => rg_fin p2 G1 q hq⟩
theorem pe_rng2B {s : Bool} {x y : Str} {p p2 pos2 pos : Pos} {a b : Expr} {F F2 : EV} (h : HX gl cl T X W) (hb : bnB X.env.scope (if s then "tuple" else "list") x = true) (hr : bnB X.env.scope "range" y = true) (hs : notStar a = true) (hs2 : notStar b = true) (ha : PE X a (tX X.K X.mg W .t F)) (hbb : PE X b (tX X.K X.mg W .t F2)) :
    PE X (.Call (.Name x p) [.Call (.Name y p2) [a, b] [] pos2] [] pos) (tX X.K X.mg W m fun r g => (F r g).bind fun d g => (F2 r g).bind fun e g => lift ((rgD d e).map (mkSeq s)) g) := by
  obtain ⟨ey, hg⟩ := bn_of hr
  have hmg : X.mg y = none := by rw [ey]; exact h.bn _ (by decide)
  subst ey
  refine pe_rngB h hb (prg_2 hg hmg ha hbb (star_cons hs) (star_cons hs2) (star_all (env := X.env) (pos := pos2) fun x hx => by rw [List.mem_singleton.mp hx]; exact hs2)) rfl fun σ H Q ⟨y, r, g, S, G, p⟩ => ?_
  refine bindP IsPost.x S G p fun y1 d g1 v H1 S1 G1 pd e1 p1 => ?_
  refine bindP IsPost.x S1 G1 p1 fun y2 e g2 u H2 S2 G2 pe e2 p2 => ?_
  obtain ⟨o, ho, p3⟩ := lift_post IsPost.x p2
  cases hx : rgD d e with
  | none => rw [hx] at ho; cases ho
  | some xs =>
    rw [hx] at ho
    obtain ⟨i, j, rfl, rfl, ok, rfl⟩ := rgD_int hx
    cases ho
    exact ⟨i, j, rt_int (show RepT X.K y1 H1 (.int i) v from pd), rt_int (show RepT X.K y2 H2 (.int j) u from pe), ok, fun q hq => rg_fin p3 G2 q hq⟩
end
end Bk
end
section
set_option Elab.async false
set_option linter.all false
set_option maxRecDepth 100000
set_option maxHeartbeats 4000000
namespace Bk
open PySem PySem.Spec PyProof.Rows L2 RZ

/-! ## slots set, forgotten -/
section
variable {K : PySem.W.Frag} {y : Gh} {H : Hp} {r r' : List Slot} {σ σ' : L2.St} {g : List O}
theorem SR.monoD {y' : Gh} {H' : Hp} (e : Ext y H y' H') (hd : ∀ a, y.W a → a ∉ y.al) (h : SR K y H r σ) : SR K y' H' r σ :=
  ⟨h.len, fun i s q => by
    obtain ⟨o, e1, h1⟩ := h.at_ i s q
    exact ⟨o, e1, h1.mono e hd⟩, h.dist⟩
theorem SR.off0 {p : Addr} (hD : H p = none) (S1 : SR K y H r σ) : SR K (y.off p) H r σ := by
  refine ⟨S1.len, fun i s q => ?_, S1.dist⟩
  obtain ⟨o, q1, q2⟩ := S1.at_ i s q
  refine ⟨o, q1, ?_⟩
  cases s with
  | no => trivial
  | fz d => obtain ⟨v, q3, q4⟩ := q2; exact ⟨v, q3, Rep.off0 hD _ _ q4⟩
  | own ds => obtain ⟨b, vs, q3, q4, q5, q6⟩ := q2; exact ⟨b, vs, q3, .inl q4, q5, Reps.off0 hD _ _ q6⟩
  | ownK ks ds => obtain ⟨b, vs, q3, q4, q5, q6, q7⟩ := q2; exact ⟨b, vs, q3, .inl q4, q5, q6, Reps.off0 hD _ _ q7⟩
theorem SR.set (S : SR K y H r σ) {d : D} {v : V} (h : Rep K y H d v) (i : Nat) : SR K y H (r.set i (.fz d)) (σ.set i (some v)) := by
  refine ⟨by rw [List.length_set, List.length_set, S.len], fun j s q => ?_, fun a b s t p hab ha hb hs ht h1 h2 => ?_⟩
  · rw [List.getElem?_set] at q ⊢
    by_cases hij : i = j
    · rw [if_pos hij] at q ⊢
      subst hij
      by_cases hl : i < r.length
      · rw [if_pos hl] at q
        rw [if_pos (by rw [← S.len]; exact hl)]
        cases q
        exact ⟨_, rfl, v, rfl, h⟩
      · rw [if_neg hl] at q; cases q
    · rw [if_neg hij] at q ⊢
      exact S.at_ j s q
  · rw [List.getElem?_set] at ha hb h1 h2
    have na : i ≠ a := fun e => by
      subst e
      rw [if_pos rfl] at ha
      split at ha
      · cases ha; cases hs
      · cases ha
    have nb : i ≠ b := fun e => by
      subst e
      rw [if_pos rfl] at hb
      split at hb
      · cases hb; cases ht
      · cases hb
    rw [if_neg na] at ha h1
    rw [if_neg nb] at hb h2
    exact S.dist a b s t p hab ha hb hs ht h1 h2
theorem SR.no (S : SR K y H r σ) (i : Nat) (o : Option V) : SR K y H (r.set i .no) (σ.set i o) := by
  refine ⟨by rw [List.length_set, List.length_set, S.len], fun j s q => ?_, fun a b s t p hab ha hb hs ht h1 h2 => ?_⟩
  · rw [List.getElem?_set] at q ⊢
    by_cases hij : i = j
    · rw [if_pos hij] at q ⊢
      subst hij
      by_cases hl : i < r.length
      · rw [if_pos hl] at q
        rw [if_pos (by rw [← S.len]; exact hl)]
        cases q
        exact ⟨_, rfl, trivial⟩
      · rw [if_neg hl] at q; cases q
    · rw [if_neg hij] at q ⊢
      exact S.at_ j s q
  · rw [List.getElem?_set] at ha hb h1 h2
    have na : i ≠ a := fun e => by
      subst e
      rw [if_pos rfl] at ha
      split at ha
      · cases ha; cases hs
      · cases ha
    have nb : i ≠ b := fun e => by
      subst e
      rw [if_pos rfl] at hb
      split at hb
      · cases hb; cases ht
      · cases hb
    rw [if_neg na] at ha h1
    rw [if_neg nb] at hb h2
    exact S.dist a b s t p hab ha hb hs ht h1 h2
theorem SR.wipe (S : SR K y H r σ) : ∀ vs : List Nat, SR K y H (wipeR r vs) (wipe σ vs)
  | [] => S
  | v :: vs => by
    unfold wipeR L2.wipe
    exact (SR.wipe S vs).no v none
end
theorem wipe_get {σ : L2.St} : ∀ {vs : List Nat} {j : Nat}, (wipe σ vs)[j]? = if j ∈ vs then σ[j]?.map (fun _ => none) else σ[j]?
  | [], j => by simp [wipe]
  | v :: vs, j => by
    unfold L2.wipe
    rw [List.getElem?_set]
    by_cases h : v = j
    · subst h
      rw [if_pos rfl, if_pos List.mem_cons_self, wipe_length]
      by_cases hl : v < σ.length
      · rw [if_pos hl, List.getElem?_eq_getElem hl]; rfl
      · rw [if_neg hl, List.getElem?_eq_none (by omega)]; rfl
    · rw [if_neg h, wipe_get (vs := vs)]
      by_cases hm : j ∈ vs
      · rw [if_pos hm, if_pos (List.mem_cons_of_mem _ hm)]
      · rw [if_neg hm, if_neg (by simp only [List.mem_cons, not_or]; exact ⟨fun e => h e.symm, hm⟩)]
theorem wipe_set {σ : L2.St} {vs : List Nat} {i : Nat} {o : Option V} (h : i ∈ vs) : wipe (σ.set i o) vs = wipe σ vs := by
  apply List.ext_getElem?
  intro j
  rw [wipe_get, wipe_get, List.getElem?_set]
  by_cases hj : j ∈ vs
  · rw [if_pos hj, if_pos hj]
    by_cases e : i = j
    · subst e
      rw [if_pos rfl]
      by_cases hl : i < σ.length
      · rw [if_pos hl, List.getElem?_eq_getElem hl]; rfl
      · rw [if_neg hl, List.getElem?_eq_none (by omega)]
    · rw [if_neg e]
  · rw [if_neg hj, if_neg hj, if_neg fun e : i = j => hj (e ▸ h)]
theorem wipe_wipe {σ : L2.St} {vs : List Nat} : wipe (wipe σ vs) vs = wipe σ vs := by
  apply List.ext_getElem?
  intro j
  rw [wipe_get, wipe_get]
  by_cases hj : j ∈ vs
  · rw [if_pos hj, if_pos hj]
    cases σ[j]? <;> rfl
  · rw [if_neg hj, if_neg hj]

/-! ## targets -/
def gNs : List Nat → TGs
  | [] => gNil
  | i :: is => gCons (gName i) (gNs is)
def tgG (K : PySem.W.Frag) : Tg → TG
  | .nm i => gName i
  | .tp is => fun v σ H Q => gTup K is.length (gNs is) v σ H Q ∨ gUnl K is.length (gNs is) v σ H Q
section
variable {K : PySem.W.Frag} {y : Gh} {H : Hp} {g : List O}
theorem gNs_run {Q : L2.St → Hp → Prop} (ws : List Nat) : ∀ {is : List Nat} {ds : List D} {vs : List V} {r : List Slot} {σ : L2.St}, (∀ i ∈ is, i ∈ ws) → SR K y H r σ → Reps K y H ds vs → is.length = ds.length →
    (∀ σ', SR K y H ((is.zip ds).foldl (fun r p => r.set p.1 (.fz p.2)) r) σ' → wipe σ' ws = wipe σ ws → σ'.length = σ.length → (∀ j, j ∉ is → σ'[j]? = σ[j]?) → Q σ' H) → gNs is vs σ H Q
  | [], [], _, r, σ, hw, S, h, hl, k => by
    simp only [Reps] at h
    exact ⟨h, k σ S rfl rfl fun _ _ => rfl⟩
  | i :: is, d :: ds, _, r, σ, hw, S, h, hl, k => by
    simp only [Reps] at h
    obtain ⟨v, ws', rfl, h1, h2⟩ := h
    refine ⟨v, ws', rfl, ?_⟩
    refine gNs_run ws (is := is) (ds := ds) (fun j hj => hw j (List.mem_cons_of_mem _ hj)) (S.set h1 i) h2 (by simpa using hl) fun σ' S' hw' hlen hne => ?_
    refine k σ' S' (hw'.trans (wipe_set (hw i List.mem_cons_self))) (by rw [hlen, List.length_set]) fun j hj => ?_
    simp only [List.mem_cons, not_or] at hj
    rw [hne j hj.2, List.getElem?_set_ne fun e => hj.1 e.symm]
theorem tg_run {tg : Tg} {d : D} {v : V} {r r' : List Slot} {σ : L2.St} {Q : L2.St → Hp → Prop} (S : SR K y H r σ) (h : Rep K y H d v) (e : setTg r tg d = some r') (k : ∀ σ', SR K y H r' σ' → wipe σ' tg.slots = wipe σ tg.slots → Q σ' H) : tgG K tg v σ H Q := by
  cases tg with
  | nm i =>
    cases e
    exact k _ (S.set h i) (wipe_set List.mem_cons_self)
  | tp is =>
    cases d with
    | tup ds =>
      simp only [setTg] at e
      split at e
      · rename_i hl
        cases e
        simp only [Rep] at h
        obtain ⟨a, vs, ev, h1, h2⟩ := h
        refine .inl ⟨a, vs, ev, h1.sq, by rw [← h2.length, hl], ?_⟩
        exact gNs_run is (fun i hi => hi) S h2 hl fun σ' S' hw _ _ => k σ' S' hw
      · cases e
    | lst ds =>
      simp only [setTg] at e
      split at e
      · rename_i hl
        cases e
        simp only [Rep] at h
        obtain ⟨a, vs, ev, _, h1, h2⟩ := h
        refine .inr ⟨a, vs, ev, .inl (.inl h1), by rw [← h2.length, hl], ?_⟩
        exact gNs_run is (fun i hi => hi) S h2 hl fun σ' S' hw _ _ => k σ' S' hw
      · cases e
    | _ => simp [setTg] at e
end
/-- a list that is there, by its items -/
theorem tg_lst {K : PySem.W.Frag} {y : Gh} {H : Hp} {is : List Nat} {ds : List D} {vs : List V} {a : Addr} {r r' : List Slot} {σ : L2.St} {Q : L2.St → Hp → Prop} (S : SR K y H r σ) (h1 : H a = some (.lst vs)) (h2 : Reps K y H ds vs) (e : setTg r (.tp is) (.lst ds) = some r') (k : ∀ σ', SR K y H r' σ' → Q σ' H) : tgG K (.tp is) (.ref a) σ H Q := by
  simp only [setTg] at e
  split at e
  · rename_i hl
    cases e
    refine .inr ⟨a, vs, rfl, .inl (.inl h1), by rw [← h2.length, hl], ?_⟩
    exact gNs_run is (fun i hi => hi) S h2 hl fun σ' S' hw _ _ => k σ' S'
  · cases e
section
variable {X : Cx}
theorem aE_names {N : List Str} {sc : Scope} {env : Env} : ∀ {is : List Nat} {xs : List Expr}, mNs N sc is xs = true → (assignEach xs env).length = is.length ∧ (assignEach xs env).findIdx? (·.1) = none
  | [], [], _ => ⟨rfl, rfl⟩
  | i :: is, .Name x p :: xs, h => by
    simp only [mNs, Bool.and_eq_true] at h
    obtain ⟨h1, h2⟩ := aE_names (env := env) h.2
    refine ⟨?_, ?_⟩
    · show (assignEach xs env).length + 1 = _
      rw [h1]; rfl
    · show List.findIdx? (·.1) ((false, assign (.Name x p) env) :: assignEach xs env) = none
      rw [List.findIdx?_cons]
      simp [h2]
theorem pgs_of {N : List Str} {sc : Scope} (hN : X.N = N) (hnd : X.N.Nodup) (hl : ∀ x, locB sc x = true → L2.Loc X.env.scope x ∧ (X.fn x = true ∨ X.env.scope.names.lookup x = some .local)) : ∀ {is : List Nat} {xs : List Expr}, mNs N sc is xs = true → PGs X xs (gNs is)
  | [], [], _ => pgs_nil
  | i :: is, .Name x p :: xs, h => by
    simp only [mNs, Bool.and_eq_true, decide_eq_true_eq] at h
    obtain ⟨a, b⟩ := hl x h.1.2
    exact pgs_cons (pg_name hnd (by rw [hN]; exact h.1.1) a b) (pgs_of hN hnd hl h.2) rfl
theorem pg_of {N : List Str} {sc : Scope} (hc : X.calm = true) (hN : X.N = N) (hnd : X.N.Nodup) (hl : ∀ x, locB sc x = true → L2.Loc X.env.scope x ∧ (X.fn x = true ∨ X.env.scope.names.lookup x = some .local)) {tg : Tg} {x : Expr} (h : mTg N sc tg x = true) : PG X x (tgG X.K tg) := by
  cases tg with
  | nm i =>
    cases x <;> first | (exact absurd (show false = true from h) Bool.false_ne_true) | skip
    rename_i x p
    simp only [mTg, Bool.and_eq_true, decide_eq_true_eq] at h
    obtain ⟨a, b⟩ := hl x h.2
    exact pg_name hnd (by rw [hN]; exact h.1) a b
  | tp is =>
    cases x <;> first | (exact absurd (show false = true from h) Bool.false_ne_true) | skip
    rename_i xs k p
    simp only [mTg] at h
    obtain ⟨a, b⟩ := aE_names (env := X.env) h
    exact ⟨fun pins s σ H v u Q I r hw => hw.elim (fun q => (pg_tup hc (pgs_of hN hnd hl h) a b).run pins s σ H v u Q I r q) fun q => (pg_unl hc (pgs_of hN hnd hl h) a b).run pins s σ H v u Q I r q⟩
/-- the target of a block -/
theorem loc_blk {scope sc : Scope} {x : Str} (h : locB scope x = true) : L2.Loc (relS scope sc) x ∧ ((scope.names.lookup x == some .cell) = true ∨ (relS scope sc).names.lookup x = some .local) := by
  rcases loc_of h with h | h
  · exact ⟨.inl (lookup_relS_keep (by decide) h), .inr (lookup_relS_keep (by decide) h)⟩
  · exact ⟨.inr (lookup_relS_keep (by decide) h), .inl (by rw [h]; rfl)⟩
end

/-! ## comprehensions -/
abbrev W0 : WX := fun _ _ _ _ => False
theorem noX_bind {α β : Type} (r : Res α) (f : α → List O → Res β) : noX (r.bind f) = (noX r).bind fun a g => noX (f a g) := by cases r <;> rfl
theorem noX_lift {α : Type} (o : Option α) (g : List O) : noX (lift o g) = lift o g := by cases o <;> rfl
theorem bindN {K : PySem.W.Frag} {mg : Str → Option Value} {y : Gh} {H : Hp} {σ : L2.St} {g : List O} {α β γ : Type} {P : Gh → Hp → α → β → Prop} {T : Res γ → Prop} (hT : ¬ T .bad) {F : List Slot → List O → Res α} {G : α → List O → Res γ} {R : β → Hp → Prop} {r : List Slot}
    (S : SR K y H r σ) (G0 : Good K y H g) (h : T ((noX (F r g)).bind G))
    (k : ∀ y1 a g1 v H1, SR K y1 H1 r σ → Good K y1 H1 g1 → P y1 H1 a v → Ext y H y1 H1 → T (G a g1) → R v H1) : tG K mg W0 P F σ H R := by
  refine ⟨y, r, g, S, G0, ?_⟩
  cases e : F r g with
  | ok a g' =>
    rw [e] at h
    exact fun y' H' v e' G' q => k y' a g' v H' (S.mono e' G0) G' q e' h
  | exc x g' => rw [e] at h; exact (hT h).elim
  | bad => rw [e] at h; exact (hT h).elim
section
variable {X : Cx} {W : WX} {gl : Nat → Option D} {cl : Nat → List D → List O → Res D} {T : MT} {m : Mode} {pos : Pos}
/-- one turn -/
def bdC (tg : Tg) (FB : EB) (FE : EV) (r : List Slot) (acc : List D) (d : D) (g : List O) : Res (List D) :=
  (lift (setTg (wipeR r tg.slots) tg d) g).bind fun r' g => (FB r' g).bind fun b g => if b then (FE r' g).bind fun e g => if acc.length < LIM then .ok (acc ++ [e]) g else .bad else .ok acc g
theorem own_slots {N : List Str} {tg : Tg} : (ownB N tg).map (·.2) = tg.slots := by
  unfold ownB
  rw [List.map_map]
  exact List.map_id _
theorem comp_imp {N : List Str} {tg : Tg} {FI : EA} {FB : EB} {FE : EV} {σ : L2.St} {H : Hp} {Q : VK}
    (q : tX X.K X.mg W m (fun r g => (FI r g).bind fun xs g => (noX (loopC (bdC tg FB FE r) xs [] g)).bind fun ys g => .ok (.lst ys) g) σ H Q) :
    tLc (tI X.K X.mg W true FI) (tgG X.K tg) (tT X.K X.mg W0 FB) (tX X.K X.mg W0 .v FE) ((ownB N tg).map (·.2)) σ H Q := by
  obtain ⟨y, r, g, S, G, p⟩ := q
  rw [own_slots]
  refine bindP (F := FI) IsPost.x S G p fun y1 xs g1 J H1 S1 G1 wof e1 p1 => ?_
  intro D hD
  obtain ⟨GG, YY, wk, hG, hY⟩ := wof (y1.off D) (.inr ⟨D, hD, rfl⟩)
  have hdisj : ∀ a, (y1.off D).W a → a ∉ (y1.off D).al := fun a w z => by
    rcases w with w | w
    · exact (G1.disj a z).2 w
    · obtain ⟨u, q⟩ := G1.zok a (.inr (.inr z))
      exact ne_of_none q hD w
  have S1' : SR X.K (y1.off D) H1 r σ := by
    refine ⟨S1.len, fun i s q => ?_, S1.dist⟩
    obtain ⟨o, q1, q2⟩ := S1.at_ i s q
    refine ⟨o, q1, ?_⟩
    cases s with
    | no => trivial
    | fz d => obtain ⟨v, q3, q4⟩ := q2; exact ⟨v, q3, Rep.off0 hD _ _ q4⟩
    | own ds => obtain ⟨b, vs, q3, q4, q5, q6⟩ := q2; exact ⟨b, vs, q3, .inl q4, q5, Reps.off0 hD _ _ q6⟩
    | ownK ks ds => obtain ⟨b, vs, q3, q4, q5, q6, q7⟩ := q2; exact ⟨b, vs, q3, .inl q4, q5, q6, Reps.off0 hD _ _ q7⟩
  have nbad : ¬ PostX X.K X.mg W m y1 σ H1 Q .bad := fun z => IsPost.x.bad z
  refine lc_it wk (fun i H2 => ∃ y2 g2 acc vs, Ext (y1.off D) H1 y2 H2 ∧ Good X.K y2 H2 g2 ∧ H2 D = some (.lst vs) ∧ Reps X.K y2 H2 acc vs ∧
    PostX X.K X.mg W m y1 σ H1 Q ((noX (loopC (bdC tg FB FE r) (xs.drop i) acc g2)).bind fun ys g => .ok (.lst ys) g)) ?_ ?_ ?_ ?_
  · exact ⟨y1.off D, g1, [], [], ext_new hD, G1.off hD, upd_same, .nil, by rw [List.drop_zero]; exact p1⟩
  · rintro i H2 hi ⟨y2, g2, acc, vs, e2, G2, q1, q2, p2⟩
    exact hG y2 H2 (show Ext (y1.off D) H1 y2 H2 from e2)
  · rintro i v H2 H3 hlt ⟨y2, g2, acc, vs, e2, G2, q1, q2, p2⟩ hy
    obtain ⟨e3, G3, d, hd, rd⟩ := hY y2 H2 g2 i v H3 (show Ext (y1.off D) H1 y2 H2 from e2) G2 hlt hy
    have hdrop : xs.drop i = d :: xs.drop (i + 1) := by
      rw [List.drop_eq_getElem_cons hlt]
      rw [List.getElem?_eq_getElem hlt] at hd
      cases hd; rfl
    have nal : D ∉ y2.al := fun z => (G2.disj D z).2 (by rw [e2.eW]; exact .inr rfl)
    rw [hdrop] at p2
    have p2 := (by
      unfold loopC at p2
      rw [noX_bind, bdC, noX_bind, noX_lift, Res.assoc, Res.assoc] at p2
      exact p2)
    cases hst : setTg (wipeR r tg.slots) tg d with
    | none => rw [hst] at p2; exact (nbad p2).elim
    | some r' =>
      rw [hst] at p2
      simp only [lift_some, Res.bind_ok, noX_bind, Res.assoc] at p2
      have S3 : SR X.K y2 H3 (wipeR r tg.slots) (wipe σ tg.slots) := ((S1'.monoD (e2.trans e3) hdisj)).wipe _
      refine tg_run S3 rd hst fun σ' S' hw => ?_
      refine ⟨hw.trans wipe_wipe, ?_⟩
      have q1' : H3 D = some (.lst vs) := e3.keep _ _ q1 nal
      have q2' := Reps.mono e3 _ _ q2
      refine bindN (F := FB) (T := PostX X.K X.mg W m y1 σ H1 Q) nbad S' G3 p2 fun y4 b g4 b' H4 S4 G4 eb e4 p4 => ?_
      subst eb
      have nal4 : D ∉ y4.al := fun z => (G4.disj D z).2 (by rw [e4.eW, e2.eW]; exact .inr rfl)
      have q14 : H4 D = some (.lst vs) := e4.keep _ _ q1' nal
      have q24 := Reps.mono e4 _ _ q2'
      cases b with
      | false =>
        simp only [Bool.false_eq_true, if_false] at p4 ⊢
        exact ⟨y4, g4, acc, vs, e2.trans (e3.trans e4), G4, q14, q24, p4⟩
      | true =>
        simp only [if_true] at p4 ⊢
        rw [noX_bind, Res.assoc] at p4
        refine bindN (F := FE) (P := RepX X.K false) (T := PostX X.K X.mg W m y1 σ H1 Q) nbad S4 G4 p4 fun y5 e g5 u H5 S5 G5 ru e5 p5 => ?_
        have ru : Rep X.K y5 H5 e u := ru
        have q15 : H5 D = some (.lst vs) := e5.keep _ _ q14 nal4
        have q25 := Reps.mono e5 _ _ q24
        split at p5
        · rename_i hlen
          have wD : y5.W D := by rw [e5.eW, e4.eW, e2.eW]; exact .inr rfl
          obtain ⟨G6, ev⟩ := G5.upd (o := .lst (vs ++ [u])) wD
          refine ⟨vs, q15, by rw [← q25.length]; exact lim_lt (Nat.le_of_lt hlen), y5, g5, acc ++ [e], vs ++ [u], ?_, ?_, upd_same, ?_, p5⟩
          · have E := e2.trans (e3.trans (e4.trans e5))
            refine ⟨E.eA, E.eW, E.pre, fun a o q n => ?_, fun a q => E.dom a ?_⟩
            · rw [upd_ne (ne_of_none q hD)]
              exact E.keep a o q n
            · by_cases ea : a = D
              · subst ea; rw [upd_same] at q; cases q
              · rw [upd_ne ea] at q; exact q
          · exact G6
          · exact Reps.monoS ev _ _ (q25.append (.cons ru .nil))
        · exact (nbad p5).elim
  · rintro H2 ⟨y2, g2, acc, vs, e2, G2, q1, q2, p2⟩
    rw [List.drop_length] at p2
    have p2 : PostX X.K X.mg W m y1 σ H1 Q (.ok (.lst acc) g2) := p2
    have hW : ∀ a, y1.W a → y2.W a := fun a w => by rw [e2.eW]; exact .inl w
    have G3 := G2.back (W0 := y1.W) hW
    have e3 : Ext y1 H1 (y2.back y1.W) H2 := ⟨e2.eA, rfl, e2.pre, e2.keep, e2.dom⟩
    have nal : D ∉ y2.al := fun z => (G2.disj D z).2 (by rw [e2.eW]; exact .inr rfl)
    have hz : ∀ a, (y2.back y1.W).Z a → y2.Z a := fun a z => by
      rcases z with z | z | z
      · exact .inl z
      · exact .inr (.inl (hW a z))
      · exact .inr (.inr z)
    have R3 := (Reps.anti (K := X.K) (y := y2) (H := H2) hz ⟨[], by simp [Gh.back]⟩).2 _ _ q2
    have nz : ¬ (y2.back y1.W).Z D := fun z => by
      rcases z with z | z | z
      · have z : y2.A D := z
        rw [e2.eA] at z
        obtain ⟨u, q⟩ := G1.zok D (.inl z)
        rw [hD] at q; cases q
      · obtain ⟨u, q⟩ := G1.zok D (.inr (.inl z))
        rw [hD] at q; cases q
      · exact nal z
    have rep : Rep X.K (y2.back y1.W) H2 (.lst acc) (.ref D) := by
      simp only [Rep]
      exact ⟨D, vs, rfl, nz, q1, R3⟩
    cases m with
    | v => exact p2 _ H2 (.ref D) e3 G3 rep
    | t => exact p2 _ H2 (.ref D) e3 G3 rep.t
    | f =>
      have eo : (y2.back y1.W).off D = y2 := by
        have hw : y2.W = fun a => y1.W a ∨ a = D := e2.eW
        cases y2
        simp only [Gh.back, Gh.off] at hw ⊢
        rw [hw]
      exact p2 _ H2 D vs e3 (by rw [eo]; exact G2) hD nal q1 (by rw [eo]; exact q2)
theorem pg_blk (h : HX gl cl T X W) {tg : Tg} {tx : Expr} {scope : Scope} (htg : mTg T.N scope tg tx = true) (s : Shared) (H : Hp) (C : Addr) (cl : List (Str × Addr)) (fp : List Addr) : PG (X.blk s H scope (compEnvC scope cl C X.env) fp) tx (tgG X.K tg) :=
  pg_of (X := X.blk s H scope (compEnvC scope cl C X.env) fp) h.calm h.N h.nd (fun z hz => loc_blk (sc := X.env.scope) hz) htg
theorem pe_compB (h : HX gl cl T X W) {tg : Tg} {FI : EA} {FB : EB} {FE : EV} {x tx ix : Expr} {fx : List Expr} {scope : Scope}
    (hi : PI X tx ix (tI X.K X.mg W true FI)) (ok : BlkOk X.N X.env.scope scope (ownB T.N tg)) (htg : mTg T.N scope tg tx = true)
    (ht : ∀ (s : Shared) (H : Hp) (C : Addr) (cl : List (Str × Addr)) (fp : List Addr), PTs (X.blk s H scope (compEnvC scope cl C X.env) fp) fx (tT X.K X.mg W0 FB))
    (he : ∀ (s : Shared) (H : Hp) (C : Addr) (cl : List (Str × Addr)) (fp : List Addr), PE (X.blk s H scope (compEnvC scope cl C X.env) fp) x (tX X.K X.mg W0 .v FE)) (hs : ∀ z, foldedSetIterable ix X.env z = pure z) :
    PE X (.ListComp x [⟨tx, ix, fx, 0⟩] scope pos) (tX X.K X.mg W m fun r g => (FI r g).bind fun xs g => (noX (loopC (bdC tg FB FE r) xs [] g)).bind fun ys g => .ok (.lst ys) g) :=
  peI (pe_lc h.calm h.nd hi ok (pg_blk h htg) ht he hs) fun σ H Q q => comp_imp q
/-- name = [..] on one line -/
theorem ps_compB (h : HX gl cl T X W) {tg : Tg} {FI : EA} {FB : EB} {FE : EV} {x tx ix : Expr} {fx : List Expr} {scope : Scope} {i : Nat} {z : Str} {pz spos : Pos}
    (hi : PI X tx ix (tI X.K X.mg W true FI)) (ok : BlkOk X.N X.env.scope scope (ownB T.N tg)) (htg : mTg T.N scope tg tx = true)
    (ht : ∀ (s : Shared) (H : Hp) (C : Addr) (cl : List (Str × Addr)) (fp : List Addr), PTs (X.blk s H scope (compEnvC scope cl C X.env) fp) fx (tT X.K X.mg W0 FB))
    (he : ∀ (s : Shared) (H : Hp) (C : Addr) (cl : List (Str × Addr)) (fp : List Addr), PE (X.blk s H scope (compEnvC scope cl C X.env) fp) x (tX X.K X.mg W0 .v FE)) (hs : ∀ z, foldedSetIterable ix X.env z = pure z)
    (hz : X.N[i]? = some z) (hl : X.env.scope.names.lookup z = some .local) (hsw : swapsWith (.ListComp x [⟨tx, ix, fx, 0⟩] scope pos) (some (.Name z pz)) spos.line X.env = pure true) :
    PS X (.Assign [.Name z pz] (.ListComp x [⟨tx, ix, fx, 0⟩] scope pos) spos) (tAsg (tX X.K X.mg W m fun r g => (FI r g).bind fun xs g => (noX (loopC (bdC tg FB FE r) xs [] g)).bind fun ys g => .ok (.lst ys) g) (gName i)) :=
  ⟨fun pins s σ H D I q => (ps_setLc h.calm h.nd hz hl hsw hi ok (pg_blk h htg) ht he hs).run pins s σ H D I (comp_imp q)⟩
end
end Bk
end
section
set_option Elab.async false
set_option linter.all false
set_option maxRecDepth 100000
set_option maxHeartbeats 4000000
namespace Bk
open PySem PySem.Spec PyProof.Rows L2 RZ
/-! ## x[::-1] -/
section
variable {prog : Program} {w : World} {A : Around} {E : Value → Shared → Prop} {s : Shared}
theorem places_rev (n : Nat) : Builtin.Slice.slicePlaces ((n : Int) - 1) (-1) (-1) = n := by
  unfold Builtin.Slice.slicePlaces
  have h1 : ¬ ((-1 : Int) > 0) := by omega
  simp only [h1, if_false]
  split
  · have e : (-(-1) : Int) = 1 := by decide
    rw [e, Int.ediv_one]
    omega
  · omega
theorem pick_rev (xs : Array Value) : ((List.range xs.size).filterMap fun (m : Nat) => xs[(((xs.size : Nat) : Int) - 1 + (m : Int) * (-1)).toNat]?).toArray = xs.toList.reverse.toArray := by
  have e : (List.range xs.size).filterMap (fun (m : Nat) => xs[(((xs.size : Nat) : Int) - 1 + (m : Int) * (-1)).toNat]?) = ((List.range xs.size).map fun k => xs.size - 1 - k).filterMap (fun m => xs[m]?) := by
    rw [List.filterMap_map]
    have go : ∀ l : List Nat, (∀ k ∈ l, k < xs.size) → l.filterMap (fun (m : Nat) => xs[(((xs.size : Nat) : Int) - 1 + (m : Int) * (-1)).toNat]?) = l.filterMap ((fun m => xs[m]?) ∘ fun k => xs.size - 1 - k) := by
      intro l
      induction l with
      | nil => intro _; rfl
      | cons k l ih =>
        intro hk
        have hk0 := hk k List.mem_cons_self
        have e2 : (((xs.size : Nat) : Int) - 1 + (k : Int) * (-1)).toNat = xs.size - 1 - k := by omega
        rw [List.filterMap_cons, List.filterMap_cons, ih fun j hj => hk j (List.mem_cons_of_mem _ hj), e2]
        rfl
    exact go _ fun k hk => List.mem_range.mp hk
  rw [e, PySem.W.krv_range, List.filterMap_reverse, PySem.W.krv_all]
theorem sliceApplied_rev {sl : Addr} {vl vu vs : Value} {n : Nat} {Q : Int × Int × Nat → Shared → Prop} (hs : s.heap.IsSliceOf sl vl vu vs) (pl : IsPart vl none) (pu : IsPart vu none) (ps : IsPart vs (some (-1)))
    (h : Q ((n : Int) - 1, -1, n) s) : wpAny (model prog w) A (Builtin.Slice.sliceApplied (.ref sl) (pure (n : Int))) Q E s := by
  obtain ⟨os, hos, hcs, hds⟩ := id hs
  unfold Builtin.Slice.sliceApplied Builtin.Slice.sliceFields
  refine wpAny_bind (wpAny_bind (wpAny_field hos hds (x := vl) rfl (wpAny_bind (wpAny_field hos hds (x := vu) rfl (wpAny_bind (wpAny_field hos hds (x := vs) rfl (wpAny_pure ?_)))))))
  refine wpAny_bind (HT.slicePart_ ps ?_)
  show wpAny _ _ (if ((-1 : Int) == 0) = true then _ else _) _ _ s
  rw [if_neg (by decide)]
  refine wpAny_bind (HT.slicePart_ pl (wpAny_bind (HT.slicePart_ pu (wpAny_bind (wpAny_pure ?_)))))
  show wpAny _ _ (match Builtin.Slice.sliceAdjust none none (-1) (n : Int) with | (lo, hi) => pure (lo, (-1 : Int), Builtin.Slice.slicePlaces lo hi (-1))) _ _ s
  have e : Builtin.Slice.sliceAdjust none none (-1) (n : Int) = ((n : Int) - 1, -1) := rfl
  rw [e]
  show wpAny _ _ (pure ((n : Int) - 1, (-1 : Int), Builtin.Slice.slicePlaces ((n : Int) - 1) (-1) (-1))) _ _ s
  rw [places_rev]
  exact wpAny_pure h
theorem getItem_tuple_rev {t sl : Addr} {items : Array Value} {vl vu vs : Value} {Q : Value → Shared → Prop} (ht : IsTup s.heap t items) (hs : s.heap.IsSliceOf sl vl vu vs) (pl : IsPart vl none) (pu : IsPart vu none) (ps : IsPart vs (some (-1)))
    (h : Q (.ref s.heap.objs.size) { s with heap := s.heap.push { cls := .type "tuple", data := .seq items.toList.reverse.toArray } })
    (hsz : items.size ≤ sizeLine) : wpAny (model prog w) A (getItem (.ref t) (.ref sl)) Q E s := by
  have htake : sizeOk (.seq items.toList.reverse.toArray) := by
    show items.toList.reverse.toArray.size ≤ sizeLine
    rw [List.size_toArray, List.length_reverse, Array.length_toList]
    exact hsz
  obtain ⟨os, hos, hcs, hds⟩ := id hs
  have hTs : s.TypeIs (.ref sl) "slice" := ⟨os, hos, hcs⟩
  unfold getItem
  try with_reducible refine wpAny_holding ?_
  first | refine wpAny_bind (wpAny_pure ?_) | skip
  refine wpAny_bind (wpAny_sequenceKey ht.typeIs (by decide) ?_)
  refine wpAny_bind (wpAny_callSpecial?_slot (name := Str.ofString "__getitem__") ht.typeIs PyProof.Rows.slot_tuple_getitem
    (wpAny_call_entry PyProof.Rows.slot_tuple_getitem ht.typeIs entry_tuple_getitem ?_ (args_tuple_getitem _ _)))
  show wpAny _ _ (Builtin.Tuple.tupleItemsOf (.ref t) >>= _) _ _ s
  refine wpAny_bind (tupleItemsOf_ ht ?_)
  refine wpAny_bind (wpAny_typeOf hTs ?_)
  rw [if_pos (by decide)]
  refine wpAny_bind (sliceApplied_rev hs pl pu ps ?_)
  have hno : ¬ ((((items.size : Nat) : Int) - 1 == 0 && (-1 : Int) == 1 && (items.size == items.size)) = true) := by
    intro q
    rw [Bool.and_eq_true, Bool.and_eq_true] at q
    exact absurd q.1.2 (by decide)
  show wpAny _ _ (if (((items.size : Nat) : Int) - 1 == 0 && (-1 : Int) == 1 && (items.size == items.size)) = true then _ else _) _ _ s
  rw [if_neg hno, pick_rev]
  first
    | exact wpAny_bind (m := Builtin.Tuple.tupleExact _) (wpAny_newObj_type (wpAny_pure ⟨_, rfl, wpAny_pure h⟩) htake)
    | exact wpAny_bind (m := Builtin.Tuple.tupleExact _) (wpAny_newObj_type (wpAny_bind (wpAny_pure (wpAny_pure ⟨_, rfl, wpAny_pure h⟩))) htake)
    | exact wpAny_bind (wpAny_bind (m := Builtin.Tuple.tupleExact _) (wpAny_newObj_type (wpAny_pure (wpAny_pure ⟨_, rfl, wpAny_pure h⟩)) htake))
    | exact wpAny_bind (wpAny_bind (m := Builtin.Tuple.tupleExact _) (wpAny_newObj_type (wpAny_pure ⟨_, rfl, wpAny_pure h⟩) htake))
end
section
variable {X : Cx} {W : WX} {gl : Nat → Option D} {cl : Nat → List D → List O → Res D} {T : MT} {m : Mode} {pos : Pos}
def tRevB (K : PySem.W.Frag) (te : TE) : TE := fun σ H Q => te σ H fun x H1 => ∃ a xs, x = .ref a ∧ ((SqL K H1 a xs ∧ ∀ p, H1 p = none → Q (.ref p) (upd H1 p (.lst xs.reverse))) ∨ (SqT K H1 a xs ∧ ∀ p, H1 p = none → Q (.ref p) (upd H1 p (.tup xs.reverse))))
theorem pe_rev0 {e : Expr} {te : TE} {k : Nat} {p1 p2 p3 pos : Pos} (he : PE X e te) : PE X (.Subscript e (.Slice none none (some (.UnaryOp .USub (.Constant (.int 1) k p1) p2)) p3) pos) (tRevB X.K te) := by
  refine ⟨fun pins s σ H Q I h => ?_⟩
  refine Subscript_ (thn (he.run pins s σ H _ I h) fun v s1 ⟨x, H1, I1, r1, q1⟩ => ?_)
  obtain ⟨a, xs, ex, hx⟩ := q1
  subst ex
  cases r1
  have hst : PO X (some (.UnaryOp .USub (.Constant (.int 1) k p1) p2)) (tPart (tUn (rU fun i => .int (-i)) (tC (.int 1)))) := po_some (pe_un un_neg pe_int)
  refine wpAny_Slice (thn (po_none.run pins s1 σ H1 (fun o H2 => o = none ∧ H2 = H1) I1 ⟨rfl, rfl⟩) fun vl s2 ⟨l, H2, I2, pl, el, e2⟩ => ?_)
  subst el e2
  refine thn (po_none.run pins s2 σ H2 (fun o H3 => o = none ∧ H3 = H2) I2 ⟨rfl, rfl⟩) fun vu s3 ⟨u, H3, I3, pu, eu, e3⟩ => ?_
  subst eu e3
  refine thn (hst.run pins s3 σ H3 (fun o H4 => o = some (-1) ∧ H4 = H3) I3 ⟨1, rfl, -1, rfl, rfl, rfl⟩) fun vs s4 ⟨o, H4, I4, ps, eo, e4⟩ => ?_
  subst eo e4
  have I5 : Inv X pins σ H4 { s4 with heap := s4.heap.push { cls := .type "slice", data := .fields #[vl, vu, vs] } } := I4.kept (t' := s4.toks) fun b ob q => Heap.get?_push_of_some _ q
  show wpAny (model X.prog X.w) X.A (subscriptTail e (.Slice none none (some (.UnaryOp .USub (.Constant (.int 1) k p1) p2)) p3) (.ref a) (.ref s4.heap.objs.size)) (EP X pins σ Q) X.xe { s4 with heap := s4.heap.push { cls := .type "slice", data := .fields #[vl, vu, vs] } }
  rcases hx with ⟨hx, q⟩ | ⟨hx, q⟩
  · obtain ⟨its, r, ht, hz⟩ := I5.list hx
    have hlen := r.length
    refine tail_any (ops := [.ref a, .ref s4.heap.objs.size]) ht.isList.typeIs (PySem.slot_list_getitem.lookup) ?_ (by with_unfolding_all rfl)
    refine wpAny_getItem_list_slice ht.isList (Heap.IsSliceOf.new _ vl vu vs) pl pu ps (by decide) ?_ (by rw [List.size_toArray]; omega)
    rw [PySem.W.krv_pick]
    refine ⟨.ref _, _, I5.laid (t' := s4.toks) (o := .lst xs.reverse) (fun b ob q => Heap.get?_push_of_some _ q) (Nat.le_refl _) ?_, rfl, q _ (I5.hok.fresh (Nat.le_refl _))⟩
    exact ⟨by rw [List.length_reverse]; exact hz, _, 0, r.reverse, Heap.get?_push_size _ rfl⟩
  · obtain ⟨its, r, ht, hz⟩ := I5.tuple hx
    have hlen := r.length
    refine tail_any (ops := [.ref a, .ref s4.heap.objs.size]) ht.typeIs (PyProof.Rows.slot_tuple_getitem.lookup) ?_ (by with_unfolding_all rfl)
    refine getItem_tuple_rev ht (Heap.IsSliceOf.new _ vl vu vs) pl pu ps ?_ (by rw [List.size_toArray]; omega)
    refine ⟨.ref _, _, I5.laid (t' := s4.toks) (o := .tup xs.reverse) (fun b ob q => Heap.get?_push_of_some _ q) (Nat.le_refl _) ?_, rfl, q _ (I5.hok.fresh (Nat.le_refl _))⟩
    exact ⟨by rw [List.length_reverse]; exact hz, _, r.reverse, IsTup.new _ _⟩
theorem pe_revB {e : Expr} {k : Nat} {p1 p2 p3 : Pos} {Fa : EV} (he : PE X e (tX X.K X.mg W .t Fa)) :
    PE X (.Subscript e (.Slice none none (some (.UnaryOp .USub (.Constant (.int 1) k p1) p2)) p3) pos) (tX X.K X.mg W m fun r g => (Fa r g).bind fun x g => lift (revD x) g) := by
  refine peI (pe_rev0 he) fun σ H Q ⟨y, r, g, S, G, p⟩ => ?_
  refine bindP IsPost.x S G p fun y1 d g1 v H1 S1 G1 pd e1 p1 => ?_
  obtain ⟨o, ho, p4⟩ := lift_post IsPost.x p1
  have a := PostX.an p4
  cases d with
  | lst ds =>
    simp only [revD, Option.some.injEq] at ho; subst ho
    obtain ⟨q, vs, rfl, hp, rr⟩ := rt_lst pd
    exact ⟨q, vs, rfl, .inl ⟨.inl (.inl hp), fun p hp => a.newL G1 rr.reverse p hp⟩⟩
  | tup ds =>
    simp only [revD, Option.some.injEq] at ho; subst ho
    obtain ⟨q, vs, rfl, hp, rr⟩ := rt_tup pd
    exact ⟨q, vs, rfl, .inr ⟨hp, fun p hp => a.newT G1 rr.reverse p hp⟩⟩
  | _ => simp [revD] at ho
/-! ## sorted(set(x)) -/
def rSetB (K : PySem.W.Frag) (w : World) : List V → Hp → VK → Prop := fun vs H Q => ∃ (a : Addr) (ns : List Int), vs = [V.ref a] ∧ (SqL K H a (ns.map V.int) ∨ SqT K H a (ns.map V.int)) ∧ ns.length + 1 < scanBound ∧
  ∀ p c, H p = none → Q (.ref p) (upd H p (SetO w p (fun j => decide (j ∈ ns)) c))
/-- a new set, empty -/
def setObj0 (w : World) : Obj := { cls := .type "set", dict := none, data := .set #[] 0 (.fresh 0 0 (!w.params.followText "set-order")) }
section
variable {P : Program} {w : World} {A : Around} {E : Value → Shared → Prop} {s : Shared}
/-- what filling the new set from a list comes to -/
theorem set_fill_list {l : Addr} {items : Array Value} {ns : List Int} {B : Around} (hB : B.handled = none) (hl : s.heap.IsList l items) (hit : IntsAre items.toList ns) (hb : ns.length + 1 < scanBound) {R : Result → Shared → Prop}
    (hR : ∀ (h' : Heap) (tk c : Nat), SetR w h' s.heap.objs.size (fun j => decide (j ∈ ns)) c → (∀ b o, s.heap.get? b = some o → h'.get? b = some o) → R (.ok (.ret .none)) { s with heap := h', toks := tk }) :
    codeAny (model P w) B (.builtin "set.update.loop" ⟨[.ref s.heap.objs.size, .ref (s.heap.push (setObj0 w)).objs.size], []⟩) R { s with heap := (s.heap.push (setObj0 w)).push { cls := .type "list_iterator", data := .fields #[.ref l, .int 0 0] } } := by
  have hn : items.size = ns.length := by rw [← Array.length_toList]; exact IntsAre.length hit
  have z1 : (s.heap.push (setObj0 w)).objs.size = s.heap.objs.size + 1 := Heap.size_push ..
  obtain ⟨ol, hol, _⟩ := id hl
  have hlt : l < s.heap.objs.size := Heap.lt_size hol
  have hne : l ≠ (s.heap.push (setObj0 w)).objs.size := by rw [z1]; exact Nat.ne_of_lt (Nat.lt_succ_of_lt hlt)
  have hS : (s.heap.push (setObj0 w)).get? s.heap.objs.size = some (setObj0 w) := Heap.get?_push_size _ rfl
  have val : ∀ (i : Nat) (v : Value), items[i]? = some v → ∃ k t, ns[i]? = some k ∧ v = .int k t := by
    intro i v hv
    have hi : i < ns.length := by rw [← hn]; exact (Array.getElem?_eq_some_iff.mp hv).1
    obtain ⟨t, e⟩ := PyProof.Rows.IntsAre.int_at hit i v (by rw [Array.getElem?_toList]; exact hv)
    exact ⟨ns[i], t, List.getElem?_eq_getElem hi, by rw [e, List.getD_eq_getElem?_getD, List.getElem?_eq_getElem hi]; rfl⟩
  have out : s.heap.objs.size ∉ [(s.heap.push (setObj0 w)).objs.size, l] := by
    rw [z1]
    intro q
    rcases List.mem_cons.mp q with q | q
    · exact Nat.ne_of_lt (Nat.lt_succ_self _) q
    · exact Nat.ne_of_gt hlt (List.mem_singleton.mp q)
  refine set_update_ints ((Walks.list (by simp [hB]) _ l hne items).toS) s.heap.objs.size out ns hn hb val (items.size - 0) 0 _ rfl (Nat.zero_le _) ⟨⟨_, Heap.get?_push_size _ rfl, rfl, rfl⟩, (hl.push _).push _⟩ ⟨0, Nat.le_refl 0, setR_new_at (Heap.get?_push_of_some _ hS)⟩ fun s' c hm _ hc => ?_
  obtain ⟨h', g2, d', tk', os'⟩ := s'
  cases show g2 = s.gens from hm.gens
  cases show d' = s.drawn from hm.drawn
  cases show os' = s.os from hm.os
  refine hR h' tk' c hc fun b o e => hm.heap b o (fun q => ?_) (Heap.get?_push_of_some _ (Heap.get?_push_of_some _ e))
  have hbl : b < s.heap.objs.size := Heap.lt_size e
  rcases List.mem_cons.mp q with q | q
  · exact Nat.ne_of_lt hbl q
  · have q := List.mem_singleton.mp q
    rw [z1] at q
    exact Nat.ne_of_lt (Nat.lt_succ_of_lt hbl) q
/-- set(l) of a list of ints -/
theorem call_set_lst {l : Addr} {items : Array Value} {ns : List Int} {Q : Value → Shared → Prop} (hh : A.handled = none) (hl : s.heap.IsList l items) (hit : IntsAre items.toList ns) (hb : ns.length + 1 < scanBound)
    (h : ∀ (h' : Heap) (tk c : Nat), SetR w h' s.heap.objs.size (fun j => decide (j ∈ ns)) c → (∀ b o, s.heap.get? b = some o → h'.get? b = some o) → Q (.ref s.heap.objs.size) { s with heap := h', toks := tk }) :
    wpAny (model P w) A (call (.type "set") [.ref l]) Q E s := by
  obtain ⟨_, _, hmro⟩ := F.called_set.mro
  have q1 := F.called_set.made
  have q2 := F.called_set.sub
  have q3 := F.called_set.notType
  have q4 := F.called_set.canCreate
  have q5 := F.typeCall_set_1 (.ref l)
  refine wpAny_call (codeAny_of_tree (wpAny_pure ⟨Code.quiet_builtin _ (by decide +kernel), codeAny_builtin F.entry_type_call ?_⟩))
  rw [Around.under_plain (weight_type_call_type "set" [.ref l] []) rfl]
  repeat (any_goals (first | assumption | wp_step))
  refine codeAny_mono (code_set_led1 (.ref l) (E := E) (Q₁ := fun v z => v = .ref s.heap.objs.size ∧ z = { s with heap := s.heap.push (setObj0 w) }) ⟨rfl, rfl⟩) fun r z hr => ?_
  match r, hr with
  | .error _, hr => exact hr
  | .ok .next, hr => exact hr.elim
  | .ok .brk, hr => exact hr.elim
  | .ok .cont, hr => exact hr.elim
  | .ok (.ret v), ⟨e1, e2⟩ =>
    subst e1 e2
    have hS : (s.heap.push (setObj0 w)).get? s.heap.objs.size = some (setObj0 w) := Heap.get?_push_size _ rfl
    have hT : Shared.TypeIs { s with heap := s.heap.push (setObj0 w) } (.ref s.heap.objs.size) "set" := ⟨_, hS, rfl⟩
    have q6 := F.called_set.init.lookup
    have q7 := F.called_set.init.bind (.ref s.heap.objs.size)
    repeat (any_goals (first | assumption | wp_step))
    refine codeAny_mono (codeAny_call_builtin (R := wants (fun r z => r = .none ∧ ∃ h' tk c, z = { s with heap := h', toks := tk } ∧ SetR w h' s.heap.objs.size (fun j => decide (j ∈ ns)) c ∧ ∀ b o, s.heap.get? b = some o → h'.get? b = some o) E)
      F.called_set.init.plain F.entry_set_init (check_set_init_1 hT ?_)) fun r z hr => ?_
    · obtain ⟨⟨cl, od, dt, sl⟩, hol, hcl, nl, hdl⟩ := id hl
      simp only at hcl hdl
      subst hcl hdl
      have hol1 := Heap.get?_push_of_some (setObj0 w) hol
      have p1 := F.sub_list_set
      have p2 := F.sub_list_frozenset
      have p3 : (Value.type "list" == Value.type "dict") = false := by decide
      unfold Builtin.«set.__init__» noKeywords Builtin.Frozenset.updateFrom
      generalize hPI : pyIter = PI
      wp_walk
      subst hPI
      refine wpAny_pyIter_list (hl.push _) (wpAny_bind (wpAny_runValue (set_fill_list (by simp [hh]) hl hit hb fun h' tk c hS2 k => ?_)))
      refine wpAny_pure ?_
      exact wpAny_pure ⟨rfl, h', tk, c, rfl, hS2, k⟩
    · match r, hr with
      | .error _, hr => exact hr
      | .ok .next, hr => exact hr.elim
      | .ok .brk, hr => exact hr.elim
      | .ok .cont, hr => exact hr.elim
      | .ok (.ret v), ⟨e1, h', tk, c, e2, hS2, k⟩ =>
        subst e1 e2
        repeat (any_goals (first | assumption | wp_step))
        exact h _ _ _ hS2 k
/-- sorted(s) of a set of ints -/
theorem sorted_setA {a : Addr} {S : Int → Bool} {n : Nat} {Q : Value → Shared → Prop} (R : SetR w s.heap a S n) (hh : A.handled = none)
    (hQ : ∀ s' p (out : Array Value) (c : Nat) (ns : List Int), (∀ b o, s.heap.get? b = some o → s'.heap.get? b = some o) → s'.gens = s.gens → s'.os = s.os → s.heap.objs.size ≤ p → s'.heap.get? p = some (seqObj "list" out c) → IntsAre out.toList ns →
      ns.Pairwise (· < ·) → (∀ k, k ∈ ns ↔ S k = true) → ns.length < scanBound → Q (.ref p) s') : wpAny (model P w) A (call (.builtin "sorted") [.ref a]) Q E s := by
  obtain ⟨o, es, ep, t, ho, hex, hd, hg, hnd, hmem, hsz, hfit, _, hris, hled⟩ := R
  refine Calls.call_function_entry PyProof.Rows.kind_sorted PyProof.Rows.plain_sorted PyProof.Rows.entry_sorted (PyProof.Rows.args_sorted1 _) ?_
  unfold Builtin.«sorted»
  refine wpAny_bind (m := checkCount "sorted" 1 1 _) (wpAny_pure (wpAny_bind (collect_set (A := A.in1) hh ⟨o, ho, hex.1, hd⟩ hfit hsz hris hled fun s1 vs k1 le1 g1 o1 pm => ?_)))
  have hI : IntsAre vs (vs.map SrtO.iv) := SrtO.ints_iv fun v hv => by
    obtain ⟨e, he, q⟩ := List.mem_map.mp (pm.mem_iff.mp hv)
    obtain ⟨k, tk, e1, _⟩ := hg e he
    exact ⟨k, tk, q.symm.trans e1⟩
  have hpk : (vs.map SrtO.iv).Perm (es.toList.map keyOf) := by
    have q := pm.map SrtO.iv
    rw [List.map_map] at q
    have ee : es.toList.map (SrtO.iv ∘ fun x => x.2) = es.toList.map keyOf := List.map_congr_left fun e he => by
      obtain ⟨k, tk, e1, _⟩ := hg e he
      obtain ⟨h, v⟩ := e
      have e1 : v = .int k tk := e1
      subst e1
      rfl
    rw [ee] at q
    exact q
  have hvl : vs.length < scanBound := by
    rw [pm.length_eq, List.length_map, Array.length_toList]; exact hsz
  have hz : vs.length ≤ sizeLine := Nat.le_trans (Nat.le_of_lt hvl) (by decide)
  refine wpAny_bind (wpAny_newList ?_ hz)
  have hob : (s1.heap.push (seqObj "list" vs.toArray 0)).get? s1.heap.objs.size = some (seqObj "list" vs.toArray 0) := Heap.get?_push_size _ rfl
  refine wpAny_bind (wpAny_holding (wpAny_call_entry PyProof.Rows.slot_list_sort ⟨_, hob, rfl⟩ PyProof.Rows.entry_list_sort
    (SrtO.list_sort_ord SrtO.swo_int hob hz (fun h2 => SrtO.ints_sortable hI h2) fun out w1 w2 => ⟨.none, rfl, ?_⟩) (PyProof.Rows.args_list_sort _)))
  obtain ⟨k1', k2, k3⟩ := SrtO.ints_out hI w1 w2
  obtain ⟨ep', he'⟩ := PyProof.Rows.sortedHeap_at (vs := vs) (out := out.toArray) hob
  have pn := k2.trans hpk
  refine wpAny_pure ⟨_, rfl, hQ _ s1.heap.objs.size out.toArray ep' (out.map SrtO.iv) (fun b u q => ?_) g1 o1 le1 he' (by simpa using k1') (lt_of_le_nodup _ k3 (pn.nodup_iff.mpr hnd)) (fun k => by rw [pn.mem_iff, ← hmem k]) ?_⟩
  · have q2 := k1 b u q
    have hlt := Heap.lt_size q2
    show (PyProof.Rows.sortedHeap (s1.heap.push (seqObj "list" vs.toArray 0)) s1.heap.objs.size vs out.toArray).get? b = some u
    rw [PyProof.Rows.sortedHeap_old (Nat.ne_of_lt hlt) (Heap.lt_size (Heap.get?_push_of_some _ q2))]
    exact Heap.get?_push_of_some _ q2
  · rw [pn.length_eq, List.length_map, Array.length_toList]; exact hsz
end
theorem cr_setB (hc : X.calm = true) : CallR X (.type "set") (rSetB X.K X.w) := by
  intro pins s σ H xs us Q I r h
  obtain ⟨a, ns, rfl, hs, hb, q⟩ := h
  rw [Vals.ref1 r]
  have fin : ∀ (h' : Heap) (tk c : Nat), SetR X.w h' s.heap.objs.size (fun j => decide (j ∈ ns)) c → (∀ b o, s.heap.get? b = some o → h'.get? b = some o) → EP X pins σ Q (.ref s.heap.objs.size) { s with heap := h', toks := tk } := fun h' tk c R k =>
    ⟨.ref s.heap.objs.size, upd H s.heap.objs.size (SetO X.w s.heap.objs.size (fun j => decide (j ∈ ns)) c), I.laid (t' := tk) k (Nat.le_refl _) (setO_new R), rfl, q _ c (I.hok.fresh (Nat.le_refl _))⟩
  rcases hs with hs | hs
  · obtain ⟨its, rv, pl, hz⟩ := I.list hs
    exact call_set_lst (I.ok.hd hc) pl.isList (by simpa using rv.ints) hb fun h' tk c R k => fin h' tk c R k
  · obtain ⟨its, rv, pt, hz⟩ := I.tuple hs
    exact call_set_tupI ns (I.ok.hd hc) (show s.heap.IsTuple a its.toArray from pt) (by simpa using rv.ints) hb fun h' tk c R _ k => fin h' tk c R k
def rSortedB (w : World) : List V → Hp → VK → Prop := fun vs H Q => ∃ (a : Addr) (S : Int → Bool) (n : Nat), vs = [V.ref a] ∧ H a = some (SetO w a S n) ∧
  ∀ (ns : List Int) (p : Addr), ns.Pairwise (· < ·) → (∀ k : Int, k ∈ ns ↔ S k = true) → H p = none → Q (.ref p) (upd H p (.lst (ns.map V.int)))
theorem cr_sortedB (hc : X.calm = true) : CallR X (.builtin "sorted") (rSortedB X.w) := by
  intro pins s σ H vs us Q I r h
  obtain ⟨a, S, n, rfl, ha, q⟩ := h
  rw [Vals.ref1 r]
  refine sorted_setA (setO_get I ha) (I.ok.hd hc) fun s' p out c ns k g o hp hg hi hs hm hl => ?_
  have hlen : (ns.map V.int).length ≤ sizeLine := by rw [List.length_map]; exact Nat.le_trans (Nat.le_of_lt hl) (by decide)
  have hn : H p = none := I.hok.fresh hp
  have J : Inv X pins σ (upd H p (.lst (ns.map V.int))) { s with heap := s'.heap, gens := s'.gens, drawn := s'.drawn, toks := s'.toks } :=
    I.call (ch := []) (Un.laid k hp hn) (I.hok.laid k hp ⟨hlen, out.toList, c, vals_of_ints hi, hg⟩) (by rw [g]; exact I.bare) (fun _ z => nomatch z)
  have e : s' = { s with heap := s'.heap, gens := s'.gens, drawn := s'.drawn, toks := s'.toks } := by
    cases s'
    cases s
    cases o
    rfl
  rw [e]
  exact ⟨.ref p, _, J, rfl, q ns p hs hm hn⟩
/-! ### what is sorted without repeats is one list -/
theorem lt_unique : ∀ {l m : List Int}, l.Pairwise (· < ·) → m.Pairwise (· < ·) → (∀ k, k ∈ l ↔ k ∈ m) → l = m
  | [], [], _, _, _ => rfl
  | [], y :: m, _, _, h => by have := (h y).mpr List.mem_cons_self; cases this
  | x :: l, [], _, _, h => by have := (h x).mp List.mem_cons_self; cases this
  | x :: l, y :: m, h1, h2, h => by
    obtain ⟨a1, a2⟩ := List.pairwise_cons.mp h1
    obtain ⟨b1, b2⟩ := List.pairwise_cons.mp h2
    have e : x = y := by
      rcases List.mem_cons.mp ((h x).mp List.mem_cons_self) with q | q
      · exact q
      · rcases List.mem_cons.mp ((h y).mpr List.mem_cons_self) with q2 | q2
        · exact q2.symm
        · have := b1 _ q; have := a1 _ q2; omega
    subst e
    rw [lt_unique a2 b2 fun k => ?_]
    constructor
    · intro hk
      rcases List.mem_cons.mp ((h k).mp (List.mem_cons_of_mem _ hk)) with q | q
      · have := a1 _ hk; omega
      · exact q
    · intro hk
      rcases List.mem_cons.mp ((h k).mpr (List.mem_cons_of_mem _ hk)) with q | q
      · have := b1 _ hk; omega
      · exact q
theorem dedup_mem (k : Int) : ∀ l : List Int, k ∈ dedup l ↔ k ∈ l
  | [] => Iff.rfl
  | x :: r => by
    have ih := dedup_mem k r
    unfold dedup
    split
    · rename_i e
      rw [e] at ih
      simp only [List.not_mem_nil, false_iff] at ih
      simp [ih]
    · rename_i y s e
      rw [e] at ih
      split
      · rename_i e2
        subst e2
        rw [ih]
        constructor
        · exact List.mem_cons_of_mem _
        · intro h
          rcases List.mem_cons.mp h with q | q
          · rw [← ih, q]; exact List.mem_cons_self
          · exact q
      · simp only [List.mem_cons] at ih ⊢
        rw [ih]
theorem dedup_lt : ∀ l : List Int, l.Pairwise (· ≤ ·) → (dedup l).Pairwise (· < ·)
  | [], _ => .nil
  | x :: r, h => by
    obtain ⟨h1, h2⟩ := List.pairwise_cons.mp h
    have ih := dedup_lt r h2
    unfold dedup
    split
    · exact List.pairwise_singleton _ _
    · rename_i y s e
      rw [e] at ih
      have hm : ∀ k, k ∈ y :: s ↔ k ∈ r := fun k => by rw [← e]; exact dedup_mem k r
      split
      · exact ih
      · rename_i ne
        have hy := h1 y ((hm y).mp List.mem_cons_self)
        refine List.pairwise_cons.mpr ⟨fun k hk => ?_, ih⟩
        rcases List.mem_cons.mp hk with q | q
        · rw [q]; omega
        · have := (List.pairwise_cons.mp ih).1 k q; omega
theorem srt_mem (k : Int) (l : List Int) : k ∈ dedup (sortI l) ↔ k ∈ l := by rw [dedup_mem]; exact (sortI_perm l).mem_iff
theorem srt_lt (l : List Int) : (dedup (sortI l)).Pairwise (· < ·) := dedup_lt _ (sortI_pw l)
theorem pe_ssetB (h : HX gl cl T X W) {x y : Str} {p p2 pos2 : Pos} {a : Expr} {Fa : EV} (hb : bnB X.env.scope "sorted" x = true) (hr : bnB X.env.scope "set" y = true) (hs : notStar a = true) (ha : PE X a (tX X.K X.mg W .t Fa)) :
    PE X (.Call (.Name x p) [.Call (.Name y p2) [a] [] pos2] [] pos) (tX X.K X.mg W m fun r g => (Fa r g).bind fun d g => lift (ssetD d) g) := by
  obtain ⟨ex, hg⟩ := bn_of hb
  obtain ⟨ey, hg2⟩ := bn_of hr
  subst ex ey
  have m1 : X.mg (Str.ofString "sorted") = none := h.bn _ (by decide)
  have m2 : X.mg (Str.ofString "set") = none := h.bn _ (by decide)
  have s1 := star_cons (env := X.env) (es := []) hs
  refine peI (pe_callB (cr_sortedB h.calm) hg m1 (by decide +kernel) (pa_cons (pe_callTy (cr_setB h.calm) hg2 m2 (by decide +kernel) (pa_cons ha pa_nil s1) (by decide) (by decide) s1 rfl) pa_nil rfl) (by decide) (by decide) rfl rfl) fun σ H Q ⟨y, r, g, S, G, p⟩ => ?_
  refine bindP IsPost.x S G p fun y1 d g1 v H1 S1 G1 pd e1 p1 => ?_
  obtain ⟨o, ho, p4⟩ := lift_post IsPost.x p1
  have an := PostX.an p4
  cases hi : items d with
  | none => simp [ssetD, hi] at ho
  | some xs =>
    cases hn : ints? xs with
    | none => simp [ssetD, hi, hn] at ho
    | some ns =>
      by_cases hl : ns.length ≤ 4000
      · simp only [ssetD, hi, hn, Option.bind_some, if_pos hl, Option.some.injEq] at ho
        subst ho
        obtain ⟨q, vs, ea, rr, hq⟩ := seqAt (t := true) hi pd
        have ev : vs = ns.map V.int := (ints_rep rr hn).2
        subst ea ev
        refine ⟨q, ns, rfl, ?_, by unfold scanBound; omega, fun p c hp => ?_⟩
        · rcases hq with hq | hq
          · exact .inl (hq _ _ RchX.refl)
          · exact .inr (hq _ _ RchX.refl)
        · refine ⟨p, _, c, rfl, upd_same, fun ns' p' hlt hmem hp' => ?_⟩
          have e : ns' = dedup (sortI ns) := lt_unique hlt (srt_lt ns) fun k => by rw [hmem k, srt_mem]; simp
          subst e
          exact an y1 _ (ext_new hp) (G1.new hp) _ p' Reps.ints hp'
      · simp [ssetD, hi, hn, hl] at ho
end
end Bk
end
section
set_option Elab.async false
set_option linter.all false
set_option maxRecDepth 100000
set_option maxHeartbeats 4000000
namespace Bk
open PySem PySem.Spec PyProof.Rows L2 RZ

section
variable (gl : Nat → Option D) (cl : Nat → List D → List O → Res D) (T : MT)
def ME (e : E) : Prop := ∀ X W, HX gl cl T X W → ∀ x, mE T e X.env.scope x = true → (∀ m : Mode, (m = .f → fresh e = true) → PE X x (tX X.K X.mg W m fun r g => ev gl cl m.b r e g)) ∧ PT X x (tT X.K X.mg W fun r g => (ev gl cl true r e g).bind asB)
def MEs (es : List E) : Prop := ∀ X W, HX gl cl T X W →
  (∀ xs, mEs T es X.env.scope xs = true → ∀ m : Mode, m ≠ .f → PA X xs (tA X.K X.mg W m.b fun r g => evs gl cl m.b r es g)) ∧
  (∀ xs c pos, es ≠ [] → mEs T es X.env.scope xs = true → (∀ m : Mode, m ≠ .f → PE X (.BoolOp (if c then .And else .Or) xs pos) (tX X.K X.mg W m fun r g => evB gl cl c r es g)) ∧ PW X (.BoolOp (if c then .And else .Or) xs pos) (tT X.K X.mg W fun r g => (evB gl cl c r es g).bind asB)) ∧
  (∀ xs, es.length ≤ 1 → mEs T es X.env.scope xs = true → PTs X xs (tT X.K X.mg W fun r g => evIf gl cl r es g)) ∧
  (∀ st xs, mS T es st X.env.scope xs = true → PA X xs (tA X.K X.mg W false fun r g => evS gl cl r es st g)) ∧
  (∀ o, mO T es X.env.scope o = true → PO X o (tO X.K X.mg W fun r g => (evs gl cl true r es g).bind fun l g => lift (optI l) g)) ∧
  (∀ e0, es = [e0] → ∀ x, mE T e0 X.env.scope x = true → ∀ m : Mode, m ≠ .f → PE X x (tX X.K X.mg W m fun r g => ev gl cl m.b r e0 g))
end
theorem no_f {e : E} {m : Mode} (h : m = .f → fresh e = true) (hf : fresh e = false) : m ≠ .f := fun q => by rw [hf] at h; cases h q
section
variable {gl : Nat → Option D} {cl : Nat → List D → List O → Res D} {T : MT}
theorem me_nil : MEs gl cl T [] := by
  intro X W h
  refine ⟨fun xs hx m hm => ?_, fun xs c pos hn => absurd rfl hn, fun xs _ hx => ?_, fun st xs hx => ?_, fun o ho => ?_, fun e0 q => nomatch q⟩
  · cases xs with
    | nil => exact pa_nilB
    | cons x xs => exact absurd (show false = true from hx) Bool.false_ne_true
  · cases xs with
    | nil => exact ⟨fun pins s σ H Q I ⟨y, r, g, S, G, p⟩ => pts_nil.run pins s σ H Q I (p y H true (Ext.refl _ _) G rfl)⟩
    | cons x xs => exact absurd (show false = true from hx) Bool.false_ne_true
  · cases st with
    | nil =>
      cases xs with
      | nil => exact pa_nilB
      | cons x xs => exact absurd (show false = true from hx) Bool.false_ne_true
    | cons b st => cases xs <;> exact absurd (show false = true from hx) Bool.false_ne_true
  · cases o with
    | none => exact po_noneB
    | some x => exact absurd (show false = true from ho) Bool.false_ne_true
theorem me_cons {e : E} {es : List E} (he : ME gl cl T e) (hes : MEs gl cl T es) : MEs gl cl T (e :: es) := by
  intro X W h
  obtain ⟨h1, h2, h3, h4, h5, h6⟩ := hes X W h
  refine ⟨fun xs hx m hm => ?_, fun xs c pos hn hx => ?_, fun xs hl hx => ?_, fun st xs hx => ?_, fun o ho => ?_, fun e0 q x hx m hm => by cases q; exact (he X W h x hx).1 m fun q => absurd q hm⟩
  · cases xs with
    | nil => exact absurd (show false = true from hx) Bool.false_ne_true
    | cons x xs =>
      simp only [mEs, Bool.and_eq_true] at hx
      exact pa_consB hm hx.1.1 ((he X W h x hx.1.2).1 m fun q => absurd q hm) (h1 xs hx.2 m hm)
  · cases xs with
    | nil => exact absurd (show false = true from hx) Bool.false_ne_true
    | cons x xs =>
      simp only [mEs, Bool.and_eq_true] at hx
      obtain ⟨a1, a2⟩ := he X W h x hx.1.2
      cases es with
      | nil =>
        cases xs with
        | cons _ _ => exact absurd (show false = true from hx.2) Bool.false_ne_true
        | nil => exact ⟨fun m hm => pe_oneB (a1 .t fun q => nomatch q), pw_oneB a2⟩
      | cons e2 es =>
        cases xs with
        | nil => exact absurd (show false = true from hx.2) Bool.false_ne_true
        | cons z zs =>
          obtain ⟨b1, b2⟩ := h2 (z :: zs) c pos (by simp) hx.2
          exact ⟨fun m hm => pe_boolB (a1 .t fun q => nomatch q) (b1 m hm), pw_boolB a2 b2⟩
  · cases es with
    | cons e2 es => simp at hl
    | nil =>
      cases xs with
      | nil => exact absurd (show false = true from hx) Bool.false_ne_true
      | cons x xs =>
        simp only [mEs, Bool.and_eq_true] at hx
        cases xs with
        | cons _ _ => exact absurd (show false = true from hx.2) Bool.false_ne_true
        | nil =>
          have ft : (fun r g => evIf gl cl r [e] g) = fun r g => (ev gl cl true r e g).bind asB := by
            funext r g
            simp only [evIf]
            cases (ev gl cl true r e g).bind asB with
            | ok b g => cases b <;> rfl
            | exc x g => rfl
            | bad => rfl
          rw [ft]
          exact pts_one (he X W h x hx.1.2).2
  · cases st with
    | nil => cases xs <;> exact absurd (show false = true from hx) Bool.false_ne_true
    | cons b st =>
      cases xs with
      | nil => cases b <;> exact absurd (show false = true from hx) Bool.false_ne_true
      | cons x xs =>
        cases b with
        | true =>
          cases x <;> first | exact absurd (show false = true from hx) Bool.false_ne_true | skip
          rename_i x p
          simp only [mS, Bool.and_eq_true] at hx
          exact pa_starB ((he X W h x hx.1).1 .t fun q => nomatch q) (h4 st xs hx.2)
        | false =>
          simp only [mS, Bool.and_eq_true] at hx
          exact pa_consB (m := .v) (by decide) hx.1.1 ((he X W h x hx.1.2).1 .v fun q => nomatch q) (h4 st xs hx.2)
  · cases o with
    | none => cases es <;> exact absurd (show false = true from ho) Bool.false_ne_true
    | some x =>
      cases es with
      | cons _ _ => exact absurd (show false = true from ho) Bool.false_ne_true
      | nil =>
        have ho : mE T e X.env.scope x = true := ho
        have ft : (fun r g => (evs gl cl true r [e] g).bind fun l g => lift (optI l) g) = fun r g => (ev gl cl true r e g).bind fun d g => lift (optI [d]) g := by
          funext r g
          simp only [evs, Res.assoc, Res.bind_ok]
        rw [ft]
        exact po_someB ((he X W h x ho).1 .t fun q => nomatch q)
/-- a value form whose test is by value -/
theorem me_of {e : E} {X : Cx} {W : WX} {x : Expr} (hp : plainT x = true) (h : ∀ m : Mode, (m = .f → fresh e = true) → PE X x (tX X.K X.mg W m fun r g => ev gl cl m.b r e g)) :
    (∀ m : Mode, (m = .f → fresh e = true) → PE X x (tX X.K X.mg W m fun r g => ev gl cl m.b r e g)) ∧ PT X x (tT X.K X.mg W fun r g => (ev gl cl true r e g).bind asB) :=
  ⟨h, pt_of (h .t fun q => nomatch q) hp⟩
theorem me_var (i : Nat) : ME gl cl T (.var i) := by
  intro X W h x hx
  cases x <;> first | exact absurd (show false = true from hx) Bool.false_ne_true | skip
  exact me_of rfl fun m hm => pe_varB h.N hx (no_f hm rfl)
theorem me_own (i : Nat) : ME gl cl T (.own i) := by
  intro X W h x hx
  cases x <;> first | exact absurd (show false = true from hx) Bool.false_ne_true | skip
  exact me_of rfl fun m hm => pe_ownB h.N hx (no_f hm rfl)
theorem me_glob (i : Nat) : ME gl cl T (.glob i) := by
  intro X W h x hx
  cases x <;> first | exact absurd (show false = true from hx) Bool.false_ne_true | skip
  simp only [mE, Bool.and_eq_true, decide_eq_true_eq] at hx
  exact me_of rfl fun m hm => pe_globB h hx.1.1 hx.1.2 hx.2 (no_f hm rfl)
theorem me_int (k : Int) : ME gl cl T (.int k) := by
  intro X W h x hx
  cases x <;> first | exact absurd (show false = true from hx) Bool.false_ne_true | skip
  rename_i c _ _
  cases c <;> first | exact absurd (show false = true from hx) Bool.false_ne_true | skip
  rename_i j
  have e : k = j := by simpa [mE] using hx
  subst e
  exact me_of rfl fun m hm => pe_constB pe_int (fun y H => by simp only [Rep]) (no_f hm rfl)
theorem me_bl (k : Bool) : ME gl cl T (.bl k) := by
  intro X W h x hx
  cases x <;> first | exact absurd (show false = true from hx) Bool.false_ne_true | skip
  rename_i c _ _
  cases c <;> first | exact absurd (show false = true from hx) Bool.false_ne_true | skip
  rename_i j
  have e : k = j := by simpa [mE] using hx
  subst e
  exact me_of rfl fun m hm => pe_constB pe_bl (fun y H => by simp only [Rep]) (no_f hm rfl)
theorem me_non : ME gl cl T .non := by
  intro X W h x hx
  cases x <;> first | exact absurd (show false = true from hx) Bool.false_ne_true | skip
  rename_i c _ _
  cases c <;> first | exact absurd (show false = true from hx) Bool.false_ne_true | skip
  exact me_of rfl fun m hm => pe_constB pe_non (fun y H => by simp only [Rep]) (no_f hm rfl)
theorem me_str (k : String) : ME gl cl T (.str k) := by
  intro X W h x hx
  cases x <;> first | exact absurd (show false = true from hx) Bool.false_ne_true | skip
  rename_i c _ _
  cases c <;> first | exact absurd (show false = true from hx) Bool.false_ne_true | skip
  rename_i j
  have e : j = Str.ofString k := by simpa [mE] using hx
  subst e
  exact me_of rfl fun m hm => pe_constB pe_str (fun y H => by simp only [Rep]) (no_f hm rfl)
theorem me_tup {es : List E} (hes : MEs gl cl T es) : ME gl cl T (.tup es) := by
  intro X W h x hx
  cases x <;> first | exact absurd (show false = true from hx) Bool.false_ne_true | skip
  exact me_of rfl fun m hm => pe_tupB ((hes X W h).1 _ hx .v (by decide))
theorem me_lst {es : List E} (hes : MEs gl cl T es) : ME gl cl T (.lst es) := by
  intro X W h x hx
  cases x <;> first | exact absurd (show false = true from hx) Bool.false_ne_true | skip
  exact me_of rfl fun m hm => pe_lstB ((hes X W h).1 _ hx .v (by decide))
theorem me_seqS {t : Bool} {st : List Bool} {es : List E} (hes : MEs gl cl T es) : ME gl cl T (.seqS t st es) := by
  intro X W h x hx
  cases t with
  | true =>
    cases x <;> first | exact absurd (show false = true from hx) Bool.false_ne_true | skip
    exact me_of rfl fun m hm => pe_tupB ((hes X W h).2.2.2.1 st _ hx)
  | false =>
    cases x <;> first | exact absurd (show false = true from hx) Bool.false_ne_true | skip
    exact me_of rfl fun m hm => pe_lstB ((hes X W h).2.2.2.1 st _ hx)
theorem me_bin {op : Bop} {a b : E} (ha : ME gl cl T a) (hb : ME gl cl T b) : ME gl cl T (.bin op a b) := by
  intro X W h x hx
  cases x <;> first | exact absurd (show false = true from hx) Bool.false_ne_true | skip
  simp only [mE, Bool.and_eq_true, decide_eq_true_eq] at hx
  obtain ⟨⟨e, h1⟩, h2⟩ := hx
  subst e
  exact me_of rfl fun m hm => pe_binB h.units ((ha X W h _ h1).1 .t fun q => nomatch q) ((hb X W h _ h2).1 .t fun q => nomatch q)
theorem me_neg {a : E} (ha : ME gl cl T a) : ME gl cl T (.neg a) := by
  intro X W h x hx
  cases x <;> first | exact absurd (show false = true from hx) Bool.false_ne_true | skip
  rename_i op x p
  cases op <;> first | exact absurd (show false = true from hx) Bool.false_ne_true | skip
  exact me_of rfl fun m hm => pe_negB ((ha X W h _ hx).1 .t fun q => nomatch q)
theorem me_not {a : E} (ha : ME gl cl T a) : ME gl cl T (.not a) := by
  intro X W h x hx
  cases x <;> first | exact absurd (show false = true from hx) Bool.false_ne_true | skip
  rename_i op x p
  cases op <;> first | exact absurd (show false = true from hx) Bool.false_ne_true | skip
  exact ⟨fun m hm => pe_notB ((ha X W h _ hx).1 .t fun q => nomatch q), pt_notB (ha X W h _ hx).2⟩
theorem me_cmp {op : Cop} {a b : E} (ha : ME gl cl T a) (hb : ME gl cl T b) : ME gl cl T (.cmp op a b) := by
  intro X W h x hx
  cases x <;> first | exact absurd (show false = true from hx) Bool.false_ne_true | skip
  rename_i l ops cs p
  cases ops with
  | nil => exact absurd (show false = true from hx) Bool.false_ne_true
  | cons o ops =>
    cases ops with
    | cons _ _ => exact absurd (show false = true from hx) Bool.false_ne_true
    | nil =>
      cases cs with
      | nil => exact absurd (show false = true from hx) Bool.false_ne_true
      | cons c cs =>
        cases cs with
        | cons _ _ => exact absurd (show false = true from hx) Bool.false_ne_true
        | nil =>
          simp only [mE, plainOps, Bool.and_eq_true, decide_eq_true_eq, Bool.not_eq_true'] at hx
          obtain ⟨⟨⟨e, h0⟩, h1⟩, h2⟩ := hx
          subst e
          exact ⟨fun m hm => pe_cmpB h.units ((ha X W h _ h1).1 .t fun q => nomatch q) ((hb X W h _ h2).1 .t fun q => nomatch q) h0,
            pt_cmpB h.units ((ha X W h _ h1).1 .t fun q => nomatch q) ((hb X W h _ h2).1 .t fun q => nomatch q) h0⟩
theorem me_chain {op op2 : Cop} {a b c : E} (ha : ME gl cl T a) (hb : ME gl cl T b) (hc : ME gl cl T c) : ME gl cl T (.chain op op2 a b c) := by
  intro X W h x hx
  cases x <;> first | exact absurd (show false = true from hx) Bool.false_ne_true | skip
  rename_i l ops cs p
  match ops, cs, hx with
  | [o, o2], [z, u], hx =>
    simp only [mE, plainOps, Bool.and_eq_true, decide_eq_true_eq, Bool.not_eq_true'] at hx
    obtain ⟨⟨⟨⟨⟨e, e2⟩, h0⟩, h1⟩, h2⟩, h3⟩ := hx
    subst e e2
    exact ⟨fun m hm => pe_chainB h.units ((ha X W h _ h1).1 .t fun q => nomatch q) ((hb X W h _ h2).1 .t fun q => nomatch q) ((hc X W h _ h3).1 .t fun q => nomatch q) h0,
      pt_chainB h.units ((ha X W h _ h1).1 .t fun q => nomatch q) ((hb X W h _ h2).1 .t fun q => nomatch q) ((hc X W h _ h3).1 .t fun q => nomatch q) h0⟩
theorem me_band {es : List E} (hes : MEs gl cl T es) : ME gl cl T (.band es) := by
  intro X W h x hx
  cases x <;> first | exact absurd (show false = true from hx) Bool.false_ne_true | skip
  rename_i op xs p
  cases op with
  | Or => exact absurd (show false = true from hx) Bool.false_ne_true
  | And =>
    simp only [mE, Bool.and_eq_true, Bool.not_eq_true', List.isEmpty_eq_false_iff] at hx
    obtain ⟨a, b⟩ := (hes X W h).2.1 xs true p hx.1 hx.2
    exact ⟨fun m hm => a m (no_f hm rfl), b.pt⟩
theorem me_bor {es : List E} (hes : MEs gl cl T es) : ME gl cl T (.bor es) := by
  intro X W h x hx
  cases x <;> first | exact absurd (show false = true from hx) Bool.false_ne_true | skip
  rename_i op xs p
  cases op with
  | And => exact absurd (show false = true from hx) Bool.false_ne_true
  | Or =>
    simp only [mE, Bool.and_eq_true, Bool.not_eq_true', List.isEmpty_eq_false_iff] at hx
    obtain ⟨a, b⟩ := (hes X W h).2.1 xs false p hx.1 hx.2
    exact ⟨fun m hm => a m (no_f hm rfl), b.pt⟩
theorem me_ife {c a b : E} (hc : ME gl cl T c) (ha : ME gl cl T a) (hb : ME gl cl T b) : ME gl cl T (.ife c a b) := by
  intro X W h x hx
  cases x <;> first | exact absurd (show false = true from hx) Bool.false_ne_true | skip
  simp only [mE, Bool.and_eq_true] at hx
  exact ⟨fun m hm => pe_ifB (hc X W h _ hx.1.1).2 ((ha X W h _ hx.1.2).1 m fun q => absurd q (no_f hm rfl)) ((hb X W h _ hx.2).1 m fun q => absurd q (no_f hm rfl)),
    pt_ifB (hc X W h _ hx.1.1).2 (ha X W h _ hx.1.2).2 (hb X W h _ hx.2).2⟩
theorem me_call {f : Nat} {es : List E} (hes : MEs gl cl T es) : ME gl cl T (.call f es) := by
  intro X W h x hx
  cases x <;> first | exact absurd (show false = true from hx) Bool.false_ne_true | skip
  rename_i fx xs ks p
  cases fx <;> first | exact absurd (show false = true from hx) Bool.false_ne_true | skip
  cases ks with
  | cons _ _ => exact absurd (show false = true from hx) Bool.false_ne_true
  | nil =>
    simp only [mE, Bool.and_eq_true, decide_eq_true_eq] at hx
    refine me_of rfl fun m hm => pe_callB1 h hx.1.1.1 hx.1.1.2 hx.1.2 (mEs_star hx.2) (fun e => ?_) ((hes X W h).1 _ hx.2 .v (by decide)) (no_f hm rfl)
    subst e
    cases es with
    | nil => rfl
    | cons e es => exact absurd (show false = true from hx.2) Bool.false_ne_true
theorem me_bi {f : Bi} {es : List E} (hes : MEs gl cl T es) : ME gl cl T (.bi f es) := by
  intro X W h x hx
  cases x <;> first | exact absurd (show false = true from hx) Bool.false_ne_true | skip
  rename_i fx xs ks p
  cases fx <;> first | exact absurd (show false = true from hx) Bool.false_ne_true | skip
  cases ks with
  | cons _ _ => exact absurd (show false = true from hx) Bool.false_ne_true
  | nil =>
    simp only [mE, Bool.and_eq_true, Bool.not_eq_true', List.isEmpty_eq_false_iff] at hx
    refine me_of rfl fun m hm => pe_biB h hx.1.1 (fun e => ?_) (mEs_star hx.2) ((hes X W h).1 _ hx.2 .t (by decide))
    subst e
    cases es with
    | nil => exact hx.1.2 rfl
    | cons e es => exact absurd (show false = true from hx.2) Bool.false_ne_true
theorem me_isi {e : E} {t : Ty} (he : ME gl cl T e) : ME gl cl T (.isi e t) := by
  intro X W h x hx
  cases x <;> first | exact absurd (show false = true from hx) Bool.false_ne_true | skip
  rename_i fx xs ks p
  cases fx <;> first | exact absurd (show false = true from hx) Bool.false_ne_true | skip
  match xs, ks, hx with
  | [z, .Name y p2], [], hx =>
    simp only [mE, Bool.and_eq_true] at hx
    exact me_of rfl fun m hm => pe_isiB h hx.1.1.1 hx.1.1.2 hx.1.2 ((he X W h _ hx.2).1 .t fun q => nomatch q)
theorem me_ix {a b : E} (ha : ME gl cl T a) (hb : ME gl cl T b) : ME gl cl T (.ix a b) := by
  intro X W h x hx
  cases x <;> first | exact absurd (show false = true from hx) Bool.false_ne_true | skip
  simp only [mE, Bool.and_eq_true] at hx
  exact me_of rfl fun m hm => pe_ixB h.units (no_f hm rfl) hx.1.1 ((ha X W h _ hx.1.2).1 .t fun q => nomatch q) ((hb X W h _ hx.2).1 .t fun q => nomatch q)
theorem me_slice {a : E} {lo hi : List E} (ha : ME gl cl T a) (hl : MEs gl cl T lo) (hh : MEs gl cl T hi) : ME gl cl T (.slice a lo hi) := by
  intro X W h x hx
  cases x <;> first | exact absurd (show false = true from hx) Bool.false_ne_true | skip
  rename_i x s p
  cases s <;> first | exact absurd (show false = true from hx) Bool.false_ne_true | skip
  rename_i l u st p2
  cases st with
  | some _ => exact absurd (show false = true from hx) Bool.false_ne_true
  | none =>
    simp only [mE, Bool.and_eq_true] at hx
    exact me_of rfl fun m hm => pe_sliceB ((ha X W h _ hx.1.1).1 .t fun q => nomatch q) ((hl X W h).2.2.2.2.1 _ hx.1.2) ((hh X W h).2.2.2.2.1 _ hx.2)
theorem fsi_of {e : Expr} {env : Env} (h : notSet e = true) : ∀ z, foldedSetIterable e env z = pure z := by
  intro z
  cases e <;> first | rfl | exact absurd (show false = true from h) Bool.false_ne_true
/-- the iterables -/
theorem pi_of {t : Bool} {m : Mode} (hm : m ≠ .f) (hmb : m.b = t) {X : Cx} {W : WX} (h : HX gl cl T X W) {ik : IK} {tg : Tg} {its : List E} {tx ix : Expr} {xs : List Expr} {N : List Str} {scope : Scope} (hi : itX X.env.scope ik ix = some xs) (hx : mEs T its X.env.scope xs = true) (hk : ikOk ik tg = true) (htg : mTg N scope tg tx = true) (hes : MEs gl cl T its) :
    PI X tx ix (tI X.K X.mg W t fun r g => (evs gl cl t r its g).bind fun ds g => lift (iterD ik ds) g) ∧ ∀ z, foldedSetIterable ix X.env z = pure z := by
  have hpa : ∀ zs, mEs T its X.env.scope zs = true → PA X zs (tA X.K X.mg W t fun r g => evs gl cl t r its g) := fun zs hz => by
    have := (hes X W h).1 zs hz m hm
    rw [hmb] at this
    exact this
  have tupX : ikOk ik tg = true → ik = .enum ∨ ik = .zip → ∃ es k p, tx = .Tuple es k p := fun h1 h2 => by
    cases tg with
    | nm i => rcases h2 with rfl | rfl <;> exact absurd (show false = true from h1) Bool.false_ne_true
    | tp is =>
      cases tx <;> first | exact absurd (show false = true from htg) Bool.false_ne_true | skip
      exact ⟨_, _, _, rfl⟩
  cases ik with
  | seq =>
    by_cases hs : notSet ix = true
    · have e1 : [ix] = xs := by simpa [itX, hs] using hi
      subst e1
      refine ⟨?_, fsi_of hs⟩
      cases its with
      | nil => exact absurd (show false = true from hx) Bool.false_ne_true
      | cons e es =>
        cases es with
        | cons _ _ => exact absurd hx (by simp [mEs])
        | nil =>
          simp only [mEs, Bool.and_eq_true] at hx
          have q := (hes X W h).2.2.2.2.2 e rfl ix hx.1.2 m hm
          have q2 : PE X ix (tE X.K X.mg W t fun r g => ev gl cl t r e g) := by
            subst hmb
            cases m with
            | v => exact q
            | t => exact q
            | f => exact absurd rfl hm
          have ft : (fun r g => (evs gl cl t r [e] g).bind fun ds g => lift (iterD .seq ds) g) = fun r g => (ev gl cl t r e g).bind fun d g => lift (iterD .seq [d]) g := by
            funext r g
            simp only [evs, Res.assoc, Res.bind_ok]
          rw [ft]
          exact pi_seqB q2
    · simp [itX, hs] at hi
  | range =>
    obtain ⟨f, p, a, p2, rfl, hb, rfl⟩ := it1_inv hi
    obtain ⟨ef, hg⟩ := bn_of hb
    subst ef
    exact ⟨pi_rangeB hg (h.bn "range" (by decide)) (hpa _ hx) (star_cons (mEs_star hx a List.mem_cons_self)), fun z => rfl⟩
  | range2 =>
    obtain ⟨f, p, a, b, p2, rfl, hb, rfl⟩ := it2_inv hi
    obtain ⟨ef, hg⟩ := bn_of hb
    subst ef
    have hb2 := star_cons (env := X.env) (es := []) (mEs_star hx b (by simp))
    exact ⟨pi_range2B hg (h.bn "range" (by decide)) (hpa _ hx) (by rw [star_cons (mEs_star hx a List.mem_cons_self), hb2]; rfl) hb2, fun z => rfl⟩
  | enum =>
    obtain ⟨f, p, a, p2, rfl, hb, rfl⟩ := it1_inv hi
    obtain ⟨ef, hg⟩ := bn_of hb
    subst ef
    obtain ⟨es, k, p3, rfl⟩ := tupX hk (.inl rfl)
    exact ⟨pi_enumB hg (h.bn "enumerate" (by decide)) (hpa _ hx) (star_cons (mEs_star hx a List.mem_cons_self)), fun z => rfl⟩
  | zip =>
    obtain ⟨f, p, a, b, p2, rfl, hb, rfl⟩ := it2_inv hi
    obtain ⟨ef, hg⟩ := bn_of hb
    subst ef
    obtain ⟨es, k, p3, rfl⟩ := tupX hk (.inr rfl)
    have hst := mEs_star hx
    exact ⟨pi_zipB hg (h.bn "zip" (by decide)) (hpa _ hx) (star_cons (hst a List.mem_cons_self)) (star_all fun z hz => hst z (List.mem_cons_of_mem _ hz)), fun z => rfl⟩
theorem me_comp {elt : E} {tg : Tg} {ik : IK} {its ifs : List E} (he : ME gl cl T elt) (hits : MEs gl cl T its) (hifs : MEs gl cl T ifs) : ME gl cl T (.comp elt tg ik its ifs) := by
  intro X W h x hx
  cases x <;> first | exact absurd (show false = true from hx) Bool.false_ne_true | skip
  rename_i x gs scope p
  match gs, hx with
  | [⟨tx, ix, fx, n⟩], hx =>
    simp only [mE, Bool.and_eq_true, decide_eq_true_eq, beq_iff_eq] at hx
    obtain ⟨⟨⟨⟨⟨⟨⟨hn, h1⟩, h2⟩, h3⟩, h4⟩, h5⟩, h6⟩, h7⟩ := hx
    subst hn
    cases hi : itX X.env.scope ik ix with
    | none => rw [hi] at h1; cases h1
    | some xs =>
      rw [hi] at h1
      obtain ⟨q1, q2⟩ := pi_of (m := .t) (by decide) rfl h hi h1 h2 h3 hits
      have key := fun m => pe_compB (m := m) (pos := p) h (FB := fun r g => evIf gl cl r ifs g) (FE := fun r g => ev gl cl false r elt g) q1 (blkOk_by (by rw [h.N]; exact h4)) h3
        (fun s H C c fp => (hifs _ _ (h.blk s H scope (compEnvC scope c C X.env) fp)).2.2.1 fx h5 h6)
        (fun s H C c fp => (he _ _ (h.blk s H scope (compEnvC scope c C X.env) fp) x h7).1 .v fun q => nomatch q) q2
      refine me_of rfl fun m hm => ?_
      have ft : (fun r g => ev gl cl m.b r (.comp elt tg ik its ifs) g) = fun r g => ((evs gl cl true r its g).bind fun ds g => lift (iterD ik ds) g).bind fun xs g => (noX (loopC (bdC tg (fun r g => evIf gl cl r ifs g) (fun r g => ev gl cl false r elt g) r) xs [] g)).bind fun ys g => .ok (.lst ys) g := by
        funext r g
        rw [Res.assoc]
        simp only [ev]
        rfl
      rw [ft]
      exact key m
theorem me_mk {e : E} (he : ME gl cl T e) : ME gl cl T (.mk e) := by
  intro X W h x hx
  have hx' : fresh e = true ∧ plainT x = true ∧ mE T e X.env.scope x = true := by
    simp only [mE, Bool.and_eq_true] at hx
    exact ⟨hx.1.1, hx.1.2, hx.2⟩
  refine me_of hx'.2.1 fun m hm => peI ((he X W h x hx'.2.2).1 .f fun _ => hx'.1) fun σ H Q ⟨y, r, g, S, G, p⟩ => ⟨y, r, g, S, G, ?_⟩
  have p : PostX X.K X.mg W m y σ H Q ((ev gl cl false r e g).bind fun d g => match d with
    | .lst ds => .ok (.ref g.length) (g ++ [.lst ds])
    | _ => .bad) := p
  show PostF X.K X.mg W y σ H Q (ev gl cl false r e g)
  cases hr : ev gl cl false r e g with
  | bad => rw [hr] at p; exact (IsPost.x.bad p).elim
  | exc c g' => rw [hr] at p; exact IsPost.x.exc p
  | ok d g' =>
    rw [hr] at p
    cases d with
    | lst ds =>
      have p : PostX X.K X.mg W m y σ H Q (.ok (.ref g'.length) (g' ++ [.lst ds])) := p
      intro y' H' b vs e' G' hb nb hv rv
      have nA : ¬ y'.A b := fun z => by
        rw [e'.eA] at z
        obtain ⟨u, q⟩ := G.zok b (.inl z)
        rw [hb] at q; cases q
      have nW : ¬ y'.W b := fun z => by
        rw [e'.eW] at z
        obtain ⟨u, q⟩ := G.zok b (.inr (.inl z))
        rw [hb] at q; cases q
      have hz : ∀ a, ({ y' with al := y'.al ++ [b] } : Gh).Z a → (y'.off b).Z a := fun a z => by
        rcases z with z | z | z
        · exact .inl z
        · exact .inr (.inl (.inl z))
        · rcases List.mem_append.mp z with z | z
          · exact .inr (.inr z)
          · exact .inr (.inl (.inr (by simpa using z)))
      have an := Reps.anti (K := X.K) (y := y'.off b) (y' := { y' with al := y'.al ++ [b] }) (H := H') hz ⟨[b], rfl⟩
      have hl : y'.al.length = g'.length := G'.len
      have G2 : Good X.K { y' with al := y'.al ++ [b] } H' (g' ++ [.lst ds]) := by
        refine ⟨fun a z => G'.zok a (hz a z), fun a w => G'.aw a (.inl w), fun a ha => ?_, ?_, by simp [hl], fun n a o h1 h2 => ?_, fun a xs z => G'.mt a xs (hz a z)⟩
        · rcases List.mem_append.mp ha with ha | ha
          · exact ⟨(G'.disj a ha).1, fun w => (G'.disj a ha).2 (.inl w)⟩
          · have : a = b := by simpa using ha
            subst this
            exact ⟨nA, nW⟩
        · exact List.nodup_append.mpr ⟨G'.nd, by simp, fun a ha c hc e => by
            have : c = b := by simpa using hc
            subst this
            exact nb (e ▸ ha)⟩
        · have h1 : (y'.al ++ [b])[n]? = some a := h1
          by_cases hn : n < y'.al.length
          · rw [List.getElem?_append_left hn] at h1
            rw [List.getElem?_append_left (by omega)] at h2
            have h3 := G'.objs n a o h1 h2
            cases o with
            | lst os => obtain ⟨ws, k1, k2⟩ := h3; exact ⟨ws, k1, an.2 _ _ k2⟩
          · rw [List.getElem?_append_right (by omega)] at h1
            rw [List.getElem?_append_right (by omega)] at h2
            have e0 : n - y'.al.length = 0 := by
              by_cases q : n - y'.al.length = 0
              · exact q
              · rw [List.getElem?_eq_none (by simp; omega)] at h1; cases h1
            rw [e0] at h1
            rw [hl] at e0
            rw [e0] at h2
            cases h1; cases h2
            exact ⟨vs, hv, an.2 _ _ rv⟩
      have E : Ext y H { y' with al := y'.al ++ [b] } H' := by
        obtain ⟨t, et, nt⟩ := e'.pre
        refine ⟨e'.eA, e'.eW, ⟨t ++ [b], by show y'.al ++ [b] = _; rw [et, List.append_assoc], fun a ha => ?_⟩, e'.keep, e'.dom⟩
        rcases List.mem_append.mp ha with ha | ha
        · exact nt a ha
        · have : a = b := by simpa using ha
          subst this; exact hb
      have R : Rep X.K { y' with al := y'.al ++ [b] } H' (.ref g'.length) (.ref b) := by
        simp only [Rep]
        exact ⟨b, by show (y'.al ++ [b])[g'.length]? = some b; rw [← hl, List.getElem?_append_right (Nat.le_refl _)]; simp, rfl⟩
      exact PostX.flat (PostX.stepG E p) G2 R (fun _ q => nomatch q) fun _ _ q => nomatch q
    | _ => exact (IsPost.x.bad p).elim
theorem me_bad {e : E} (h : ∀ sc x, mE T e sc x = false) : ME gl cl T e := fun X W _ x hx => by rw [h] at hx; cases hx
theorem me_dct0 {t : Bool} : ME gl cl T (.dct0 t) := by
  intro X W h x hx
  cases x <;> first | exact absurd (show false = true from hx) Bool.false_ne_true | skip
  rename_i ks vs p
  match ks, vs, hx with
  | [], [], _ =>
    cases t with
    | false =>
      refine me_of rfl fun m hm => peI pe_dnewK fun σ H Q ⟨y, r, g, S, G, p⟩ => ?_
      have p : PostX X.K X.mg W m y σ H Q (.ok (.dct (.k []) []) g) := p
      intro b hb
      exact PostX.an p y H (Ext.refl _ _) G [] b .nil rfl hb
    | true =>
      refine me_of rfl fun m hm => peI pe_dnewT fun σ H Q ⟨y, r, g, S, G, p⟩ => ?_
      have p : PostX X.K X.mg W m y σ H Q (.ok (.dct (.t []) []) g) := p
      intro b hb
      exact PostX.an p y H (Ext.refl _ _) G [] b .nil rfl hb
theorem me_dct1 {k : String} {e : E} (he : ME gl cl T e) : ME gl cl T (.dct1 k e) := by
  intro X W h x hx
  cases x <;> first | exact absurd (show false = true from hx) Bool.false_ne_true | skip
  rename_i ks vs p
  match ks, vs, hx with
  | [some (.Constant (.str z) j p2)], [v], hx =>
    simp only [mE, Bool.and_eq_true, beq_iff_eq] at hx
    obtain ⟨ez, hv⟩ := hx
    subst ez
    have hx := (he X W h v hv).1 .v fun q => nomatch q
    refine me_of rfl fun m hm => peI (pe_disp (pps_cons pe_str hx pps_nil) rfl rfl (by simp) (by simp)) fun σ H Q ⟨y, r, g, S, G, p⟩ => ?_
    have p : PostX X.K X.mg W m y σ H Q ((ev gl cl false r e g).bind fun d g => .ok (.dct (.k [.inr (Str.ofString k)]) [d]) g) := p
    intro b hb
    show tX X.K X.mg W .v (fun r g => ev gl cl false r e g) σ (upd H b (.dK [])) _
    have hdisj : ∀ a, (y.off b).W a → a ∉ (y.off b).al := fun a w z => by
      rcases w with w | w
      · exact (G.disj a z).2 w
      · obtain ⟨u, q⟩ := G.zok a (.inr (.inr z))
        exact ne_of_none q hb w
    refine ⟨y.off b, r, g, (SR.off0 hb S).monoD (ext_new hb) hdisj, G.off hb, ?_⟩
    show PostG X.K X.mg W (RepX X.K false) _ _ _ _ (ev gl cl false r e g)
    -- back in the eyes of what stood before
    have bk : ∀ {y' : Gh} {H' : Hp} {g' : List O}, Ext (y.off b) (upd H b (.dK [])) y' H' → Good X.K y' H' g' → Ext y H (y'.back y.W) H' ∧ Good X.K (y'.back y.W) H' g' ∧ (∀ a, (y'.back y.W).Z a → y'.Z a) := by
      intro y' H' g' e' G'
      have hW : ∀ a, y.W a → y'.W a := fun a w => by rw [e'.eW]; exact .inl w
      refine ⟨⟨e'.eA, rfl, ?_, fun a o q n => e'.keep a o (by rw [upd_ne (ne_of_none q hb)]; exact q) n, fun a q => ?_⟩, G'.back hW, fun a z => ?_⟩
      · obtain ⟨t, e1, e2⟩ := e'.pre
        refine ⟨t, e1, fun a ha => ?_⟩
        have q := e2 a ha
        by_cases ea : a = b
        · subst ea; exact hb
        · rw [upd_ne ea] at q; exact q
      · have q := e'.dom a q
        by_cases ea : a = b
        · subst ea; exact hb
        · rw [upd_ne ea] at q; exact q
      · rcases z with z | z | z
        · exact .inl z
        · exact .inr (.inl (hW a z))
        · exact .inr (.inr z)
    cases hr : ev gl cl false r e g with
    | bad => rw [hr] at p; exact (IsPost.x.bad p).elim
    | exc c g' =>
      rw [hr] at p
      intro y' H' c od e' G' xr
      obtain ⟨a1, a2, a3⟩ := bk e' G'
      refine IsPost.x.exc p _ H' c od a1 a2 ?_
      obtain ⟨C, h1, h2, h3⟩ := xr
      refine ⟨C, h1, h2, ?_⟩
      rcases h3 with h3 | ⟨f, d, dd, v, q1, q2, q3, q4, q5⟩
      · exact .inl h3
      · exact .inr ⟨f, d, dd, v, q1, q2, q3, fun z => q4 (a3 _ z), (Reps.anti a3 ⟨[], by simp [Gh.back]⟩).1 _ _ q5⟩
    | ok d g' =>
      rw [hr] at p
      have p : PostX X.K X.mg W m y σ H Q (.ok (.dct (.k [.inr (Str.ofString k)]) [d]) g') := p
      intro y' H' u e' G' ru
      have ru : Rep X.K y' H' d u := ru
      have nal : b ∉ y'.al := fun z => (G'.disj b z).2 (by rw [e'.eW]; exact .inr rfl)
      have hbb : H' b = some (.dK []) := e'.keep _ _ upd_same fun z => (by
        obtain ⟨t, e1, _⟩ := e'.pre
        exact nal (by rw [e1]; exact List.mem_append_left _ z))
      refine ⟨hbb, [(.inr (Str.ofString k), u)], rfl, by simp, ?_⟩
      have wb : y'.W b := by rw [e'.eW]; exact .inr rfl
      obtain ⟨G2, ev⟩ := G'.upd (o := .dK [((.inr (Str.ofString k) : Key), u)]) wb
      have e2 : Ext (y.off b) (upd H b (.dK [])) y' H' := e'
      obtain ⟨a1, a2, a3⟩ := bk e' G'
      have a1' : Ext y H (y'.back y.W) (upd H' b (.dK [((.inr (Str.ofString k) : Key), u)])) := ⟨a1.eA, a1.eW, a1.pre, fun a o q n => by rw [upd_ne (ne_of_none q hb)]; exact a1.keep a o q n, fun a q => a1.dom a (by
        by_cases ea : a = b
        · subst ea; rw [upd_same] at q; cases q
        · rw [upd_ne ea] at q; exact q)⟩
      have hW : ∀ a, y.W a → y'.W a := fun a w => by rw [e'.eW]; exact .inl w
      have ru2 : Reps X.K y' (upd H' b (.dK [((.inr (Str.ofString k) : Key), u)])) [d] [u] := Reps.monoS ev _ _ (.cons ru .nil)
      have em : mergeK [] [((.inr (Str.ofString k) : Key), u)] = [((.inr (Str.ofString k) : Key), u)] := rfl
      rw [em]
      have rep : Rep X.K (y'.back y.W) (upd H' b (.dK [((.inr (Str.ofString k) : Key), u)])) (.dct (.k [.inr (Str.ofString k)]) [d]) (.ref b) := by
        simp only [Rep]
        refine ⟨b, [u], rfl, fun z => ?_, upd_same, rfl, (Reps.anti a3 ⟨[], by simp [Gh.back]⟩).2 _ _ ru2⟩
        rcases z with z | z | z
        · have z : y'.A b := z
          rw [e'.eA] at z
          obtain ⟨o, q⟩ := G.zok b (.inl z)
          rw [hb] at q; cases q
        · obtain ⟨o, q⟩ := G.zok b (.inr (.inl z))
          rw [hb] at q; cases q
        · exact nal z
      cases m with
      | v => exact p _ _ _ a1' (G2.back hW) rep
      | t => exact p _ _ _ a1' (G2.back hW) rep.t
      | f =>
        have eo : (y'.back y.W).off b = y' := by
          have hw : y'.W = fun a => y.W a ∨ a = b := e'.eW
          cases y'
          simp only [Gh.back, Gh.off] at hw ⊢
          rw [hw]
        exact p _ _ b [u] a1' (by rw [eo]; exact G2) hb nal upd_same rfl (by rw [eo]; exact ru2)
/-- {k: v} of a tuple k -/
def tDispT (tk tv : TE) : TE := fun σ H Q => ∀ p, H p = none → tPairs [(tk, tv)] σ (upd H p (.dT [])) fun ps H2 => H2 p = some (.dT []) ∧ ∃ (k : List Key) (c : Addr) (v : V), ps = [(.ref c, v)] ∧ H2 c = some (.tup (k.map kV)) ∧ Q (.ref p) (upd H2 p (.dT [(k, v)]))
theorem pe_dispT {X : Cx} {pos : Pos} {ke ve : Expr} {tk tv : TE} (hu : X.A.units + 1 < cLine) (hk : PE X ke tk) (hv : PE X ve tv) : PE X (.Dict [some ke] [ve] pos) (tDispT tk tv) := by
  refine ⟨fun pins s σ H Q I q => ?_⟩
  have hn := I.hok.fresh (Nat.le_refl s.heap.objs.size)
  have I1 := I.laid (a := s.heap.objs.size) (o := .dT []) (h' := s.heap.push { cls := .type "dict", data := .dict #[] }) (t' := s.toks) (fun _ _ q => Heap.get?_push_of_some _ q) (Nat.le_refl _) (dt_empty s.heap I.big)
  rw [arm_eval_Dict, zip_pairTrees [some ke] [ve] X.env pos rfl rfl, dictDisplay_pairs (pairTrees [some ke] [ve] X.env pos) (by simp [pairTrees]) (by simp [pairTrees])]
  refine wpAny_bind (wpAny_standAt (wpAny_bind (wpAny_subDictH (knd := tupleKind (mixKind X.prog X.w)) (Q := fun d s' => wpAny (model X.prog X.w) X.A (pure (Value.ref d)) (EP X pins σ Q) X.xe s') (show X.A.units < cLine by omega) (by simp [pairTrees])
    (thn ((pps_cons hk hv pps_nil).run pins _ σ _ _ I1 (q _ hn)) fun ws s2 ⟨ps, H2, I2, rel, e, k, c, v, lk, hc, q2⟩ => ?_))))
  subst lk
  cases rel with
  | @cons a b as bs h t =>
    cases t
    obtain ⟨b1, b2⟩ := b
    cases (show b1 = Value.ref c from h.1)
    obtain ⟨z, hd, xs, r0, dd⟩ := dt_of I2.hok e
    cases r0
    refine ⟨[(k, c, b2)], ⟨rfl, rfl, key_of I2.hok hc, trivial⟩, dd, fun h' tk dd' hs => wpAny_pure ⟨.ref s.heap.objs.size, _, ?_, rfl, q2⟩⟩
    obtain ⟨qo, es, ep, hq, h2, h3, h4, _, h5⟩ := dd'
    refine d_write I2 (by rw [e]; exact True.intro) hs ⟨qo, hq⟩ ⟨by rw [sizeLine_eq]; simp, hd, [(k, c, b2)], .cons ⟨rfl, ?_, h.2⟩ .nil, qo, es, ep, hq, h2, h3, h4, h5⟩
    rw [upd_ne (show c ≠ s.heap.objs.size from fun z => by rw [z] at hc; rw [hc] at e; cases e)]
    exact hc
theorem const_pe {v : E} {x : Expr} {c : D} {sc : Scope} {X : Cx} (hx : mE T v sc x = true) (hc : constE v = some c) : ∃ z, (∀ K y H, Rep K y H c z) ∧ PE X x (tC z) := by
  cases v <;> first | (cases hc; done) | skip
  · cases x <;> first | exact absurd (show false = true from hx) Bool.false_ne_true | skip
    rename_i k cn a b
    cases cn <;> first | exact absurd (show false = true from hx) Bool.false_ne_true | skip
    cases hc
    rename_i j
    have e : (k == j) = true := hx
    rw [beq_iff_eq] at e
    subst e
    exact ⟨.int k, fun K y H => by simp only [Rep], pe_int⟩
  · cases x <;> first | exact absurd (show false = true from hx) Bool.false_ne_true | skip
    rename_i k cn a b
    cases cn <;> first | exact absurd (show false = true from hx) Bool.false_ne_true | skip
    cases hc
    rename_i j
    have e : (k == j) = true := hx
    rw [beq_iff_eq] at e
    subst e
    exact ⟨.bl k, fun K y H => by simp only [Rep], pe_bl⟩
theorem me_dctC {t : Bool} {k v : E} (he : ME gl cl T k) : ME gl cl T (.dctC t k v) := by
  intro X W h x hx
  cases x <;> first | exact absurd (show false = true from hx) Bool.false_ne_true | skip
  rename_i ks vs p
  match ks, vs, hx with
  | [some kx], [vx], hx =>
    simp only [mE, Bool.and_eq_true] at hx
    obtain ⟨⟨hk, hv⟩, hc0⟩ := hx
    have hpe := (he X W h kx hk).1 .v fun q => nomatch q
    cases hc : constE v with
    | none => rw [hc] at hc0; cases hc0
    | some c =>
    obtain ⟨z, hz, pz⟩ := const_pe hv hc
    have core : ∀ (m : Mode) (σ : L2.St) (H : Hp) (Q : VK) (y : Gh) (r : List Slot) (g : List O), SR X.K y H r σ → Good X.K y H g → PostX X.K X.mg W m y σ H Q (ev gl cl false r (.dctC t k v) g) → ∀ b, H b = none → ∀ Q' : VK,
        (∀ u H2, (H2 b = some (dHO (if t then .t [] else .k []) []) ∧ ∃ d ks, (dct1K t d c = some (.dct ks [c]) ∧ ks.len = 1) ∧ (∃ y, RepT X.K y H2 d u) ∧ (Q (.ref b) (upd H2 b (dHO ks [z])))) → Q' u H2) →
        (tX X.K X.mg W .v (fun r g => ev gl cl false r k g)) σ (upd H b (dHO (if t then .t [] else .k []) [])) Q' := by
      intro m σ H Q y r g S G p b hb Q' hQ'
      have hdisj : ∀ a, (y.off b).W a → a ∉ (y.off b).al := fun a w z => by
        rcases w with w | w
        · exact (G.disj a z).2 w
        · obtain ⟨u, q⟩ := G.zok a (.inr (.inr z))
          exact ne_of_none q hb w
      refine ⟨y.off b, r, g, (SR.off0 hb S).monoD (ext_new hb) hdisj, G.off hb, ?_⟩
      show PostG X.K X.mg W (RepX X.K false) _ _ _ _ (ev gl cl false r k g)
      have bk : ∀ {y' : Gh} {H' : Hp} {g' : List O}, Ext (y.off b) (upd H b (dHO (if t then .t [] else .k []) [])) y' H' → Good X.K y' H' g' → Ext y H (y'.back y.W) H' ∧ Good X.K (y'.back y.W) H' g' ∧ (∀ a, (y'.back y.W).Z a → y'.Z a) := by
        intro y' H' g' e' G'
        have hW : ∀ a, y.W a → y'.W a := fun a w => by rw [e'.eW]; exact .inl w
        refine ⟨⟨e'.eA, rfl, ?_, fun a o q n => e'.keep a o (by rw [upd_ne (ne_of_none q hb)]; exact q) n, fun a q => ?_⟩, G'.back hW, fun a z => ?_⟩
        · obtain ⟨t, e1, e2⟩ := e'.pre
          refine ⟨t, e1, fun a ha => ?_⟩
          have q := e2 a ha
          by_cases ea : a = b
          · subst ea; exact hb
          · rw [upd_ne ea] at q; exact q
        · have q := e'.dom a q
          by_cases ea : a = b
          · subst ea; exact hb
          · rw [upd_ne ea] at q; exact q
        · rcases z with z | z | z
          · exact .inl z
          · exact .inr (.inl (hW a z))
          · exact .inr (.inr z)
      have p : PostX X.K X.mg W m y σ H Q ((ev gl cl false r k g).bind fun d g => lift ((constE v).bind fun c => dct1K t d c) g) := p
      rw [hc] at p
      cases hr : ev gl cl false r k g with
      | bad => rw [hr] at p; exact (IsPost.x.bad p).elim
      | exc c g' =>
        rw [hr] at p
        intro y' H' c od e' G' xr
        obtain ⟨a1, a2, a3⟩ := bk e' G'
        refine IsPost.x.exc p _ H' c od a1 a2 ?_
        obtain ⟨C, h1, h2, h3⟩ := xr
        refine ⟨C, h1, h2, ?_⟩
        rcases h3 with h3 | ⟨f, d, dd, v, q1, q2, q3, q4, q5⟩
        · exact .inl h3
        · exact .inr ⟨f, d, dd, v, q1, q2, q3, fun z => q4 (a3 _ z), (Reps.anti a3 ⟨[], by simp [Gh.back]⟩).1 _ _ q5⟩
      | ok d g' =>
        rw [hr] at p
        have p : PostX X.K X.mg W m y σ H Q (lift (dct1K t d c) g') := p
        cases hd : dct1K t d c with
        | none => rw [hd] at p; exact (IsPost.x.bad p).elim
        | some od =>
        rw [hd] at p
        have hod : ∃ ks, od = .dct ks [c] ∧ ks.len = 1 := by
          unfold dct1K at hd
          cases t with
          | true =>
            obtain ⟨k', _, rfl⟩ := Option.map_eq_some_iff.mp hd
            exact ⟨_, rfl, rfl⟩
          | false =>
            obtain ⟨k', _, rfl⟩ := Option.map_eq_some_iff.mp hd
            exact ⟨_, rfl, rfl⟩
        obtain ⟨ks, rfl, hkl⟩ := hod
        have p : PostX X.K X.mg W m y σ H Q (.ok (.dct ks [c]) g') := p
        intro y' H' u e' G' ru
        have ru : Rep X.K y' H' d u := ru
        have nal : b ∉ y'.al := fun z => (G'.disj b z).2 (by rw [e'.eW]; exact .inr rfl)
        have hbb : H' b = some (dHO (if t then .t [] else .k []) []) := e'.keep _ _ upd_same fun z => (by
          obtain ⟨t, e1, _⟩ := e'.pre
          exact nal (by rw [e1]; exact List.mem_append_left _ z))
        refine hQ' _ _ ⟨hbb, d, ks, ⟨hd, hkl⟩, ⟨y', ru.t⟩, ?_⟩
        have wb : y'.W b := by rw [e'.eW]; exact .inr rfl
        obtain ⟨G2, ev⟩ := G'.upd (o := dHO ks [z]) wb
        obtain ⟨a1, a2, a3⟩ := bk e' G'
        have a1' : Ext y H (y'.back y.W) (upd H' b (dHO ks [z])) := ⟨a1.eA, a1.eW, a1.pre, fun a o q n => by rw [upd_ne (ne_of_none q hb)]; exact a1.keep a o q n, fun a q => a1.dom a (by
          by_cases ea : a = b
          · subst ea; rw [upd_same] at q; cases q
          · rw [upd_ne ea] at q; exact q)⟩
        have hW : ∀ a, y.W a → y'.W a := fun a w => by rw [e'.eW]; exact .inl w
        have ru2 : Reps X.K y' (upd H' b (dHO ks [z])) [c] [z] := .cons (hz _ _ _) .nil
        have rep : Rep X.K (y'.back y.W) (upd H' b (dHO ks [z])) (.dct ks [c]) (.ref b) := by
          simp only [Rep]
          refine ⟨b, [z], rfl, fun z => ?_, upd_same, hkl, (Reps.anti a3 ⟨[], by simp [Gh.back]⟩).2 _ _ ru2⟩
          rcases z with z | z | z
          · have z : y'.A b := z
            rw [e'.eA] at z
            obtain ⟨o, q⟩ := G.zok b (.inl z)
            rw [hb] at q; cases q
          · obtain ⟨o, q⟩ := G.zok b (.inr (.inl z))
            rw [hb] at q; cases q
          · exact nal z
        cases m with
        | v => exact p _ _ _ a1' (G2.back hW) rep
        | t => exact p _ _ _ a1' (G2.back hW) rep.t
        | f =>
          have eo : (y'.back y.W).off b = y' := by
            have hw : y'.W = fun a => y.W a ∨ a = b := e'.eW
            cases y'
            simp only [Gh.back, Gh.off] at hw ⊢
            rw [hw]
          exact p _ _ b [z] a1' (by rw [eo]; exact G2) hb nal upd_same hkl (by rw [eo]; exact ru2)
    cases t with
    | true =>
      refine me_of rfl fun m hm => peI (pe_dispT (by have := h.units; omega) hpe pz) fun σ H Q ⟨y, r, g, S, G, p⟩ => ?_
      intro b hb
      refine core m σ H Q y r g S G p b hb _ ?_
      rintro u H2 ⟨h1, d, ks, ⟨hd, hl⟩, ⟨y2, ry⟩, q⟩
      obtain ⟨k', hk', e⟩ := Option.map_eq_some_iff.mp (show (keyT d).map (fun k => D.dct (.t [k]) [c]) = _ from hd)
      cases e
      obtain ⟨a, rfl, ha⟩ := keyT_rep hk' ry
      exact ⟨h1, k', a, z, rfl, ha, q⟩
    | false =>
      refine me_of rfl fun m hm => peI (pe_disp (pps_cons hpe pz pps_nil) rfl rfl (by simp) (by simp)) fun σ H Q ⟨y, r, g, S, G, p⟩ => ?_
      intro b hb
      refine core m σ H Q y r g S G p b hb _ ?_
      rintro u H2 ⟨h1, d, ks, ⟨hd, hl⟩, ⟨y2, ry⟩, q⟩
      obtain ⟨k', hk', e⟩ := Option.map_eq_some_iff.mp (show (keyI d).map (fun k => D.dct (.k [k]) [c]) = _ from hd)
      cases e
      have := key_rep hk' ry
      subst this
      exact ⟨h1, [(k', z)], rfl, by simp, q⟩
/-! ### texts -/
theorem strs_map {ys : List Str} : strs? (ys.map D.str) = some ys := by
  induction ys with
  | nil => rfl
  | cons y ys ih => rw [List.map_cons, strs?, ih]; rfl
theorem strs_rep {K : PySem.W.Frag} {y : Gh} {H : Hp} : ∀ {ds : List D} {vs : List V} {ys : List Str}, Reps K y H ds vs → strs? ds = some ys → vs = ys.map V.str
  | [], _, _, h, e => by simp only [Reps] at h; subst h; cases e; rfl
  | .str x :: ds, _, ys, h, e => by
    simp only [Reps] at h
    obtain ⟨v, ws, rfl, h1, h2⟩ := h
    obtain ⟨zs, e1, rfl⟩ := Option.map_eq_some_iff.mp (show (strs? ds).map (x :: ·) = some ys from e)
    simp only [Rep] at h1
    rw [h1, strs_rep h2 e1]; rfl
  | .non :: _, _, _, _, e => by cases e
  | .bl _ :: _, _, _, _, e => by cases e
  | .int _ :: _, _, _, _, e => by cases e
  | .tup _ :: _, _, _, _, e => by cases e
  | .lst _ :: _, _, _, _, e => by cases e
  | .dct _ _ :: _, _, _, _, e => by cases e
  | .ref _ :: _, _, _, _, e => by cases e
  | .scr _ :: _, _, _, _, e => by cases e
theorem strs_reps {K : PySem.W.Frag} {y : Gh} {H : Hp} : ∀ {ys : List Str}, Reps K y H (ys.map D.str) (ys.map V.str)
  | [] => .nil
  | _ :: _ => .cons (by simp only [Rep]) strs_reps
theorem base_of {o : Expr} {f : Str} {env : Env} (h : mBase o = true) : attributeBase o f env (eval o env) = eval o env := by
  cases o <;> first | rfl | exact absurd (show false = true from h) Bool.false_ne_true
theorem star1_of {e : Expr} {env : Env} (h : notStar e = true) : starEach [e] env = [(false, eval e env)] := by
  cases e <;> first | rfl | exact absurd (show false = true from h) Bool.false_ne_true
theorem pe_methB {X : Cx} {W : WX} {m : Mode} {k : Me} {a b : Expr} {Fa Fb : EV} {ap pos : Pos} (hm : m ≠ .f) (hb0 : mBase a = true) (hs : notStar b = true) (hl : (ap.endLine == pos.line) = true) (ha : PE X a (tX X.K X.mg W .t Fa)) (hb : PE X b (tX X.K X.mg W .t Fb)) :
    PE X (.Call (.Attribute a (Str.ofString k.nm) ap) [b] [] pos) (tX X.K X.mg W m fun r g => (Fa r g).bind fun x g => match x with
      | .str s => (Fb r g).bind fun y g => lift (methD k s y) g
      | _ => .bad) := by
  have ans : ∀ {y : Gh} {σ : L2.St} {H : Hp} {Q : VK} {o : D} {g : List O}, PostX X.K X.mg W m y σ H Q (.ok o g) → Ans X.K y H Q o g := fun {y σ H Q o g} p => by
    cases m with
    | v => exact Ans.of (mg := X.mg) (W := W) (σ := σ) (t := false) p
    | t => exact Ans.of (mg := X.mg) (W := W) (σ := σ) (t := true) p
    | f => exact absurd rfl hm
  cases k with
  | join =>
    refine peI (pe_join ha hb (star1_of hs) (base_of hb0) hl) fun σ H Q ⟨y, r, g, S, G, p⟩ => ?_
    refine bindP IsPost.x S G p fun y1 d g1 v H1 S1 G1 pd e1 p1 => ?_
    cases d with
    | str s =>
      have hv : v = .str s := rt_str (show RepT X.K y1 H1 (.str s) v from pd)
      refine ⟨⟨s, hv⟩, ?_⟩
      refine bindP IsPost.x S1 G1 p1 fun y2 e g2 w H2 S2 G2 pe e2 p2 => ?_
      obtain ⟨o, ho, p3⟩ := lift_post IsPost.x p2
      cases e with
      | lst xs =>
        obtain ⟨q, vs, rfl, hq, rr⟩ := rt_lst (show RepT X.K y2 H2 (.lst xs) w from pe)
        obtain ⟨ys, hy, ho⟩ := Option.bind_eq_some_iff.mp (show (strs? xs).bind _ = some o from ho)
        split at ho
        · rename_i hz
          cases ho
          have ev := strs_rep rr hy
          subst ev
          refine ⟨s, q, ys, hv, rfl, .inl (.inl (.inl hq)), ?_, (ans p3).str G2⟩
          have : LIM = 1000000 := rfl
          omega
        · cases ho
      | _ => cases ho
    | _ => exact (IsPost.x.bad p1).elim
  | split =>
    refine peI (pe_split ha hb (star1_of hs) (base_of hb0) hl) fun σ H Q ⟨y, r, g, S, G, p⟩ => ?_
    refine bindP IsPost.x S G p fun y1 d g1 v H1 S1 G1 pd e1 p1 => ?_
    cases d with
    | str s =>
      have hv : v = .str s := rt_str (show RepT X.K y1 H1 (.str s) v from pd)
      refine ⟨⟨s, hv⟩, ?_⟩
      refine bindP IsPost.x S1 G1 p1 fun y2 e g2 w H2 S2 G2 pe e2 p2 => ?_
      obtain ⟨o, ho, p3⟩ := lift_post IsPost.x p2
      cases e with
      | str b =>
        simp only [methD] at ho
        split at ho
        · rename_i hz
          cases ho
          refine ⟨s, b, hv, by rw [rt_str (show RepT X.K y2 H2 (.str b) w from pe)], hz.1, ?_, fun q hq => (ans p3).newL G2 strs_reps q hq⟩
          have := hz.2
          have : LIM = 1000000 := rfl
          rw [sizeLine_eq]; omega
        · cases ho
      | _ => cases ho
    | _ => exact (IsPost.x.bad p1).elim
theorem me_meth {k : Me} {a b : E} (ha : ME gl cl T a) (hb : ME gl cl T b) : ME gl cl T (.meth k a b) := by
  intro X W h x hx
  cases x <;> first | exact absurd (show false = true from hx) Bool.false_ne_true | skip
  rename_i fx xs ks p
  cases fx <;> first | exact absurd (show false = true from hx) Bool.false_ne_true | skip
  rename_i o f ap
  match xs, ks, hx with
  | [z], [], hx =>
    simp only [mE, Bool.and_eq_true, beq_iff_eq] at hx
    obtain ⟨⟨⟨⟨⟨h1, h2⟩, h3⟩, h4⟩, h5⟩, h6⟩ := hx
    subst h1
    exact me_of rfl fun m hm => pe_methB (no_f hm rfl) h4 h3 (by rw [h2]; exact beq_self_eq_true _) ((ha X W h _ h5).1 .t fun q => nomatch q) ((hb X W h _ h6).1 .t fun q => nomatch q)
theorem fmt_len {acc y : Str} (h : (acc ++ y).length ≤ LIM) : y.length ≤ sizeLine ∧ (acc ++ y).length ≤ sizeLine := by
  have : LIM = 1000000 := rfl
  have e := Str.length_append acc y
  rw [sizeLine_eq]; omega
theorem fmt_disj {K : PySem.W.Frag} {y : Gh} {H : Hp} {acc s : Str} {d : D} {v : V} (pd : RepT K y H d v) (hf : fmtD acc d = some s) {R : Str → Prop} (q : ∀ z, acc ++ z = s → (acc ++ z).length ≤ sizeLine → R z) :
    (∃ z : Str, v = .str z ∧ z.length ≤ sizeLine ∧ R z) ∨ ∃ i : Int, v = .int i ∧ i.natAbs.log2 < 1920 ∧ R (toString i) := by
  cases d with
  | str z =>
    simp only [fmtD, catS] at hf
    split at hf
    · rename_i h
      cases hf
      exact .inl ⟨z, rt_str pd, (fmt_len h).1, q z rfl (fmt_len h).2⟩
    · cases hf
  | int i =>
    simp only [fmtD] at hf
    split at hf
    · rename_i h1
      simp only [catS] at hf
      split at hf
      · rename_i h
        cases hf
        exact .inr ⟨i, rt_int pd, log_of h1, q _ rfl (fmt_len h).2⟩
      · cases hf
    · cases hf
  | _ => cases hf
theorem cat_some {acc y s : Str} (h : catS acc y = some s) : s = acc ++ y ∧ (acc ++ y).length ≤ sizeLine := by
  unfold catS at h
  split at h
  · rename_i hl
    cases h
    exact ⟨rfl, (fmt_len hl).2⟩
  · cases h
theorem lift_bind {α β : Type} {Tp : Res β → Prop} (hT : ¬ Tp .bad) {o : Option α} {F : α → List O → Res β} {g : List O} (p : Tp ((lift o g).bind F)) : ∃ a, o = some a ∧ Tp (F a g) := by
  cases o with
  | none => exact (hT p).elim
  | some a => exact ⟨a, rfl, p⟩
theorem me_fs3 {s1 s2 : String} {a b c : E} (ha : ME gl cl T a) (hb : ME gl cl T b) (hc : ME gl cl T c) : ME gl cl T (.fs3 s1 s2 a b c) := by
  intro X W h x hx
  cases x <;> first | exact absurd (show false = true from hx) Bool.false_ne_true | skip
  rename_i parts p
  simp only [mE] at hx
  cases hq : fs5 parts with
  | none => rw [hq] at hx; cases hx
  | some q =>
    obtain ⟨x, y1, z, y2, w⟩ := q
    rw [hq] at hx
    simp only [Bool.and_eq_true, beq_iff_eq] at hx
    obtain ⟨⟨⟨⟨h1, h2⟩, h3⟩, h4⟩, h5⟩ := hx
    subst h1 h2
    obtain ⟨_, _, _, _, _, _, _, rfl⟩ := fs5_inv hq
    have pa := (ha X W h _ h3).1 .t fun q => nomatch q
    have pb := (hb X W h _ h4).1 .t fun q => nomatch q
    have pc := (hc X W h _ h5).1 .t fun q => nomatch q
    refine me_of rfl fun m hm => peI (pe_joined (.cons (pe_fmt pa) (.cons pe_str (.cons (pe_fmt pb) (.cons pe_str (.cons (pe_fmt pc) .nil)))))) fun σ H Q ⟨y, r, g, S, G, p⟩ => ?_
    refine bindP IsPost.x S G p fun y1 d1 g1 v1 H1 S1 G1 pd1 e1 p1 => ?_
    obtain ⟨t1, ht1, p1⟩ := lift_bind (fun q => IsPost.x.bad q) p1
    refine fmt_disj (show RepT X.K y1 H1 d1 v1 from pd1) ht1 fun z1 hz1 hl1 => ⟨z1, rfl, hl1, ?_⟩
    obtain ⟨t2, ht2, p1⟩ := lift_bind (fun q => IsPost.x.bad q) p1
    rw [hz1]
    obtain ⟨c1, c2⟩ := cat_some ht2
    refine ⟨_, rfl, c2, ?_⟩
    rw [← c1]
    refine bindP IsPost.x S1 G1 p1 fun y2 d2 g2 v2 H2 S2 G2 pd2 e2 p2 => ?_
    obtain ⟨t3, ht3, p2⟩ := lift_bind (fun q => IsPost.x.bad q) p2
    refine fmt_disj (show RepT X.K y2 H2 d2 v2 from pd2) ht3 fun z2 hz2 hl2 => ⟨z2, rfl, hl2, ?_⟩
    obtain ⟨t4, ht4, p2⟩ := lift_bind (fun q => IsPost.x.bad q) p2
    rw [hz2]
    obtain ⟨c3, c4⟩ := cat_some ht4
    refine ⟨_, rfl, c4, ?_⟩
    rw [← c3]
    refine bindP IsPost.x S2 G2 p2 fun y3 d3 g3 v3 H3 S3 G3 pd3 e3 p3 => ?_
    obtain ⟨t5, ht5, p3⟩ := lift_bind (fun q => IsPost.x.bad q) p3
    refine fmt_disj (show RepT X.K y3 H3 d3 v3 from pd3) ht5 fun z3 hz3 hl3 => ⟨z3, rfl, hl3, ?_⟩
    rw [hz3]
    cases m with
    | v => exact (Ans.of (mg := X.mg) (W := W) (σ := σ) (t := false) p3).str G3
    | t => exact (Ans.of (mg := X.mg) (W := W) (σ := σ) (t := true) p3).str G3
    | f => exact absurd (show false = true from hm rfl) Bool.false_ne_true
theorem me_sset {e : E} (he : ME gl cl T e) : ME gl cl T (.sset e) := by
  intro X W h x hx
  cases x <;> first | exact absurd (show false = true from hx) Bool.false_ne_true | skip
  rename_i fx xs ks p
  cases fx <;> first | exact absurd (show false = true from hx) Bool.false_ne_true | skip
  match xs, ks, hx with
  | [.Call (.Name y p2) [z] [] p3], [], hx =>
    simp only [mE, Bool.and_eq_true] at hx
    exact me_of rfl fun m hm => pe_ssetB h hx.1.1.1 hx.1.1.2 hx.1.2 ((he X W h _ hx.2).1 .t fun q => nomatch q)
theorem me_rev {e : E} (he : ME gl cl T e) : ME gl cl T (.rev e) := by
  intro X W h x hx
  cases x <;> first | exact absurd (show false = true from hx) Bool.false_ne_true | skip
  rename_i x s p
  match s, hx with
  | .Slice none none (some (.UnaryOp .USub (.Constant (.int k) k1 k2) k3)) k4, hx =>
    simp only [mE, Bool.and_eq_true, beq_iff_eq] at hx
    obtain ⟨rfl, hx⟩ := hx
    exact me_of rfl fun m hm => pe_revB ((he X W h _ hx).1 .t fun q => nomatch q)
theorem me_rng1 (s : Bool) {a : E} (ha : ME gl cl T a) : ME gl cl T (.rng1 s a) := by
  intro X W h x hx
  cases x <;> first | exact absurd (show false = true from hx) Bool.false_ne_true | skip
  rename_i fx xs ks p
  cases fx <;> first | exact absurd (show false = true from hx) Bool.false_ne_true | skip
  match xs, ks, hx with
  | [.Call (.Name y p2) [z] [] p3], [], hx =>
    simp only [mE, Bool.and_eq_true] at hx
    exact me_of rfl fun m hm => pe_rng1B h hx.1.1.1 hx.1.1.2 hx.1.2 ((ha X W h _ hx.2).1 .t fun q => nomatch q)
theorem me_rng2 (s : Bool) {a b : E} (ha : ME gl cl T a) (hb : ME gl cl T b) : ME gl cl T (.rng2 s a b) := by
  intro X W h x hx
  cases x <;> first | exact absurd (show false = true from hx) Bool.false_ne_true | skip
  rename_i fx xs ks p
  cases fx <;> first | exact absurd (show false = true from hx) Bool.false_ne_true | skip
  match xs, ks, hx with
  | [.Call (.Name y p2) [z, w] [] p3], [], hx =>
    simp only [mE, Bool.and_eq_true] at hx
    exact me_of rfl fun m hm => pe_rng2B h hx.1.1.1.1.1 hx.1.1.1.1.2 hx.1.1.1.2 hx.1.1.2 ((ha X W h _ hx.1.2).1 .t fun q => nomatch q) ((hb X W h _ hx.2).1 .t fun q => nomatch q)
theorem sound_e (e : E) : ME gl cl T e := by
  refine E.rec (motive_1 := ME gl cl T) (motive_2 := MEs gl cl T) ?_ ?_ ?_ ?_ ?_ ?_ ?_ ?_ ?_ ?_ ?_ ?_ ?_ ?_ ?_ ?_ ?_ ?_ ?_ ?_ ?_ ?_ ?_ ?_ ?_ ?_ ?_ ?_ ?_ ?_ ?_ ?_ ?_ ?_ ?_ ?_ e
  · exact me_var
  · exact me_own
  · exact me_glob
  · exact me_int
  · exact me_bl
  · exact me_non
  · exact me_str
  · exact fun es h => me_tup h
  · exact fun es h => me_lst h
  · exact fun t st es h => me_seqS h
  · exact fun t => me_dct0
  · exact fun k e h => me_dct1 h
  · exact fun t k v h _ => me_dctC h
  · exact fun op a b ha hb => me_bin ha hb
  · exact fun a ha => me_neg ha
  · exact fun a ha => me_not ha
  · exact fun op a b ha hb => me_cmp ha hb
  · exact fun o p a b c ha hb hc => me_chain ha hb hc
  · exact fun es h => me_band h
  · exact fun es h => me_bor h
  · exact fun c a b hc ha hb => me_ife hc ha hb
  · exact fun f es h => me_call h
  · exact fun f es h => me_bi h
  · exact fun e h => me_sset h
  · exact fun e t h => me_isi h
  · exact fun a b ha hb => me_ix ha hb
  · exact fun a lo hi ha hl hh => me_slice ha hl hh
  · exact fun a ha => me_rev ha
  · exact fun elt tg ik its ifs he h1 h2 => me_comp he h1 h2
  · exact fun e he => me_mk he
  · exact fun m a b ha hb => me_meth ha hb
  · exact fun s1 s2 a b c ha hb hc => me_fs3 ha hb hc
  · exact fun s a ha => me_rng1 s ha
  · exact fun s a b ha hb => me_rng2 s ha hb
  · exact me_nil
  · exact fun e es he hes => me_cons he hes
theorem sound_es (es : List E) : MEs gl cl T es := by
  induction es with
  | nil => exact me_nil
  | cons e es ih => exact me_cons (sound_e e) ih
end
end Bk
end
section
set_option Elab.async false
set_option linter.all false
set_option maxRecDepth 100000
set_option maxHeartbeats 4000000
namespace Bk
open PySem PySem.Spec PyProof.Rows L2 RZ

/-! ## statements: the wishes -/
section
variable (K : PySem.W.Frag) (mg : Str → Option Value) (W : WX)
def PostS (y : Gh) (H : Hp) (D : Ends) : Res Out → Prop
  | .ok (.nx r') g' => ∀ y' H' σ', Evo y H y' H' → Good K y' H' g' → SR K y' H' r' σ' → D.nx σ' H'
  | .ok (.bk r') g' => ∀ y' H' σ', Evo y H y' H' → Good K y' H' g' → SR K y' H' r' σ' → D.bk σ' H'
  | .ok (.ct r') g' => ∀ y' H' σ', Evo y H y' H' → Good K y' H' g' → SR K y' H' r' σ' → D.ct σ' H'
  | .ok (.rt d) g' => ∀ y' H' v, Evo y H y' H' → Good K y' H' g' → Rep K y' H' d v → D.rt v H'
  | .exc x g' => ∀ y' H' c od σ', Evo y H y' H' → Good K y' H' g' → XRep K mg y' H' x c od → W c od σ' H'
  | .bad => False
def tS (F : List Slot → List O → Res Out) : TS := fun D σ H => ∃ y r g, SR K y H r σ ∧ Good K y H g ∧ PostS K mg W y H D (F r g)
end
section
variable {K : PySem.W.Frag} {mg : Str → Option Value} {W : WX} {y y' y1 : Gh} {H H' H1 : Hp} {σ : L2.St} {g : List O} {En : Ends} {r : List Slot}
theorem PostS.evo (e : Evo y H y1 H1) {R : Res Out} (h : PostS K mg W y H En R) : PostS K mg W y1 H1 En R := by
  cases R with
  | bad => exact h
  | exc x g' => exact fun y' H' c od σ' e' => h y' H' c od σ' (e.trans e')
  | ok o g' =>
    cases o with
    | nx r' => exact fun y' H' σ' e' => h y' H' σ' (e.trans e')
    | bk r' => exact fun y' H' σ' e' => h y' H' σ' (e.trans e')
    | ct r' => exact fun y' H' σ' e' => h y' H' σ' (e.trans e')
    | rt d => exact fun y' H' v e' => h y' H' v (e.trans e')
theorem IsPost.s : IsPost K mg W σ (fun y H R => PostS K mg W y H En R) := ⟨fun e h => h.evo e.evo, fun h y' H' c od e => h y' H' c od σ e.evo, fun h => h⟩
theorem psI {X : Cx} {st : Stmt} {t t' : TS} (h : PS X st t) (k : ∀ D σ H, t' D σ H → t D σ H) : PS X st t' := ⟨fun pins s σ H D I q => h.run pins s σ H D I (k D σ H q)⟩
theorem pssI {X : Cx} {st : List Stmt} {t t' : TS} (h : PSs X st t) (k : ∀ D σ H, t' D σ H → t D σ H) : PSs X st t' := ⟨fun pins s σ H D I q => h.run pins s σ H D I (k D σ H q)⟩
/-- an owned slot's object is changed -/
theorem SR.upd (S : SR K y H r σ) (G : Good K y H g) {i : Nat} {ds : List D} {b : Addr} {vs' : List V} {ds' : List Bk.D} (hi : r[i]? = some (.own ds)) (hs : σ[i]? = some (some (.ref b))) (w : y.W b) (rr : Reps K y H ds' vs') :
    SR K y (L2.upd H b (.lst vs')) (r.set i (.own ds')) σ := by
  obtain ⟨G', ev⟩ := G.upd (o := .lst vs') w
  have hl : i < r.length := (List.getElem?_eq_some_iff.mp hi).1
  refine ⟨by rw [List.length_set, S.len], fun j s q => ?_, fun a c s t p hac ha hc hs' ht h1 h2 => ?_⟩
  · rw [List.getElem?_set] at q
    by_cases hij : i = j
    · subst hij
      rw [if_pos rfl, if_pos hl] at q
      cases q
      exact ⟨_, hs, b, vs', rfl, w, upd_same, Reps.monoS ev _ _ rr⟩
    · rw [if_neg hij] at q
      obtain ⟨o, e1, h1⟩ := S.at_ j s q
      refine ⟨o, e1, ?_⟩
      cases s with
      | no => trivial
      | fz d => obtain ⟨v, q1, q2⟩ := h1; exact ⟨v, q1, Rep.monoS ev _ _ q2⟩
      | own es =>
        obtain ⟨c, ws, q1, q2, q3, q4⟩ := h1
        refine ⟨c, ws, q1, q2, ?_, Reps.monoS ev _ _ q4⟩
        rw [upd_ne fun e : c = b => S.dist i j _ _ b hij hi q rfl rfl hs (by rw [e1, q1, e])]
        exact q3
      | ownK ks es =>
        obtain ⟨c, ws, q1, q2, q3, q4, q5⟩ := h1
        refine ⟨c, ws, q1, q2, ?_, q4, Reps.monoS ev _ _ q5⟩
        rw [upd_ne fun e : c = b => S.dist i j _ _ b hij hi q rfl rfl hs (by rw [e1, q1, e])]
        exact q3
  · have get : ∀ (k : Nat) (u : Slot), (r.set i (.own ds'))[k]? = some u → u.owns = true → ∃ u' : Slot, r[k]? = some u' ∧ u'.owns = true := fun k u q ho => by
      rw [List.getElem?_set] at q
      by_cases hik : i = k
      · subst hik; exact ⟨_, hi, rfl⟩
      · rw [if_neg hik] at q; exact ⟨u, q, ho⟩
    obtain ⟨s', q1, q2⟩ := get a s ha hs'
    obtain ⟨t', q3, q4⟩ := get c t hc ht
    exact S.dist a c s' t' p hac q1 q3 q2 q4 h1 h2
/-- an owned list goes: it is a value from now on -/
def Gh.let (y : Gh) (b : Addr) : Gh := { y with W := fun a => y.W a ∧ a ≠ b }
theorem let_z {b : Addr} : ∀ a, (y.let b).Z a → y.Z a := fun a z => by
  rcases z with z | z | z
  · exact .inl z
  · exact .inr (.inl z.1)
  · exact .inr (.inr z)
theorem let_evo {b : Addr} : Evo y H (y.let b) H := ⟨rfl, ⟨[], by simp [Gh.let], fun _ h => by simp at h⟩, fun _ _ h _ _ => h, fun _ h => h, fun a w => .inl w.1⟩
theorem Good.let (G : Good K y H g) (b : Addr) : Good K (y.let b) H g := by
  refine ⟨fun a z => G.zok a (let_z a z), fun a w => G.aw a w.1, fun a ha => ⟨(G.disj a ha).1, fun w => (G.disj a ha).2 w.1⟩, G.nd, G.len, fun n a q h1 h2 => ?_, fun a xs z => G.mt a xs (let_z a z)⟩
  have h3 := G.objs n a q h1 h2
  cases q with
  | lst ds =>
    obtain ⟨vs, e1, e2⟩ := h3
    exact ⟨vs, e1, (Reps.anti let_z ⟨[], by simp [Gh.let]⟩).2 _ _ e2⟩
theorem let_no (G : Good K y H g) {b : Addr} (w : y.W b) : ¬ (y.let b).Z b := fun z => by
  rcases z with z | z | z
  · exact G.aw b w z
  · exact z.2 rfl
  · exact (G.disj b z).2 w
theorem SR.let (S : SR K y H r σ) (G : Good K y H g) {i : Nat} {s : Slot} {b : Addr} {d : Bk.D} (hi : r[i]? = some s) (ho : s.owns = true) (hs : σ[i]? = some (some (.ref b))) (rr : Rep K (y.let b) H d (.ref b)) :
    SR K (y.let b) H (r.set i (.fz d)) σ := by
  have hl : i < r.length := (List.getElem?_eq_some_iff.mp hi).1
  have an := Reps.anti (K := K) (y := y) (y' := y.let b) (H := H) let_z ⟨[], by simp [Gh.let]⟩
  refine ⟨by rw [List.length_set, S.len], fun j t q => ?_, fun a c s t p hac ha hc hs' ht h1 h2 => ?_⟩
  · rw [List.getElem?_set] at q
    by_cases hij : i = j
    · subst hij
      rw [if_pos rfl, if_pos hl] at q
      cases q
      exact ⟨_, hs, _, rfl, rr⟩
    · rw [if_neg hij] at q
      obtain ⟨o, e1, h1⟩ := S.at_ j t q
      refine ⟨o, e1, ?_⟩
      cases t with
      | no => trivial
      | fz d => obtain ⟨v, q1, q2⟩ := h1; exact ⟨v, q1, an.1 _ _ q2⟩
      | own es =>
        obtain ⟨c, ws, q1, q2, q3, q4⟩ := h1
        exact ⟨c, ws, q1, ⟨q2, fun e => S.dist i j _ _ b hij hi q ho rfl hs (by rw [e1, q1, e])⟩, q3, an.2 _ _ q4⟩
      | ownK ks es =>
        obtain ⟨c, ws, q1, q2, q3, q4, q5⟩ := h1
        exact ⟨c, ws, q1, ⟨q2, fun e => S.dist i j _ _ b hij hi q ho rfl hs (by rw [e1, q1, e])⟩, q3, q4, an.2 _ _ q5⟩
  · have nf : ∀ (k : Nat) (u : Slot), (r.set i (.fz d))[k]? = some u → u.owns = true → r[k]? = some u := fun k u q hu => by
      rw [List.getElem?_set] at q
      by_cases hik : i = k
      · subst hik
        rw [if_pos rfl, if_pos hl] at q
        cases q
        exact absurd (show false = true from hu) Bool.false_ne_true
      · rw [if_neg hik] at q; exact q
    exact S.dist a c s t p hac (nf a s ha hs') (nf c t hc ht) hs' ht h1 h2
end

/-! ## the match of statements -/
def swB (sc : Scope) (z : Str) (p : Pos) : Expr → Bool
  | .ListComp _ _ s pos => sc.names.lookup z == some .local && p.line == pos.line && !(s.names.any fun (n, k) => n == z && (k == .local || k == .cell))
  | _ => false
def isLc : Expr → Bool
  | .ListComp _ _ _ _ => true
  | _ => false
def isMk : E → Bool
  | .mk _ => true
  | _ => false
def isSt : Expr → Bool
  | .Starred _ _ => true
  | _ => false
def swNames (sc : Scope) (ts : List Expr) : List Str := ts.filterMap fun
  | .Name id pos => if sc.names.lookup id == some .local && pos.line == (ts.head?.map (·.pos.line)).getD 0 then some id else none
  | _ => none
def swOff (sc : Scope) (ts vs : List Expr) : Bool := (!(ts.length == 2 || ts.length == 3) || vs.length != ts.length) || (vs.any isSt) || ((swNames sc ts).length != ts.length || (swNames sc ts).eraseDups.length != (swNames sc ts).length) || vs.all (foldedForSure 8)
def swOn (sc : Scope) (ts vs : List Expr) : Bool := !swOff sc ts vs && !(vs.all (constantsAlone 8))
/-- the stores of a tuple are in order -/
def swN (sc : Scope) : Expr → Expr → Bool
  | .Tuple ts _ _, .Tuple vs _ _ => swOff sc ts vs
  | .List _ _, _ => false
  | _, _ => true
def lcN (sc : Scope) (N : List Str) : List Nat → List Expr → Bool
  | [], [] => true
  | i :: is, .Name x _ :: xs => decide (N[i]? = some x) && decide (sc.names.lookup x = some .local) && lcN sc N is xs
  | _, _ => false
def augOk : Bop → Bool
  | .add => true | .sub => true | .mul => true | .mod => true
  | _ => false
def frB : List Bool → List E → Bool
  | [], [] => true
  | b :: fl, e :: es => (!b || fresh e) && frB fl es
  | _, _ => false
/-- (x := v) is None -/
def walE : Expr → Option (Str × Expr)
  | .Compare (.NamedExpr (.Name z _) v _) [.Is] [.Constant .none _ _] _ => some (z, v)
  | _ => none
theorem walE_inv {e : Expr} {z : Str} {v : Expr} (h : walE e = some (z, v)) : ∃ p1 p2 k p3 p4, e = .Compare (.NamedExpr (.Name z p1) v p2) [.Is] [.Constant .none k p3] p4 := by
  unfold walE at h
  split at h
  · cases h; exact ⟨_, _, _, _, _, rfl⟩
  · cases h
mutual
def mSt (T : MT) (sc : Scope) : S → Stmt → Bool
  | .asg (.nm i) e, .Assign [.Name z _] v _ => decide (T.N[i]? = some z) && locB sc z && (isLc v || notLc v) && !(isMk e && isLc v) && mE T e sc v
  | .asg (.tp is) e, .Assign [.Tuple ts k p] v _ => mNs T.N sc is ts && swN sc (.Tuple ts k p) v && (isLc v || notLc v) && mE T e sc v
  | .asgOwn i e, .Assign [.Name z _] v _ => decide (T.N[i]? = some z) && locB sc z && (isLc v || notLc v) && !(isMk e && isLc v) && fresh e && mE T e sc v
  | .par is es, .Assign [.Tuple ts _ _] (.Tuple vs _ _) _ => decide (is.Nodup) && lcN sc T.N is ts && swOn sc ts vs && mEs T es sc vs
  | .parO is fl es, .Assign [.Tuple ts _ _] (.Tuple vs _ _) _ => frB fl es && mEs T es sc vs && ((decide (is.Nodup) && lcN sc T.N is ts && swOn sc ts vs) || (decide (is.length ≤ 1000) && mNs T.N sc is ts && swOff sc ts vs))
  | .aug i op e, .AugAssign (.Name z _) o v _ => decide (T.N[i]? = some z) && locB sc z && augOk op && decide (op.op = o) && mE T e sc v
  | .setR a b e, .Assign [.Subscript x z _] v _ => notSl z && (isLc v || notLc v) && mE T a sc x && mE T b sc z && mE T e sc v
  | .app i e, .Expr (.Call (.Attribute (.Name z _) f ap) [v] [] cp) _ => rdB T sc i z && (f == Str.ofString "append") && (ap.endLine == cp.line) && notStar v && mE T e sc v
  | .setO i b e, .Assign [.Subscript (.Name x _) z _] v _ => notSl z && (isLc v || notLc v) && rdB T sc i x && mE T b sc z && mE T e sc v
  | .appPop i j e, .Expr (.Call (.Attribute (.Name z _) f ap) [.Call (.Attribute (.Name x _) f2 ap2) [v] [] cp2] [] cp) _ => rdB T sc i z && rdB T sc j x && (f == Str.ofString "append") && (f2 == Str.ofString "pop") && (ap.endLine == cp.line) && (ap2.endLine == cp2.line) && notStar v && mE T e sc v
  | .popX i, .Expr (.Call (.Attribute (.Name z _) f ap) [] [] cp) _ => rdB T sc i z && (f == Str.ofString "pop") && (ap.endLine == cp.line)
  | .extend i e, .Expr (.Call (.Attribute (.Name z _) f ap) [v] [] cp) _ => rdB T sc i z && (f == Str.ofString "extend") && (ap.endLine == cp.line) && notStar v && mE T e sc v
  | .iff c a b, .If x p q _ => mE T c sc x && mSts T sc a p && mSts T sc b q
  | .for_ tg ik its b, .For tx ix p [] _ => (match itX sc ik ix with
      | some xs => mEs T its sc xs
      | none => false) && ikOk ik tg && mTg T.N sc tg tx && mSts T sc b p
  | .while_ c b, .While x p [] _ => mE T c sc x && mSts T sc b p
  | .walN i e a b, .If x p q _ => (match walE x with
      | some zv => decide (T.N[i]? = some zv.1) && locB sc zv.1 && mE T e sc zv.2
      | none => false) && mSts T sc a p && mSts T sc b q
  | .ret e, .Return (some v) _ => mE T e sc v
  | .retO i, .Return (some (.Name z _)) _ => rdB T sc i z
  | .pass, .Pass _ => true
  | .pass, .Expr (.Constant (.str _) _ _) _ => true
  | .brk, .Break _ => true
  | .cont, .Continue _ => true
  | _, _ => false
def mSts (T : MT) (sc : Scope) : List S → List Stmt → Bool
  | [], [] => true
  | s :: ss, xs => match s with
    | .frz _ => mSts T sc ss xs
    | s => match xs with
      | x :: xs => mSt T sc s x && mSts T sc ss xs
      | [] => false
  | _, _ => false
end
structure HS (gl : Nat → Option D) (cl : Nat → List D → List O → Res D) (T : MT) (X : Cx) (W : WX) : Prop extends HX gl cl T X W where
  fn : ∀ x, X.fn x = true
  kind : X.env.scope.kind = .function
  pass : PassesOwn (model X.prog X.w) X.A X.env X.xe

/-! ## swaps -/
section
variable {X : Cx}
theorem bk_fn {env : Env} (h : env.scope.kind = .function) : env.blockKind = .function := by unfold Env.blockKind; rw [h]; rfl
theorem sw_name {env : Env} (hk : env.scope.kind = .function) {v : Expr} {z : Str} {p : Pos} {l : Nat} (h : (isLc v || notLc v) = true) : swapsWith v (some (.Name z p)) l env = pure (swB env.scope z p v) := by
  cases v <;> first | rfl | exact absurd (show false = true from h) Bool.false_ne_true | skip
  rename_i elt gs s pos
  unfold swapsWith swB
  simp only [bk_fn hk, Env.kindOf, Expr.pos]
  rfl
theorem sw_other {env : Env} {v tg : Expr} {l : Nat} (h : (isLc v || notLc v) = true) (ht : ∀ z p, tg ≠ .Name z p) : swapsWith v (some tg) l env = pure false := by
  cases v <;> first | rfl | exact absurd (show false = true from h) Bool.false_ne_true | skip
  cases tg <;> first | rfl | exact absurd rfl (ht _ _)
theorem any_st {vs : List Expr} : (vs.any fun | .Starred .. => true | _ => false) = vs.any isSt := by
  congr
theorem sw_off {env : Env} (hk : env.scope.kind = .function) {ts vs : List Expr} {k k2 : Nat} {p p2 : Pos} (h : swOff env.scope ts vs = true) : swappedStores [.Tuple ts k p] (.Tuple vs k2 p2) env = pure none := by
  unfold swappedStores
  simp only [bk_fn hk]
  unfold swOff at h
  simp only [Bool.or_eq_true] at h
  split
  · rfl
  · rename_i n1
    split
    · rfl
    · rename_i n2
      split
      · rfl
      · rename_i n3
        split
        · rfl
        · rename_i n4
          exfalso
          simp only [Bool.or_eq_true, not_or] at n1 n3
          rcases h with (((h | h) | h) | (h | h)) | h
          · exact n1.1.1 h
          · exact n1.1.2 h
          · exact n2 h
          · exact n3.1 h
          · exact n3.2 h
          · exact n4 h
theorem sw_on {env : Env} (hk : env.scope.kind = .function) {ts vs : List Expr} {k k2 : Nat} {p p2 : Pos} (h : swOn env.scope ts vs = true) : swappedStores [.Tuple ts k p] (.Tuple vs k2 p2) env = pure (some (swNames env.scope ts)) := by
  unfold swOn swOff at h
  simp only [Bool.and_eq_true, Bool.not_eq_true', Bool.or_eq_false_iff] at h
  obtain ⟨⟨⟨⟨⟨a, b⟩, c⟩, d, e⟩, f⟩, i⟩ := h
  unfold swappedStores
  simp only [bk_fn hk]
  have h2 : ¬ (vs.any isSt) = true := by rw [c]; exact Bool.false_ne_true
  have h3 : ¬ (((swNames env.scope ts).length != ts.length) = true ∨ ((swNames env.scope ts).eraseDups.length != (swNames env.scope ts).length) = true) := by
    rw [d, e]
    exact fun z => z.elim Bool.false_ne_true Bool.false_ne_true
  have h1 : ¬ (((!(ts.length == 2 || ts.length == 3)) = true ∨ (vs.length != ts.length) = true) ∨ (ScopeKind.function != ScopeKind.function) = true) := by
    rw [a, b]
    exact fun z => z.elim (fun z => z.elim Bool.false_ne_true Bool.false_ne_true) fun z => absurd z (by decide)
  split
  · rename_i n
    simp only [Bool.or_eq_true] at n
    exact absurd n h1
  · split
    · rename_i n
      exact absurd n h2
    · split
      · rename_i n
        simp only [Bool.or_eq_true] at n
        exact absurd n h3
      · split
        · rename_i n
          rw [f] at n; exact absurd n Bool.false_ne_true
        · split
          · rename_i n
            rw [i] at n; exact absurd n Bool.false_ne_true
          · rfl
theorem lc_names {sc : Scope} {N : List Str} : ∀ {is : List Nat} {ts : List Expr}, lcN sc N is ts = true → ts.all (fun | .Name _ _ => true | _ => false) = true
  | [], [], _ => rfl
  | i :: is, .Name x _ :: xs, h => by
    simp only [lcN, Bool.and_eq_true] at h
    simp [lc_names h.2]
end
end Bk
end
section
set_option Elab.async false
set_option linter.all false
set_option maxRecDepth 100000
set_option maxHeartbeats 4000000
namespace Bk
open PySem PySem.Spec PyProof.Rows L2 RZ
section
variable {X : Cx} {W : WX} {gl : Nat → Option D} {cl : Nat → List D → List O → Res D} {T : MT} {m : Mode} {pos : Pos}
/-! ### assignments -/
theorem asg_imp {tg : Tg} {F : EV} {En : Ends} {σ : L2.St} {H : Hp} (q : tS X.K X.mg W (fun r g => (F r g).bind fun d g => (lift (setTg r tg (derefT g tg d)) g).bind fun r g => .ok (.nx r) g) En σ H) : tAsg (tX X.K X.mg W .v F) (tgG X.K tg) En σ H := by
  obtain ⟨y, r, g, S, G, p⟩ := q
  refine bindP (F := F) (IsPost.s (En := En)) S G p fun y1 d g1 v H1 S1 G1 pd e1 p1 => ?_
  cases hst : setTg r tg (derefT g1 tg d) with
  | none => rw [hst] at p1; exact p1.elim
  | some r' =>
    rw [hst] at p1
    have plain : derefT g1 tg d = d → tgG X.K tg v σ H1 fun σ' H' => En.nx σ' H' := fun q => by
      rw [q] at hst
      exact tg_run S1 pd hst fun σ' S' _ => p1 y1 H1 σ' (Evo.refl _ _) G1 S'
    cases tg with
    | nm i => exact plain rfl
    | tp is =>
      rcases rt_deref G1 (show RepT X.K y1 H1 d v from (show Rep X.K y1 H1 d v from pd).t) with ⟨ds, q, a, vs, rfl, h1, h2⟩ | q
      · have q2 : derefT g1 (.tp is) d = .lst ds := q
        rw [q2] at hst
        exact tg_lst S1 h1 h2 hst fun σ' S' => p1 y1 H1 σ' (Evo.refl _ _) G1 S'
      · exact plain q
/-- a fresh list becomes the frame's own -/
theorem own_imp {F : EV} {i : Nat} {En : Ends} {σ : L2.St} {H : Hp} (q : tS X.K X.mg W (fun r g => (F r g).bind fun d g => match d with
    | .lst ds => .ok (.nx (r.set i (.own ds))) g
    | .dct ks ds => .ok (.nx (r.set i (.ownK ks ds))) g
    | _ => .bad) En σ H) : tAsg (tX X.K X.mg W .f F) (gName i) En σ H := by
  obtain ⟨y, r, g, S, G, p⟩ := q
  refine ⟨y, r, g, S, G, ?_⟩
  unfold PostX
  dsimp only at p ⊢
  cases e : F r g with
  | bad => rw [e] at p; exact p
  | exc x g' => rw [e] at p; exact fun y' H' c od e' G' q => p y' H' c od σ e'.evo G' q
  | ok d g' =>
    rw [e] at p
    have key : ∀ {y' : Gh} {H' : Hp} {b : Addr} {u : HO} {s : Slot}, Ext y H y' H' → Good X.K (y'.off b) H' g' → H b = none → b ∉ y'.al → s.owns = true → SlotRep X.K (y'.off b) H' s (some (.ref b)) → SR X.K (y'.off b) H' (r.set i s) (σ.set i (some (.ref b))) ∧ Evo y H (y'.off b) H' := by
      intro y' H' b u s e' G' hb nb so sr
      have ev : Evo y H (y'.off b) H' := ⟨e'.eA, e'.pre, fun a o h n _ => e'.keep a o h n, e'.dom, fun a w => by
        rcases w with w | w
        · exact .inl (by rw [← e'.eW]; exact w)
        · subst w; exact .inr hb⟩
      have S1 := S.mono e' G
      refine ⟨⟨by rw [List.length_set, List.length_set, S.len], fun j t q => ?_, fun a c t1 t2 p hac ha hc ho1 ho2 h1 h2 => ?_⟩, ev⟩
      · rw [List.getElem?_set] at q ⊢
        by_cases hij : i = j
        · rw [if_pos hij] at q ⊢
          subst hij
          by_cases hl : i < r.length
          · rw [if_pos hl] at q
            rw [if_pos (by rw [← S.len]; exact hl)]
            cases q
            exact ⟨_, rfl, sr⟩
          · rw [if_neg hl] at q; cases q
        · rw [if_neg hij] at q ⊢
          obtain ⟨o, e1, h1⟩ := S.at_ j t q
          refine ⟨o, e1, ?_⟩
          have hd : ∀ a, y.W a → a ∉ y.al := fun a w m => (G.disj a m).2 w
          cases t with
          | no => trivial
          | fz d => obtain ⟨v, q1, q2⟩ := h1; exact ⟨v, q1, Rep.monoS ev _ _ q2⟩
          | own ds => obtain ⟨c, ws, q1, q2, q3, q4⟩ := h1; exact ⟨c, ws, q1, .inl (by rw [e'.eW]; exact q2), e'.keep _ _ q3 (hd c q2), Reps.monoS ev _ _ q4⟩
          | ownK ks ds => obtain ⟨c, ws, q1, q2, q3, q4, q5⟩ := h1; exact ⟨c, ws, q1, .inl (by rw [e'.eW]; exact q2), e'.keep _ _ q3 (hd c q2), q4, Reps.monoS ev _ _ q5⟩
      · have own_ne : ∀ (k : Nat) (t : Slot), i ≠ k → r[k]? = some t → t.owns = true → σ[k]? ≠ some (some (.ref b)) := fun k t hk q ho z => by
          obtain ⟨o, e1, h1⟩ := S.at_ k t q
          rw [z] at e1; cases e1
          cases t with
          | no => cases ho
          | fz d => cases ho
          | own ds => obtain ⟨c, ws, q1, q2, q3, q4⟩ := h1; cases q1; rw [hb] at q3; cases q3
          | ownK ks ds => obtain ⟨c, ws, q1, q2, q3, q4, q5⟩ := h1; cases q1; rw [hb] at q3; cases q3
        rw [List.getElem?_set] at ha hc h1 h2
        by_cases ia : i = a
        · subst ia
          rw [if_neg hac] at hc h2
          rw [if_pos rfl] at h1
          split at h1
          · cases h1
            exact own_ne c t2 hac hc ho2 h2
          · cases h1
        · rw [if_neg ia] at ha h1
          by_cases ic : i = c
          · subst ic
            rw [if_pos rfl] at h2
            split at h2
            · cases h2
              exact own_ne a t1 ia ha ho1 h1
            · cases h2
          · rw [if_neg ic] at hc h2
            exact S.dist a c t1 t2 p hac ha hc ho1 ho2 h1 h2
    cases d with
    | lst ds =>
      intro y' H' b vs e' G' hb nb hv rv
      obtain ⟨S2, ev⟩ := key (u := .lst vs) (s := .own ds) e' G' hb nb rfl ⟨b, vs, rfl, .inr rfl, hv, rv⟩
      exact p _ H' _ ev G' S2
    | dct ks ds =>
      intro y' H' b vs e' G' hb nb hv hl rv
      obtain ⟨S2, ev⟩ := key (u := dHO ks vs) (s := .ownK ks ds) e' G' hb nb rfl ⟨b, vs, rfl, .inr rfl, hv, hl, rv⟩
      exact p _ H' _ ev G' S2
    | _ => exact p.elim
end
section
variable {X : Cx} {W : WX} {gl : Nat → Option D} {cl : Nat → List D → List O → Res D} {T : MT} {pos : Pos}
theorem loc_fn (h : HS gl cl T X W) {x : Str} (hl : locB X.env.scope x = true) : L2.Loc X.env.scope x ∧ (X.fn x = true ∨ X.env.scope.names.lookup x = some .local) := ⟨loc_of hl, .inl (h.fn x)⟩
/-- to a name, by any mode -/
theorem ps_name (h : HS gl cl T X W) {e : E} {v : Expr} {z : Str} {p : Pos} {i : Nat} (hi : T.N[i]? = some z) (hl : locB X.env.scope z = true) (hv : (isLc v || notLc v) = true) (hmk : (!(isMk e && isLc v)) = true) (he : mE T e X.env.scope v = true) (m : Mode) (hm : m = .f → fresh e = true) :
    PS X (.Assign [.Name z p] v pos) (tAsg (tX X.K X.mg W m fun r g => ev gl cl m.b r e g) (gName i)) := by
  have hz : X.N[i]? = some z := by rw [h.N]; exact hi
  obtain ⟨l1, l2⟩ := loc_fn h hl
  have hx := (sound_e e X W h.toHX v he).1 m hm
  cases hs : swB X.env.scope z p v with
  | false => exact ps_set h.nd hz l1 hx (by rw [sw_name h.kind hv, hs]) l2
  | true =>
    cases v <;> first | exact absurd (show false = true from hs) Bool.false_ne_true | skip
    rename_i x gs scope lp
    cases e <;> first | exact absurd (show false = true from he) Bool.false_ne_true | skip
    case comp elt tg ik its ifs =>
      match gs, he, hx with
      | [⟨tx, ix, fx, n⟩], he, _ =>
        simp only [mE, Bool.and_eq_true, decide_eq_true_eq, beq_iff_eq] at he
        obtain ⟨⟨⟨⟨⟨⟨⟨hn, h1⟩, h2⟩, h3⟩, h4⟩, h5⟩, h6⟩, h7⟩ := he
        subst hn
        cases hi' : itX X.env.scope ik ix with
        | none => rw [hi'] at h1; cases h1
        | some xs =>
          rw [hi'] at h1
          obtain ⟨q1, q2⟩ := pi_of (m := .t) (by decide) rfl h.toHX hi' h1 h2 h3 (sound_es its)
          have hloc : X.env.scope.names.lookup z = some .local := by
            unfold swB at hs
            simp only [Bool.and_eq_true, beq_iff_eq] at hs
            exact hs.1.1
          have key := ps_compB (m := m) (pos := lp) (spos := pos) (pz := p) h.toHX (FB := fun r g => evIf gl cl r ifs g) (FE := fun r g => ev gl cl false r elt g) q1 (blkOk_by (by rw [h.N]; exact h4)) h3
            (fun s H C c fp => (sound_es ifs _ _ (h.toHX.blk s H scope (compEnvC scope c C X.env) fp)).2.2.1 fx h5 h6)
            (fun s H C c fp => (sound_e elt _ _ (h.toHX.blk s H scope (compEnvC scope c C X.env) fp) x h7).1 .v fun q => nomatch q) q2 hz hloc (by rw [sw_name h.kind hv, hs])
          have ft : (fun r g => ev gl cl m.b r (.comp elt tg ik its ifs) g) = fun r g => ((evs gl cl true r its g).bind fun ds g => lift (iterD ik ds) g).bind fun xs g => (noX (loopC (bdC tg (fun r g => evIf gl cl r ifs g) (fun r g => ev gl cl false r elt g) r) xs [] g)).bind fun ys g => .ok (.lst ys) g := by
            funext r g
            rw [Res.assoc]
            simp only [ev]
            rfl
          rw [ft]
          exact key
    case seqS t st es => cases t <;> exact absurd (show false = true from he) Bool.false_ne_true
    case mk e => exact absurd (show false = true from hmk) Bool.false_ne_true
theorem op_ne {m : Mode} {e : E} : m = .v → (m = .f → fresh e = true) := fun h q => by rw [h] at q; cases q
theorem ps_asgNm (h : HS gl cl T X W) {e : E} {v : Expr} {z : Str} {p : Pos} {i : Nat} (hi : T.N[i]? = some z) (hl : locB X.env.scope z = true) (hv : (isLc v || notLc v) = true) (hmk : (!(isMk e && isLc v)) = true) (he : mE T e X.env.scope v = true) :
    PS X (.Assign [.Name z p] v pos) (tS X.K X.mg W fun r g => ex gl cl r (.asg (.nm i) e) g) :=
  psI (ps_name h hi hl hv hmk he .v (op_ne rfl)) fun En σ H q => asg_imp (tg := .nm i) (F := fun r g => ev gl cl false r e g) q
theorem ps_asgOwn (h : HS gl cl T X W) {e : E} {v : Expr} {z : Str} {p : Pos} {i : Nat} (hi : T.N[i]? = some z) (hl : locB X.env.scope z = true) (hv : (isLc v || notLc v) = true) (hmk : (!(isMk e && isLc v)) = true) (hf : fresh e = true) (he : mE T e X.env.scope v = true) :
    PS X (.Assign [.Name z p] v pos) (tS X.K X.mg W fun r g => ex gl cl r (.asgOwn i e) g) :=
  psI (ps_name h hi hl hv hmk he .f fun _ => hf) fun En σ H q => own_imp (F := fun r g => ev gl cl false r e g) q
theorem ps_asgTp (h : HS gl cl T X W) {e : E} {v : Expr} {ts : List Expr} {k : Nat} {p : Pos} {is : List Nat} (ht : mNs T.N X.env.scope is ts = true) (hw : swN X.env.scope (.Tuple ts k p) v = true) (hv : (isLc v || notLc v) = true) (he : mE T e X.env.scope v = true) :
    PS X (.Assign [.Tuple ts k p] v pos) (tS X.K X.mg W fun r g => ex gl cl r (.asg (.tp is) e) g) := by
  have hg : PG X (.Tuple ts k p) (tgG X.K (.tp is)) := pg_of h.calm h.N h.nd (fun x hx => loc_fn h hx) (show mTg T.N X.env.scope (.tp is) (.Tuple ts k p) = true from ht)
  have hx := (sound_e e X W h.toHX v he).1 .v (op_ne rfl)
  have hsw : swapsWithSole [.Tuple ts k p] v pos.line X.env = pure false := sw_other (env := X.env) (l := pos.line) (tg := .Tuple ts k p) hv fun _ _ q => nomatch q
  refine psI (ps_asg hx hg hsw ?_ rfl) fun En σ H q => asg_imp (tg := .tp is) (F := fun r g => ev gl cl false r e g) q
  cases v <;> first | rfl | skip
  exact sw_off h.kind hw
theorem ps_setRB (h : HS gl cl T X W) {a b e : E} {x z v : Expr} {p : Pos} (hz : notSl z = true) (hv : (isLc v || notLc v) = true) (ha : mE T a X.env.scope x = true) (hb : mE T b X.env.scope z = true) (he : mE T e X.env.scope v = true) :
    PS X (.Assign [.Subscript x z p] v pos) (tS X.K X.mg W fun r g => ex gl cl r (.setR a b e) g) := by
  have hx := (sound_e e X W h.toHX v he).1 .v (op_ne rfl)
  have h1 := (sound_e a X W h.toHX x ha).1 .t fun q => nomatch q
  have h2 := (sound_e b X W h.toHX z hb).1 .t fun q => nomatch q
  have hg : PG X (.Subscript x z p) (gSub (tX X.K X.mg W .t fun r g => ev gl cl true r a g) (tX X.K X.mg W .t fun r g => ev gl cl true r b g) rSetL) :=
    pg_sub h1 h2 set_list (by intro u; cases z <;> first | rfl | exact absurd (show false = true from hz) Bool.false_ne_true)
  have hsw : swapsWithSole [.Subscript x z p] v pos.line X.env = pure false := sw_other (env := X.env) (l := pos.line) (tg := .Subscript x z p) hv fun _ _ q => nomatch q
  refine psI (ps_asg hx hg hsw rfl rfl) fun En σ H q => ?_
  obtain ⟨y, r, g, S, G, p⟩ := q
  refine bindP (F := fun r g => ev gl cl false r e g) (IsPost.s (En := En)) S G p fun y1 d g1 u H1 S1 G1 pd e1 p1 => ?_
  refine bindP (F := fun r g => ev gl cl true r a g) (IsPost.s (En := En)) S1 G1 p1 fun y2 o g2 ov H2 S2 G2 po e2 p2 => ?_
  refine bindP (F := fun r g => ev gl cl true r b g) (IsPost.s (En := En)) S2 G2 p2 fun y3 kk g3 kv H3 S3 G3 pk e3 p3 => ?_
  cases o with
  | ref n =>
    cases kk with
    | int j =>
      dsimp only at p3
      cases hg3 : g3[n]? with
      | none => rw [hg3] at p3; exact p3.elim
      | some ob =>
        cases ob with
        | lst ds =>
          rw [hg3] at p3
          dsimp only at p3
          cases hst : setAt ds j d with
          | none => rw [hst] at p3; exact p3.elim
          | some ds' =>
            rw [hst] at p3
            have p3 : PostS X.K X.mg W y3 H3 En (.ok (.nx r) (g3.set n (.lst ds'))) := p3
            have po' : Rep X.K y3 H3 (.ref n) ov := Rep.mono e3 _ _ (show Rep X.K y2 H2 (.ref n) ov from po)
            simp only [Rep] at po'
            obtain ⟨c, hc, rfl⟩ := po'
            obtain ⟨vs, q1, q2⟩ := G3.objs n c _ hc hg3
            have hk : kv = .int j := rt_int (show RepT X.K y3 H3 (.int j) kv from pk)
            subst hk
            unfold setAt at hst
            cases hix : ixN ds.length j with
            | none => rw [hix] at hst; cases hst
            | some jj =>
              rw [hix] at hst
              simp only [Option.map_some, Option.some.injEq] at hst
              subst hst
              refine ⟨c, vs, j, jj, rfl, rfl, q1, by rw [← q2.length]; exact hix, ?_⟩
              have pd3 : Rep X.K y3 H3 d u := Rep.mono e3 _ _ (Rep.mono e2 _ _ pd)
              have cal : c ∈ y3.al := List.mem_of_getElem? hc
              have ev : Evo y3 H3 y3 (L2.upd H3 c (.lst (vs.set jj u))) := ⟨rfl, ⟨[], by simp, fun _ h => by simp at h⟩, fun a o h n _ => by rw [upd_ne fun e : a = c => n (by rw [e]; exact cal)]; exact h, fun a h => by
                by_cases ea : a = c
                · subst ea; rw [upd_same] at h; cases h
                · rw [upd_ne ea] at h; exact h, fun a w => .inl w⟩
              have G4 : Good X.K y3 (L2.upd H3 c (.lst (vs.set jj u))) (g3.set n (.lst (ds.set jj d))) := by
                refine ⟨fun a z => ?_, G3.aw, G3.disj, G3.nd, by rw [List.length_set]; exact G3.len, fun k a o h1 h2 => ?_, fun a xs z h => ?_⟩
                · by_cases ea : a = c
                  · subst ea; exact ⟨_, upd_same⟩
                  · rw [upd_ne ea]; exact G3.zok a z
                · rw [List.getElem?_set] at h2
                  by_cases hnk : n = k
                  · subst hnk
                    rw [hc] at h1; cases h1
                    rw [if_pos rfl, if_pos (List.getElem?_eq_some_iff.mp hg3).1] at h2
                    cases h2
                    exact ⟨_, upd_same, Reps.monoS ev _ _ (q2.set pd3 jj)⟩
                  · rw [if_neg hnk] at h2
                    have h3 := G3.objs k a o h1 h2
                    have ne : a ≠ c := fun e => by
                      subst e
                      exact hnk ((List.getElem?_inj (List.getElem?_eq_some_iff.mp hc).1 G3.nd).mp (hc.trans h1.symm))
                    cases o with
                    | lst os => obtain ⟨ws, k1, k2⟩ := h3; exact ⟨ws, by rw [upd_ne ne]; exact k1, Reps.monoS ev _ _ k2⟩
                · by_cases ea : a = c
                  · subst ea; rw [upd_same] at h; cases h
                  · rw [upd_ne ea] at h; exact G3.mt a xs z h
              have S4 : SR X.K y3 (L2.upd H3 c (.lst (vs.set jj u))) r σ := by
                refine ⟨S3.len, fun i s q => ?_, S3.dist⟩
                obtain ⟨o, a1, a2⟩ := S3.at_ i s q
                refine ⟨o, a1, ?_⟩
                cases s with
                | no => trivial
                | fz d => obtain ⟨v, b1, b2⟩ := a2; exact ⟨v, b1, Rep.monoS ev _ _ b2⟩
                | own es => obtain ⟨a, ws, b1, b2, b3, b4⟩ := a2; exact ⟨a, ws, b1, b2, by rw [upd_ne fun e : a = c => (G3.disj c cal).2 (by rw [← e]; exact b2)]; exact b3, Reps.monoS ev _ _ b4⟩
                | ownK ks es => obtain ⟨a, ws, b1, b2, b3, b4, b5⟩ := a2; exact ⟨a, ws, b1, b2, by rw [upd_ne fun e : a = c => (G3.disj c cal).2 (by rw [← e]; exact b2)]; exact b3, b4, Reps.monoS ev _ _ b5⟩
              exact p3 _ _ σ ev G4 S4
    | _ => exact p3.elim
  | _ => exact p3.elim
end
end Bk
end
section
set_option Elab.async false
set_option linter.all false
set_option maxRecDepth 100000
set_option maxHeartbeats 4000000
namespace Bk
open PySem PySem.Spec PyProof.Rows L2 RZ
section
variable {X : Cx} {W : WX} {gl : Nat → Option D} {cl : Nat → List D → List O → Res D} {T : MT} {pos : Pos}
/-! ### a, b = x, y -/
theorem set2_imp {is : List Nat} {Fs : EA} {En : Ends} {σ : L2.St} {H : Hp} (q : tS X.K X.mg W (fun r g => (Fs r g).bind fun ds g => if is.length = ds.length then .ok (.nx ((is.zip ds).foldl (fun r p => r.set p.1 (.fz p.2)) r)) g else .bad) En σ H) :
    (tA X.K X.mg W false Fs) σ H fun vs H1 => is.length = vs.length ∧ En.nx ((is.zip vs).foldl (fun s p => s.set p.1 (some p.2)) σ) H1 := by
  obtain ⟨y, r, g, S, G, p⟩ := q
  refine bindP (F := Fs) (IsPost.s (En := En)) S G p fun y1 ds g1 vs H1 S1 G1 pd e1 p1 => ?_
  have pd := RepsX.f pd
  split at p1
  · rename_i hl
    refine ⟨hl.trans pd.length, p1 y1 H1 _ (Evo.refl _ _) G1 ?_⟩
    clear p1 hl
    have go : ∀ (is : List Nat) {ds : List D} {vs : List V} {r : List Slot} {σ : L2.St}, SR X.K y1 H1 r σ → Reps X.K y1 H1 ds vs → SR X.K y1 H1 ((is.zip ds).foldl (fun r p => r.set p.1 (.fz p.2)) r) ((is.zip vs).foldl (fun s p => s.set p.1 (some p.2)) σ) := by
      intro is
      induction is with
      | nil => intro ds vs r σ S _; exact S
      | cons i is ih =>
        intro ds vs r σ S h
        cases ds with
        | nil => simp only [Reps] at h; subst h; exact S
        | cons d ds =>
          simp only [Reps] at h
          obtain ⟨v, ws, rfl, h1, h2⟩ := h
          exact ih (S.set h1 i) h2
    exact go is S1 pd
  · exact p1.elim
theorem len2 {α : Type} {l : List α} (h : l.length = 2) : ∃ a b, l = [a, b] := by
  match l, h with
  | [a, b], _ => exact ⟨a, b, rfl⟩
theorem len3 {α : Type} {l : List α} (h : l.length = 3) : ∃ a b c, l = [a, b, c] := by
  match l, h with
  | [a, b, c], _ => exact ⟨a, b, c, rfl⟩
theorem fm_congr {α β : Type} {f g : α → Option β} : ∀ {l : List α}, (∀ x ∈ l, f x = g x) → l.filterMap f = l.filterMap g
  | [], _ => rfl
  | a :: l, h => by
    rw [List.filterMap_cons, List.filterMap_cons, h a List.mem_cons_self, fm_congr fun x hx => h x (List.mem_cons_of_mem _ hx)]
theorem fm_all {α β : Type} {f : α → Option β} : ∀ {l : List α}, (l.filterMap f).length = l.length → ∀ x ∈ l, (f x).isSome = true
  | [], _, x, hx => by cases hx
  | a :: l, hlen, x, hx => by
    rw [List.filterMap_cons] at hlen
    cases hf : f a with
    | none =>
      rw [hf] at hlen
      have := List.length_filterMap_le f l
      simp at hlen
      omega
    | some b =>
      rw [hf] at hlen
      rcases List.mem_cons.mp hx with rfl | hx
      · rw [hf]; rfl
      · exact fm_all (by simpa using hlen) x hx
theorem lc_cons {sc : Scope} {N : List Str} {is : List Nat} {t : Expr} {ts : List Expr} (h : lcN sc N is (t :: ts) = true) : ∃ i is' x px, is = i :: is' ∧ t = .Name x px ∧ N[i]? = some x ∧ sc.names.lookup x = some .local ∧ lcN sc N is' ts = true := by
  cases is with
  | nil => exact absurd (show false = true from h) Bool.false_ne_true
  | cons i is =>
    cases t <;> first | exact absurd (show false = true from h) Bool.false_ne_true | skip
    simp only [lcN, Bool.and_eq_true, decide_eq_true_eq] at h
    exact ⟨i, is, _, _, rfl, rfl, h.1.1, h.1.2, h.2⟩
theorem lc_nil {sc : Scope} {N : List Str} {is : List Nat} (h : lcN sc N is [] = true) : is = [] := by
  cases is with
  | nil => rfl
  | cons i is => exact absurd (show false = true from h) Bool.false_ne_true
theorem tA_mono {K : PySem.W.Frag} {mg : Str → Option Value} {t : Bool} {Fs : EA} {σ : L2.St} {H : Hp} {Q Q' : List V → Hp → Prop} (h : (tA K mg W t Fs) σ H Q) (k : ∀ vs H, Q vs H → Q' vs H) : (tA K mg W t Fs) σ H Q' := by
  obtain ⟨y, r, g, S, G, p⟩ := h
  refine ⟨y, r, g, S, G, ?_⟩
  cases e : Fs r g with
  | bad => rw [e] at p; exact p
  | exc c g' => rw [e] at p; exact p
  | ok ds g' => rw [e] at p; exact fun y' H' us e' G' ru => k _ _ (p y' H' us e' G' ru)
theorem ps_parB (h : HS gl cl T X W) {is : List Nat} {es : List E} {ts vs : List Expr} {k k2 : Nat} {p p2 : Pos} (hnd : is.Nodup) (hl : lcN X.env.scope T.N is ts = true) (hw : swOn X.env.scope ts vs = true) (he : mEs T es X.env.scope vs = true) :
    PS X (.Assign [.Tuple ts k p] (.Tuple vs k2 p2) pos) (tS X.K X.mg W fun r g => ex gl cl r (.par is es) g) := by
  have ha := (sound_es es X W h.toHX).1 vs he .v (by decide)
  have hsw := sw_on h.kind (k := k) (k2 := k2) (p := p) (p2 := p2) hw
  have hlen : (ts.length = 2 ∨ ts.length = 3) ∧ vs.length = ts.length ∧ (swNames X.env.scope ts).length = ts.length := by
    unfold swOn swOff at hw
    simp only [Bool.and_eq_true, Bool.not_eq_true', Bool.or_eq_false_iff] at hw
    obtain ⟨⟨⟨⟨⟨a, b⟩, c⟩, d, e⟩, f⟩, i⟩ := hw
    refine ⟨?_, by simpa using b, by simpa using d⟩
    have a' : (ts.length == 2 || ts.length == 3) = true := by
      cases q : (ts.length == 2 || ts.length == 3) with
      | true => rfl
      | false => rw [q] at a; cases a
    simpa only [Bool.or_eq_true, beq_iff_eq] using a'
  have fl : swNames X.env.scope ts = ts.filterMap (fun | .Name id _ => some id | _ => none) := by
    have hall := fm_all hlen.2.2
    unfold swNames
    refine fm_congr fun x hx => ?_
    have := hall x hx
    cases x <;> first | rfl | skip
    dsimp only at this ⊢
    split at this
    · rename_i hc; rw [if_pos hc]
    · cases this
  rw [fl] at hsw
  have swF : swapsWithSole [.Tuple ts k p] (.Tuple vs k2 p2) pos.line X.env = pure false := rfl
  have eN : X.N = T.N := h.N
  rcases hlen with ⟨h2 | h2, hv, _⟩
  · obtain ⟨t1, t2, rfl⟩ := len2 h2
    obtain ⟨a, b, rfl⟩ := len2 (hv.trans h2)
    obtain ⟨i, is1, x, px, rfl, rfl, n1, l1, hl⟩ := lc_cons hl
    obtain ⟨j, is2, y, py, rfl, rfl, n2, l2, hl⟩ := lc_cons hl
    obtain rfl := lc_nil hl
    have hij : i ≠ j := by
      intro e; subst e; simp at hnd
    refine psI (ps_par h.calm h.nd (by rw [eN]; exact n1) (by rw [eN]; exact n2) hij l1 l2 ha hsw swF) fun En σ H q => ?_
    refine tA_mono (set2_imp (is := [i, j]) (En := En) (Fs := fun r g => evs gl cl false r es g) (by simpa only [ex, parR_eq] using q)) fun us H1 ⟨k1, k2⟩ => ?_
    match us, k1, k2 with
    | [v, w], _, k2 => exact ⟨v, w, rfl, k2⟩
  · obtain ⟨t1, t2, t3, rfl⟩ := len3 h2
    obtain ⟨a, b, c, rfl⟩ := len3 (hv.trans h2)
    obtain ⟨i, is1, x, px, rfl, rfl, n1, l1, hl⟩ := lc_cons hl
    obtain ⟨j, is2, y, py, rfl, rfl, n2, l2, hl⟩ := lc_cons hl
    obtain ⟨l, is3, z, pz, rfl, rfl, n3, l3, hl⟩ := lc_cons hl
    obtain rfl := lc_nil hl
    have d3 : i ≠ j ∧ i ≠ l ∧ j ≠ l := by
      simp at hnd
      exact ⟨hnd.1.1, hnd.1.2, hnd.2⟩
    refine psI (ps_par3 h.calm h.nd (by rw [eN]; exact n1) (by rw [eN]; exact n2) (by rw [eN]; exact n3) d3.1 d3.2.1 d3.2.2 l1 l2 l3 ha hsw swF) fun En σ H q => ?_
    refine tA_mono (set2_imp (is := [i, j, l]) (En := En) (Fs := fun r g => evs gl cl false r es g) (by simpa only [ex, parR_eq] using q)) fun us H1 ⟨k1, k2⟩ => ?_
    match us, k1, k2 with
    | [v, w, u], _, k2 => exact ⟨v, w, u, rfl, k2⟩
/-! ### x op= e -/
theorem ps_augB (h : HS gl cl T X W) {op : Bop} {e : E} {v : Expr} {z : Str} {p : Pos} {i : Nat} (hi : T.N[i]? = some z) (hl : locB X.env.scope z = true) (ho : augOk op = true) (he : mE T e X.env.scope v = true) :
    PS X (.AugAssign (.Name z p) op.op v pos) (tS X.K X.mg W fun r g => ex gl cl r (.aug i op e) g) := by
  obtain ⟨l1, l2⟩ := loc_fn h hl
  have hx := (sound_e e X W h.toHX v he).1 .t fun q => nomatch q
  have hz : X.N[i]? = some z := by rw [h.N]; exact hi
  have key : ∀ (ti : TIp), PIp X op.op ti → (∀ (a b : Int) (o : D) (H : Hp) (Q : VK), binop op (.int a) (.int b) = some o → (∀ c, o = .int c → Q (.int c) H) → ti (.int a) (.int b) H Q) → PS X (.AugAssign (.Name z p) op.op v pos) (tS X.K X.mg W fun r g => ex gl cl r (.aug i op e) g) := by
    intro ti hti hop
    refine psI (ps_aug h.nd hz l1 hx hti l2) fun En σ H ⟨y, r, g, S, G, p⟩ => ?_
    simp only [ex] at p
    cases e1 : r[i]? with
    | none => rw [e1] at p; exact p.elim
    | some s =>
      rw [e1] at p
      cases s with
      | fz d =>
        cases d with
        | int a =>
          obtain ⟨o, q1, v1, q2, q3⟩ := S.at_ i _ e1
          have q3 : v1 = .int a := by simpa only [Rep] using q3
          subst q3
          refine ⟨.int a, by rw [q1, q2], ?_⟩
          refine bindP (F := fun r g => ev gl cl true r e g) (IsPost.s (En := En)) S G p fun y1 d g1 u H1 S1 G1 pd e2 p1 => ?_
          cases d with
          | int b =>
            have hu : u = .int b := rt_int (show RepT X.K y1 H1 (.int b) u from pd)
            subst hu
            dsimp only at p1
            cases hb : binop op (.int a) (.int b) with
            | none => rw [hb] at p1; exact p1.elim
            | some o =>
              rw [hb] at p1
              refine hop a b o H1 _ hb fun c ec => ?_
              subst ec
              exact p1 y1 H1 _ (Evo.refl _ _) G1 (S1.set (by simp only [Rep]) i)
          | _ => exact p1.elim
        | _ => exact p.elim
      | _ => exact p.elim
  cases op <;> first | exact absurd (show false = true from ho) Bool.false_ne_true | skip
  · exact key _ iop_add fun a b o H Q hb k => ⟨a, b, rfl, rfl, k _ (by simpa [binop] using hb.symm)⟩
  · exact key _ iop_sub fun a b o H Q hb k => ⟨a, b, rfl, rfl, k _ (by simpa [binop] using hb.symm)⟩
  · refine key _ iop_mul fun a b o H Q hb k => ?_
    simp only [binop] at hb
    split at hb
    · rename_i hc
      exact ⟨a, b, rfl, rfl, hc, k _ (by simpa using hb.symm)⟩
    · cases hb
  · refine key _ iop_mod fun a b o H Q hb k => ?_
    simp only [binop] at hb
    split at hb
    · rename_i hc
      exact ⟨a, b, rfl, rfl, hc, k _ (by simpa using hb.symm)⟩
    · cases hb
/-! ### x.append(e) -/
theorem ps_appB (h : HS gl cl T X W) {e : E} {v : Expr} {z : Str} {pz ap cp : Pos} {i : Nat} (hr : rdB T X.env.scope i z = true) (hline : (ap.endLine == cp.line) = true) (hs : notStar v = true) (he : mE T e X.env.scope v = true) :
    PS X (.Expr (.Call (.Attribute (.Name z pz) (Str.ofString "append") ap) [v] [] cp) pos) (tS X.K X.mg W fun r g => ex gl cl r (.app i e) g) := by
  unfold rdB at hr
  simp only [Bool.and_eq_true, decide_eq_true_eq] at hr
  obtain ⟨n1, n2, _⟩ := nm_of hr.2
  have hx := (sound_e e X W h.toHX v he).1 .v (op_ne rfl)
  have hpv : PE X (.Name z pz) (tVar i) := pe_var (by rw [h.N]; exact hr.1.1) (vis_of hr.1.2) n1 n2
  have hpa : PA X [v] (tCons (tX X.K X.mg W .v fun r g => ev gl cl false r e g) tNil) := pa_cons hx pa_nil (star_cons hs)
  have hfew : ((backTo cp (starEach [v] X.env)).all (fun x => !x.1) && (backToKw cp (keywordEach [] X.env)).all (fun x => x.1.isSome)
      && decide (([v] : List Expr).length + ([] : List Keyword).length + (if ([] : List Keyword).isEmpty then 0 else 1) < 30)) = true := by
    rw [star_cons hs]; rfl
  have mt : MtR X "list.append" rAppend := fun pins s σ H x xs w us Q I r1 r2 q => mt_append pins s σ H x xs w us Q I r1 r2 q
  refine psI (ps_expr (pe_bm F.plainAttrs_list F.slot_list_append F.type_list_append mt hpv hpa rfl hfew hline (star_cons hs) rfl) rfl) fun En σ H ⟨y, r, g, S, G, p⟩ => ?_
  simp only [ex] at p
  cases hi : r[i]? with
  | none => rw [hi] at p; exact p.elim
  | some s0 =>
    rw [hi] at p
    cases s0 with
    | own ds =>
      obtain ⟨o, q1, b, vs, q2, w, hb, rr⟩ := S.at_ i _ hi
      refine ⟨.ref b, by rw [q1, q2], .inl ⟨rfl, vs, .inl (.inl hb)⟩, ?_⟩
      refine bindP (F := fun r g => ev gl cl false r e g) (IsPost.s (En := En)) S G p fun y1 d g1 u H1 S1 G1 pd e1 p1 => ?_
      split at p1
      · rename_i hlen
        have hb1 : H1 b = some (.lst vs) := e1.keep _ _ hb fun z => (G.disj b z).2 w
        have w1 : y1.W b := by rw [e1.eW]; exact w
        have rr1 := Reps.mono e1 _ _ rr
        obtain ⟨G2, ev⟩ := G1.upd (o := .lst (vs ++ [u])) w1
        refine ⟨b, vs, u, rfl, rfl, hb1, by rw [← rr.length]; exact lim_lt (Nat.le_of_lt hlen), ?_⟩
        exact p1 y1 _ σ ev G2 (S1.upd G1 hi (by rw [q1, q2]) w1 (rr1.append (.cons pd .nil)))
      · exact p1.elim
    | _ => exact p.elim
end
/-! ### a, b = [], x : some of the names get a fresh list of their own -/
/-- as Ext, but the frame may own more -/
structure Exo (y : Gh) (H : Hp) (y' : Gh) (H' : Hp) : Prop where
  eA : y'.A = y.A
  pre : ∃ t, y'.al = y.al ++ t ∧ ∀ a, a ∈ t → H a = none
  keep : ∀ a o, H a = some o → a ∉ y.al → H' a = some o
  dom : ∀ a, H' a = none → H a = none
  wf : ∀ a, y'.W a → y.W a ∨ H a = none
  wk : ∀ a, y.W a → y'.W a
theorem Exo.evo {y y' : Gh} {H H' : Hp} (e : Exo y H y' H') : Evo y H y' H' := ⟨e.eA, e.pre, fun a o h n _ => e.keep a o h n, e.dom, e.wf⟩
theorem Exo.of {y y' : Gh} {H H' : Hp} (e : Ext y H y' H') : Exo y H y' H' := ⟨e.eA, e.pre, e.keep, e.dom, fun a w => .inl (by rw [← e.eW]; exact w), fun a w => by rw [e.eW]; exact w⟩
theorem Exo.off {y y' : Gh} {H H' : Hp} {b : Addr} (e : Ext y H y' H') (hb : H b = none) : Exo y H (y'.off b) H' :=
  ⟨e.eA, e.pre, e.keep, e.dom, fun a w => by
    rcases w with w | w
    · exact .inl (by rw [← e.eW]; exact w)
    · subst w; exact .inr hb, fun a w => .inl (by rw [e.eW]; exact w)⟩
theorem Exo.trans {y y1 y2 : Gh} {H H1 H2 : Hp} (a : Exo y H y1 H1) (b : Exo y1 H1 y2 H2) : Exo y H y2 H2 := by
  obtain ⟨t1, e1, n1⟩ := a.pre
  obtain ⟨t2, e2, n2⟩ := b.pre
  refine ⟨b.eA.trans a.eA, ⟨t1 ++ t2, by rw [e2, e1, List.append_assoc], fun c hc => ?_⟩, fun c o h hn => ?_, fun c h => a.dom c (b.dom c h), fun c w => ?_, fun c w => b.wk c (a.wk c w)⟩
  · rcases List.mem_append.mp hc with h | h
    · exact n1 c h
    · exact a.dom c (n2 c h)
  · refine b.keep c o (a.keep c o h hn) fun m => ?_
    rw [e1] at m
    rcases List.mem_append.mp m with q | q
    · exact hn q
    · rw [n1 c q] at h; cases h
  · rcases b.wf c w with q | q
    · exact a.wf c q
    · exact .inr (a.dom c q)
section
variable {K : PySem.W.Frag} {mg : Str → Option Value} {y y' : Gh} {H H' : Hp} {r : List Slot} {σ : L2.St} {g : List O}
theorem SlotRep.exo (e : Exo y H y' H') (hw : ∀ a, y.W a → a ∉ y.al) {s : Slot} {o : Option V} (h : SlotRep K y H s o) : SlotRep K y' H' s o := by
  cases s with
  | no => trivial
  | fz d => obtain ⟨v, e1, h⟩ := h; exact ⟨v, e1, Rep.monoS e.evo d v h⟩
  | own ds => obtain ⟨b, vs, e1, w, hb, h⟩ := h; exact ⟨b, vs, e1, e.wk b w, e.keep _ _ hb (hw b w), Reps.monoS e.evo ds vs h⟩
  | ownK ks ds => obtain ⟨b, vs, e1, w, hb, l, h⟩ := h; exact ⟨b, vs, e1, e.wk b w, e.keep _ _ hb (hw b w), l, Reps.monoS e.evo ds vs h⟩
theorem SR.exo (e : Exo y H y' H') (G : Good K y H g) (h : SR K y H r σ) : SR K y' H' r σ :=
  ⟨h.len, fun i s q => by
    obtain ⟨o, e1, h1⟩ := h.at_ i s q
    exact ⟨o, e1, h1.exo e fun a w m => (G.disj a m).2 w⟩, h.dist⟩
/-- new slots and what stands for them; W0: what was owned before -/
def NewReps (K : PySem.W.Frag) (y : Gh) (H : Hp) : (Addr → Prop) → List Slot → List V → Prop
  | _, [], vs => vs = []
  | W0, s :: ss, vs => ∃ v ws, vs = v :: ws ∧ SlotRep K y H s (some v) ∧ (s.owns = true → ∀ b, v = .ref b → ¬ W0 b) ∧ NewReps K y H (fun a => W0 a ∨ (s.owns = true ∧ v = .ref a)) ss ws
def PostM (K : PySem.W.Frag) (mg : Str → Option Value) (W : WX) (y : Gh) (σ : L2.St) (H : Hp) (Q : List V → Hp → Prop) : Res (List Slot) → Prop
  | .ok ss g' => ∀ y' H' vs, Exo y H y' H' → Good K y' H' g' → NewReps K y' H' y.W ss vs → Q vs H'
  | .exc x g' => ∀ y' H' c od, Exo y H y' H' → Good K y' H' g' → XRep K mg y' H' x c od → W c od σ H'
  | .bad => False
theorem SR.setN {s : Slot} {v : V} (S : SR K y H r σ) (i : Nat) (h : SlotRep K y H s (some v)) (hn : s.owns = true → ∀ (k : Nat) (t : Slot), r[k]? = some t → t.owns = true → ∀ b : Addr, v = V.ref b → σ[k]? ≠ some (some (.ref b))) : SR K y H (r.set i s) (σ.set i (some v)) := by
  refine ⟨by rw [List.length_set, List.length_set, S.len], fun j t q => ?_, fun a c t1 t2 p hac ha hc ho1 ho2 h1 h2 => ?_⟩
  · rw [List.getElem?_set] at q ⊢
    by_cases hij : i = j
    · rw [if_pos hij] at q ⊢
      subst hij
      by_cases hl : i < r.length
      · rw [if_pos hl] at q
        rw [if_pos (by rw [← S.len]; exact hl)]
        cases q
        exact ⟨_, rfl, h⟩
      · rw [if_neg hl] at q; cases q
    · rw [if_neg hij] at q ⊢
      exact S.at_ j t q
  · rw [List.getElem?_set] at ha hc h1 h2
    by_cases ia : i = a
    · subst ia
      rw [if_neg hac] at hc h2
      rw [if_pos rfl] at h1 ha
      split at h1
      · split at ha
        · cases h1; cases ha
          exact hn ho1 c t2 hc ho2 p rfl h2
        · cases ha
      · cases h1
    · rw [if_neg ia] at ha h1
      by_cases ic : i = c
      · subst ic
        rw [if_pos rfl] at h2 hc
        split at h2
        · split at hc
          · cases h2; cases hc
            exact hn ho2 a t1 ha ho1 p rfl h1
          · cases hc
        · cases h2
      · rw [if_neg ic] at hc h2
        exact S.dist a c t1 t2 p hac ha hc ho1 ho2 h1 h2
theorem SR.many : ∀ (is : List Nat) {ss : List Slot} {vs : List V} {r : List Slot} {σ : L2.St} {W0 : Addr → Prop}, SR K y H r σ → (∀ (k : Nat) (t : Slot), r[k]? = some t → t.owns = true → ∀ b : Addr, σ[k]? = some (some (V.ref b)) → W0 b) → NewReps K y H W0 ss vs →
    SR K y H ((is.zip ss).foldl (fun r p => r.set p.1 p.2) r) ((is.zip vs).foldl (fun s p => s.set p.1 (some p.2)) σ)
  | [], ss, vs, r, σ, W0, S, _, _ => by simpa using S
  | i :: is, [], vs, r, σ, W0, S, _, h => by
    simp only [NewReps] at h
    subst h
    simpa using S
  | i :: is, s :: ss, vs, r, σ, W0, S, hw, h => by
    simp only [NewReps] at h
    obtain ⟨v, ws, rfl, h1, h2, h3⟩ := h
    refine SR.many is (S.setN i h1 fun ho k t hk hto b hb hσ => h2 ho b hb (hw k t hk hto b hσ)) (fun k t hk hto b hσ => ?_) h3
    rw [List.getElem?_set] at hk hσ
    by_cases hik : i = k
    · subst hik
      rw [if_pos rfl] at hk hσ
      split at hk
      · split at hσ
        · cases hk; cases hσ; exact .inr ⟨hto, rfl⟩
        · cases hσ
      · cases hk
    · rw [if_neg hik] at hk hσ
      exact .inl (hw k t hk hto b hσ)
end
section
variable {K : PySem.W.Frag} {mg : Str → Option Value} {W : WX} {y y' : Gh} {H H' : Hp} {r : List Slot} {σ : L2.St} {g : List O}
theorem NewReps.anti : ∀ {ss : List Slot} {vs : List V} {W0 W1 : Addr → Prop}, (∀ a, W1 a → W0 a) → NewReps K y H W0 ss vs → NewReps K y H W1 ss vs
  | [], _, _, _, _, h => h
  | s :: ss, _, _, _, k, h => by
    simp only [NewReps] at h ⊢
    obtain ⟨v, ws, rfl, h1, h2, h3⟩ := h
    exact ⟨v, ws, rfl, h1, fun ho b hb hw => h2 ho b hb (k b hw), NewReps.anti (fun a q => q.imp (k a) id) h3⟩
theorem NewReps.length : ∀ {ss : List Slot} {vs : List V} {W0 : Addr → Prop}, NewReps K y H W0 ss vs → ss.length = vs.length
  | [], _, _, h => by simp only [NewReps] at h; subst h; rfl
  | s :: ss, _, _, h => by
    simp only [NewReps] at h
    obtain ⟨v, ws, rfl, _, _, h3⟩ := h
    rw [List.length_cons, List.length_cons, NewReps.length h3]
theorem IsPost.m {Q : List V → Hp → Prop} : IsPost K mg W σ (fun y H R => PostM K mg W y σ H Q R) := by
  refine ⟨fun {y H y1 H1 R} e h => ?_, fun h y' H' c od e => h y' H' c od (Exo.of e), fun h => h⟩
  cases R with
  | ok ss g' => exact fun y' H' vs e' G' nr => h y' H' vs ((Exo.of e).trans e') G' (nr.anti fun a w => by rw [e.eW]; exact w)
  | exc x g' => exact fun y' H' c od e' => h y' H' c od ((Exo.of e).trans e')
  | bad => exact h
def tM (K : PySem.W.Frag) (mg : Str → Option Value) (W : WX) (F : List Slot → List O → Res (List Slot)) : TA := fun σ H Q => ∃ y r g, SR K y H r σ ∧ Good K y H g ∧ PostM K mg W y σ H Q (F r g)
theorem tM_mono {F : List Slot → List O → Res (List Slot)} {Q Q' : List V → Hp → Prop} (h : (tM K mg W F) σ H Q) (k : ∀ vs H, Q vs H → Q' vs H) : (tM K mg W F) σ H Q' := by
  obtain ⟨y, r, g, S, G, p⟩ := h
  refine ⟨y, r, g, S, G, ?_⟩
  cases e : F r g with
  | bad => rw [e] at p; exact p
  | exc c g' => rw [e] at p; exact p
  | ok ds g' => rw [e] at p; exact fun y' H' us e' G' ru => k _ _ (p y' H' us e' G' ru)
end
section
variable {X : Cx} {W : WX} {gl : Nat → Option D} {cl : Nat → List D → List O → Res D} {T : MT} {pos : Pos}
theorem setM_imp {is : List Nat} {Fm : List Slot → List O → Res (List Slot)} {En : Ends} {σ : L2.St} {H : Hp} (q : tS X.K X.mg W (fun r g => (Fm r g).bind fun ss g => if is.length = ss.length then .ok (.nx ((is.zip ss).foldl (fun r p => r.set p.1 p.2) r)) g else .bad) En σ H) :
    (tM X.K X.mg W Fm) σ H fun vs H1 => is.length = vs.length ∧ En.nx ((is.zip vs).foldl (fun s p => s.set p.1 (some p.2)) σ) H1 := by
  obtain ⟨y, r, g, S, G, p⟩ := q
  refine ⟨y, r, g, S, G, ?_⟩
  dsimp only at p
  cases e : Fm r g with
  | bad => rw [e] at p; exact p
  | exc x g' => rw [e] at p; exact fun y' H' c od e' G' q => p y' H' c od σ e'.evo G' q
  | ok ss g' =>
    rw [e, Res.bind_ok] at p
    split at p
    · rename_i hl
      intro y' H' vs e' G' nr
      refine ⟨hl.trans nr.length, p y' H' _ e'.evo G' (SR.many is (S.exo e' G) (fun k t hk ho b hσ => ?_) nr)⟩
      obtain ⟨o, e1, h1⟩ := S.at_ k t hk
      rw [hσ] at e1
      cases e1
      cases t with
      | no => cases ho
      | fz d => cases ho
      | own ds => obtain ⟨c, ws, q1, q2, _⟩ := h1; cases q1; exact q2
      | ownK ks ds => obtain ⟨c, ws, q1, q2, _⟩ := h1; cases q1; exact q2
    · exact p.elim
theorem pa_mix (h : HX gl cl T X W) : ∀ {es : List E} {fl : List Bool} {vs : List Expr}, mEs T es X.env.scope vs = true → frB fl es = true → PA X vs (tM X.K X.mg W fun r g => evP gl cl r fl es g)
  | [], fl, vs, hv, hf => by
    cases fl <;> first | exact absurd (show false = true from hf) Bool.false_ne_true | skip
    cases vs <;> first | exact absurd (show false = true from hv) Bool.false_ne_true | skip
    exact paI pa_nil fun σ H Q ⟨y, r, g, S, G, p⟩ => p y H [] (Exo.of (Ext.refl _ _)) G rfl
  | e :: es, fl, vs, hv, hf => by
    cases fl <;> first | exact absurd (show false = true from hf) Bool.false_ne_true | skip
    cases vs <;> first | exact absurd (show false = true from hv) Bool.false_ne_true | skip
    rename_i b fl x xs
    simp only [mEs, Bool.and_eq_true] at hv
    simp only [frB, Bool.and_eq_true] at hf
    have ih := pa_mix h hv.2 hf.2
    have he := sound_e e X W h x hv.1.2
    cases b with
    | false =>
      refine paI (pa_cons (he.1 .v fun q => nomatch q) ih (star_cons hv.1.1)) fun σ H Q ⟨y, r, g, S, G, p⟩ => ?_
      simp only [evP] at p
      refine bindP (F := fun r g => ev gl cl false r e g) (IsPost.m (Q := Q)) S G p fun y1 d g1 v H1 S1 G1 pd e1 p1 => ?_
      simp only [slotOf, lift_some, Res.bind_ok] at p1
      refine ⟨y1, r, g1, S1, G1, ?_⟩
      dsimp only
      cases hE : evP gl cl r fl es g1 with
      | bad => rw [hE] at p1; exact p1
      | exc c g2 => rw [hE] at p1; exact p1
      | ok ss g2 =>
        rw [hE] at p1
        exact fun y2 H2 ws e2 G2 nr => p1 y2 H2 (v :: ws) e2 G2 ⟨v, ws, rfl, ⟨v, rfl, Rep.monoS e2.evo d v pd⟩, (fun ho => nomatch ho), nr.anti (by
          intro a q
          rcases q with q | ⟨z, _⟩
          · exact q
          · cases z)⟩
    | true =>
      refine paI (pa_cons (he.1 .f fun _ => by simpa using hf.1) ih (star_cons hv.1.1)) fun σ H Q ⟨y, r, g, S, G, p⟩ => ?_
      simp only [evP] at p
      refine ⟨y, r, g, S, G, ?_⟩
      unfold PostX
      dsimp only [Mode.b]
      cases hF : ev gl cl false r e g with
      | bad => rw [hF] at p; exact p
      | exc c g2 => rw [hF] at p; exact fun y' H' c od e' G' q => p y' H' c od (Exo.of e') G' q
      | ok d g1 =>
        rw [hF, Res.bind_ok] at p
        have key : ∀ {y1 : Gh} {H1 : Hp} {b : Addr} {s : Slot}, Ext y H y1 H1 → Good X.K (y1.off b) H1 g1 → H b = none → b ∉ y1.al → (∀ {y2 : Gh} {H2 : Hp}, Exo (y1.off b) H1 y2 H2 → SlotRep X.K y2 H2 s (some (.ref b))) →
            PostM X.K X.mg W y σ H Q ((evP gl cl r fl es g1).bind fun ss g => .ok (s :: ss) g) → (tM X.K X.mg W fun r g => evP gl cl r fl es g) σ H1 fun ws H2 => Q (.ref b :: ws) H2 := by
          intro y1 H1 b s e1 G1 hb nb hs p1
          refine ⟨y1.off b, r, g1, S.exo (Exo.off e1 hb) G, G1, ?_⟩
          dsimp only
          cases hE : evP gl cl r fl es g1 with
          | bad => rw [hE] at p1; exact p1
          | exc c g2 => rw [hE] at p1; exact fun y' H' c od e' G' q => p1 y' H' c od ((Exo.off e1 hb).trans e') G' q
          | ok ss g2 =>
            rw [hE] at p1
            refine fun y2 H2 ws e2 G2 nr => p1 y2 H2 (.ref b :: ws) ((Exo.off e1 hb).trans e2) G2 ⟨.ref b, ws, rfl, hs e2, fun _ c hc hw => ?_, nr.anti fun a q => ?_⟩
            · cases hc
              obtain ⟨o, ho⟩ := G.zok b (.inr (.inl hw))
              rw [hb] at ho; cases ho
            · rcases q with q | ⟨_, q⟩
              · exact .inl (by rw [e1.eW]; exact q)
              · cases q; exact .inr rfl
        cases d with
        | lst ds =>
          simp only [slotOf, lift_some, Res.bind_ok] at p
          exact fun y1 H1 b vs e1 G1 hb nb hv rv => key (s := .own ds) e1 G1 hb nb (fun e2 => ⟨b, vs, rfl, e2.wk b (.inr rfl), e2.keep b _ hv nb, Reps.monoS e2.evo ds vs rv⟩) p
        | dct ks ds =>
          simp only [slotOf, lift_some, Res.bind_ok] at p
          exact fun y1 H1 b vs e1 G1 hb nb hv hl rv => key (s := .ownK ks ds) e1 G1 hb nb (fun e2 => ⟨b, vs, rfl, e2.wk b (.inr rfl), e2.keep b _ hv nb, hl, Reps.monoS e2.evo ds vs rv⟩) p
        | _ => exact p.elim
theorem ps_parO (h : HS gl cl T X W) {is : List Nat} {fl : List Bool} {es : List E} {ts vs : List Expr} {k k2 : Nat} {p p2 : Pos} (hnd : is.Nodup) (hl : lcN X.env.scope T.N is ts = true) (hw : swOn X.env.scope ts vs = true) (hfl : frB fl es = true) (he : mEs T es X.env.scope vs = true) :
    PS X (.Assign [.Tuple ts k p] (.Tuple vs k2 p2) pos) (tS X.K X.mg W fun r g => ex gl cl r (.parO is fl es) g) := by
  have ha := pa_mix h.toHX he hfl
  have hsw := sw_on h.kind (k := k) (k2 := k2) (p := p) (p2 := p2) hw
  have hlen : (ts.length = 2 ∨ ts.length = 3) ∧ vs.length = ts.length ∧ (swNames X.env.scope ts).length = ts.length := by
    unfold swOn swOff at hw
    simp only [Bool.and_eq_true, Bool.not_eq_true', Bool.or_eq_false_iff] at hw
    obtain ⟨⟨⟨⟨⟨a, b⟩, c⟩, d, e⟩, f⟩, i⟩ := hw
    refine ⟨?_, by simpa using b, by simpa using d⟩
    have a' : (ts.length == 2 || ts.length == 3) = true := by
      cases q : (ts.length == 2 || ts.length == 3) with
      | true => rfl
      | false => rw [q] at a; cases a
    simpa only [Bool.or_eq_true, beq_iff_eq] using a'
  have fl2 : swNames X.env.scope ts = ts.filterMap (fun | .Name id _ => some id | _ => none) := by
    have hall := fm_all hlen.2.2
    unfold swNames
    refine fm_congr fun x hx => ?_
    have := hall x hx
    cases x <;> first | rfl | skip
    dsimp only at this ⊢
    split at this
    · rename_i hc; rw [if_pos hc]
    · cases this
  rw [fl2] at hsw
  have swF : swapsWithSole [.Tuple ts k p] (.Tuple vs k2 p2) pos.line X.env = pure false := rfl
  have eN : X.N = T.N := h.N
  rcases hlen with ⟨h2 | h2, hv, _⟩
  · obtain ⟨t1, t2, rfl⟩ := len2 h2
    obtain ⟨a, b, rfl⟩ := len2 (hv.trans h2)
    obtain ⟨i, is1, x, px, rfl, rfl, n1, l1, hl⟩ := lc_cons hl
    obtain ⟨j, is2, y, py, rfl, rfl, n2, l2, hl⟩ := lc_cons hl
    obtain rfl := lc_nil hl
    have hij : i ≠ j := by
      intro e; subst e; simp at hnd
    refine psI (ps_par h.calm h.nd (by rw [eN]; exact n1) (by rw [eN]; exact n2) hij l1 l2 ha hsw swF) fun En σ H q => ?_
    refine tM_mono (setM_imp (is := [i, j]) (En := En) (Fm := fun r g => evP gl cl r fl es g) (by simpa only [ex, parS_eq] using q)) fun us H1 ⟨k1, k2⟩ => ?_
    match us, k1, k2 with
    | [v, w], _, k2 => exact ⟨v, w, rfl, k2⟩
  · obtain ⟨t1, t2, t3, rfl⟩ := len3 h2
    obtain ⟨a, b, c, rfl⟩ := len3 (hv.trans h2)
    obtain ⟨i, is1, x, px, rfl, rfl, n1, l1, hl⟩ := lc_cons hl
    obtain ⟨j, is2, y, py, rfl, rfl, n2, l2, hl⟩ := lc_cons hl
    obtain ⟨l, is3, z, pz, rfl, rfl, n3, l3, hl⟩ := lc_cons hl
    obtain rfl := lc_nil hl
    have d3 : i ≠ j ∧ i ≠ l ∧ j ≠ l := by
      simp at hnd
      exact ⟨hnd.1.1, hnd.1.2, hnd.2⟩
    refine psI (ps_par3 h.calm h.nd (by rw [eN]; exact n1) (by rw [eN]; exact n2) (by rw [eN]; exact n3) d3.1 d3.2.1 d3.2.2 l1 l2 l3 ha hsw swF) fun En σ H q => ?_
    refine tM_mono (setM_imp (is := [i, j, l]) (En := En) (Fm := fun r g => evP gl cl r fl es g) (by simpa only [ex, parS_eq] using q)) fun us H1 ⟨k1, k2⟩ => ?_
    match us, k1, k2 with
    | [v, w, u], _, k2 => exact ⟨v, w, u, rfl, k2⟩
end
end Bk
end
section
set_option Elab.async false
set_option linter.all false
set_option maxRecDepth 100000
set_option maxHeartbeats 4000000
namespace Bk
open PySem PySem.Spec PyProof.Rows L2 RZ
section
variable {X : Cx} {W : WX} {gl : Nat → Option D} {cl : Nat → List D → List O → Res D} {T : MT} {pos : Pos}
/-- a slot's object, a list or a dict, is written -/
theorem SR.updG {K : PySem.W.Frag} {y : Gh} {H : Hp} {r : List Slot} {σ : L2.St} {g : List O} (S : SR K y H r σ) (G : Good K y H g) {i : Nat} {s0 s1 : Slot} {b : Addr} {o : HO} (hi : r[i]? = some s0) (h0 : s0.owns = true) (h1 : s1.owns = true) (hs : σ[i]? = some (some (.ref b))) (w : y.W b)
    (hn : Evo y H y (L2.upd H b o) → SlotRep K y (L2.upd H b o) s1 (some (.ref b))) : SR K y (L2.upd H b o) (r.set i s1) σ := by
  have ev : Evo y H y (L2.upd H b o) := ⟨rfl, ⟨[], by simp, fun _ h => by simp at h⟩, fun a u h _ hw => by rw [upd_ne (fun e : a = b => hw (by rw [e]; exact w))]; exact h, fun a h => by
    by_cases ea : a = b
    · subst ea; rw [upd_same] at h; cases h
    · rw [upd_ne ea] at h; exact h, fun a w => .inl w⟩
  have hl : i < r.length := (List.getElem?_eq_some_iff.mp hi).1
  refine ⟨by rw [List.length_set, S.len], fun j s q => ?_, fun a c s t p hac ha hc hs' ht h1' h2 => ?_⟩
  · rw [List.getElem?_set] at q
    by_cases hij : i = j
    · subst hij
      rw [if_pos rfl, if_pos hl] at q
      cases q
      exact ⟨_, hs, hn ev⟩
    · rw [if_neg hij] at q
      obtain ⟨o', e1, h1'⟩ := S.at_ j s q
      refine ⟨o', e1, ?_⟩
      cases s with
      | no => trivial
      | fz d => obtain ⟨v, q1, q2⟩ := h1'; exact ⟨v, q1, Rep.monoS ev _ _ q2⟩
      | own es =>
        obtain ⟨c, ws, q1, q2, q3, q4⟩ := h1'
        refine ⟨c, ws, q1, q2, ?_, Reps.monoS ev _ _ q4⟩
        rw [upd_ne fun e : c = b => S.dist i j _ _ b hij hi q h0 rfl hs (by rw [e1, q1, e])]
        exact q3
      | ownK ks es =>
        obtain ⟨c, ws, q1, q2, q3, q4, q5⟩ := h1'
        refine ⟨c, ws, q1, q2, ?_, q4, Reps.monoS ev _ _ q5⟩
        rw [upd_ne fun e : c = b => S.dist i j _ _ b hij hi q h0 rfl hs (by rw [e1, q1, e])]
        exact q3
  · have get : ∀ (k : Nat) (u : Slot), (r.set i s1)[k]? = some u → u.owns = true → ∃ u' : Slot, r[k]? = some u' ∧ u'.owns = true := fun k u q ho => by
      rw [List.getElem?_set] at q
      by_cases hik : i = k
      · subst hik; exact ⟨_, hi, h0⟩
      · rw [if_neg hik] at q; exact ⟨u, q, ho⟩
    obtain ⟨s', q1, q2⟩ := get a s ha hs'
    obtain ⟨t', q3, q4⟩ := get c t hc ht
    exact S.dist a c s' t' p hac q1 q3 q2 q4 h1' h2
theorem putK_zip {κ : Type} [DecidableEq κ] {k : κ} {v : V} : ∀ {ks : List κ} {vs : List V}, ks.length = vs.length → putK (ks.zip vs) k v = if (ks.any fun x => decide (x = k)) = true then ks.zip ((ks.zip vs).map fun p => if p.1 = k then v else p.2) else (ks ++ [k]).zip (vs ++ [v]) := by
  intro ks vs h
  have hany : ((ks.zip vs).any fun kv => decide (kv.1 = k)) = (ks.any fun x => decide (x = k)) := by
    induction ks generalizing vs with
    | nil => rfl
    | cons a ks ih =>
      match vs, h with
      | b :: vs, h => rw [List.zip_cons_cons, List.any_cons, List.any_cons, ih (by simpa using h)]
  unfold putK
  rw [hany]
  split
  · clear hany
    rename_i hh
    clear hh
    induction ks generalizing vs with
    | nil => rfl
    | cons a ks ih =>
      match vs, h with
      | b :: vs, h =>
        rw [List.zip_cons_cons, List.map_cons, List.map_cons, List.zip_cons_cons, ih (by simpa using h)]
        by_cases e : a = k
        · simp [e]
        · simp [e]
  · rw [List.zip_append h]
    rfl
theorem putD_reps {κ : Type} [DecidableEq κ] {K : PySem.W.Frag} {y : Gh} {H : Hp} {k : κ} {d : D} {v : V} (rd : Rep K y H d v) : ∀ {ks : List κ} {ds : List D} {vs : List V}, Reps K y H ds vs → Reps K y H ((ks.zip ds).map fun p => if p.1 = k then d else p.2) ((ks.zip vs).map fun p => if p.1 = k then v else p.2)
  | [], _, _, _ => Reps.nil
  | a :: ks, [], _, h => by simp only [Reps] at h; subst h; exact Reps.nil
  | a :: ks, e :: ds, _, h => by
    simp only [Reps] at h
    obtain ⟨w, ws, rfl, h1, h2⟩ := h
    rw [List.zip_cons_cons, List.zip_cons_cons, List.map_cons, List.map_cons]
    refine Reps.cons ?_ (putD_reps rd h2)
    by_cases e : a = k
    · simp only [e, if_true]; exact rd
    · simp only [e, if_false]; exact h1
theorem set_two (hu : X.A.units + 1 < cLine) : PSet X (fun o i v H Q => rSetL o i v H Q ∨ rSetD o i v H Q) := by
  intro pins s σ H o i v ov iv u Q I ro ri rv h
  rcases h with h | h
  · exact set_list pins s σ H o i v ov iv u Q I ro ri rv h
  · exact set_dict hu pins s σ H o i v ov iv u Q I ro ri rv h
theorem var_own (h : HS gl cl T X W) {i : Nat} {z : Str} {pz : Pos} (hr : rdB T X.env.scope i z = true) : PE X (.Name z pz) (tVar i) := by
  unfold rdB at hr
  simp only [Bool.and_eq_true, decide_eq_true_eq] at hr
  obtain ⟨n1, n2, _⟩ := nm_of hr.2
  exact pe_var (by rw [h.N]; exact hr.1.1) (vis_of hr.1.2) n1 n2
theorem few1 {v : Expr} {env : Env} {cp : Pos} (hs : notStar v = true) : ((backTo cp (starEach [v] env)).all (fun x => !x.1) && (backToKw cp (keywordEach [] env)).all (fun x => x.1.isSome)
      && decide (([v] : List Expr).length + ([] : List Keyword).length + (if ([] : List Keyword).isEmpty then 0 else 1) < 30)) = true := by
  rw [star_cons hs]; rfl
/-- x[b] = e, x a list or a dict of the frame's own -/
theorem ps_setOB (h : HS gl cl T X W) {b e : E} {i : Nat} {x : Str} {z v : Expr} {p px : Pos} (hz : notSl z = true) (hv : (isLc v || notLc v) = true) (hr : rdB T X.env.scope i x = true) (hb : mE T b X.env.scope z = true) (he : mE T e X.env.scope v = true) :
    PS X (.Assign [.Subscript (.Name x px) z p] v pos) (tS X.K X.mg W fun r g => ex gl cl r (.setO i b e) g) := by
  have hx := (sound_e e X W h.toHX v he).1 .v (op_ne rfl)
  have h1 := var_own (pz := px) h hr
  have h2 := (sound_e b X W h.toHX z hb).1 .t fun q => nomatch q
  have hu : X.A.units + 1 < cLine := by have := h.units; omega
  have hg : PG X (.Subscript (.Name x px) z p) (gSub (tVar i) (tX X.K X.mg W .t fun r g => ev gl cl true r b g) (fun o i v H Q => rSetL o i v H Q ∨ rSetD o i v H Q)) :=
    pg_sub h1 h2 (set_two hu) (by intro u; cases z <;> first | rfl | exact absurd (show false = true from hz) Bool.false_ne_true)
  have hsw : swapsWithSole [.Subscript (.Name x px) z p] v pos.line X.env = pure false := sw_other (env := X.env) (l := pos.line) (tg := .Subscript (.Name x px) z p) hv fun _ _ q => nomatch q
  refine psI (ps_asg hx hg hsw rfl rfl) fun En σ H q => ?_
  obtain ⟨y, r, g, S, G, p⟩ := q
  simp only [ex] at p
  refine bindP (F := fun r g => ev gl cl false r e g) (IsPost.s (En := En)) S G p fun y1 d g1 u H1 S1 G1 pd e1 p1 => ?_
  cases hi : r[i]? with
  | none => rw [hi] at p1; exact p1.elim
  | some s0 =>
    rw [hi] at p1
    obtain ⟨o, q1, q2⟩ := S1.at_ i _ hi
    cases s0 with
    | own ds =>
      obtain ⟨c, vs, q2, w, hc, rr⟩ := q2
      refine ⟨.ref c, by rw [q1, q2], ?_⟩
      refine bindP (F := fun r g => ev gl cl true r b g) (IsPost.s (En := En)) S1 G1 p1 fun y3 kk g3 kv H3 S3 G3 pk e3 p3 => ?_
      cases hst : setI ds kk d with
      | none => rw [hst] at p3; exact p3.elim
      | some ds' =>
        rw [hst] at p3
        have p3 : PostS X.K X.mg W y3 H3 En (.ok (.nx (r.set i (.own ds'))) g3) := p3
        cases kk with
        | int j =>
          have hst : setAt ds j d = some ds' := hst
          have hk : kv = .int j := rt_int (show RepT X.K y3 H3 (.int j) kv from pk)
          subst hk
          unfold setAt at hst
          cases hix : ixN ds.length j with
          | none => rw [hix] at hst; cases hst
          | some jj =>
            rw [hix] at hst
            simp only [Option.map_some, Option.some.injEq] at hst
            subst hst
            have w3 : y3.W c := by rw [e3.eW]; exact w
            have hc3 : H3 c = some (.lst vs) := e3.keep _ _ hc fun z => (G1.disj c z).2 w
            have rr3 := Reps.mono e3 _ _ rr
            have pd3 : Rep X.K y3 H3 d u := Rep.mono e3 _ _ pd
            obtain ⟨G4, ev4⟩ := G3.upd (o := .lst (vs.set jj u)) w3
            refine .inl ⟨c, vs, j, jj, rfl, rfl, hc3, by rw [← rr.length]; exact hix, ?_⟩
            exact p3 y3 _ σ ev4 G4 (S3.updG G3 hi rfl rfl (by rw [q1, q2]) w3 fun ev => ⟨c, _, rfl, w3, upd_same, Reps.monoS ev _ _ (rr3.set pd3 jj)⟩)
        | _ => cases hst
    | ownK ks ds =>
      obtain ⟨c, vs, q2, w, hc, hl, rr⟩ := q2
      refine ⟨.ref c, by rw [q1, q2], ?_⟩
      refine bindP (F := fun r g => ev gl cl true r b g) (IsPost.s (En := En)) S1 G1 p1 fun y3 kk g3 kv H3 S3 G3 pk e3 p3 => ?_
      cases hst : putI ks ds kk d with
      | none => rw [hst] at p3; exact p3.elim
      | some pr =>
        rw [hst] at p3
        have p3 : PostS X.K X.mg W y3 H3 En (.ok (.nx (r.set i (.ownK pr.1 pr.2))) g3) := p3
        unfold putI at hst
        split at hst
        · rename_i hlen
          have w3 : y3.W c := by rw [e3.eW]; exact w
          have hc3 : H3 c = some (dHO ks vs) := e3.keep _ _ hc fun z => (G1.disj c z).2 w
          have rr3 := Reps.mono e3 _ _ rr
          have pd3 : Rep X.K y3 H3 d u := Rep.mono e3 _ _ pd
          have hvl : ks.len = vs.length := by rw [← rr.length]; exact hl
          cases ks with
          | k ks =>
            dsimp only at hst
            cases hk : keyI kk with
            | none => rw [hk] at hst; cases hst
            | some k =>
              rw [hk] at hst
              simp only [Option.map_some, Option.some.injEq] at hst
              subst hst
              obtain rfl := key_rep hk pk
              obtain ⟨G4, ev4⟩ := G3.upd (o := .dK (putK (ks.zip vs) k u)) w3
              refine .inr ⟨c, _, rfl, DPut.k hc3 (by rw [List.length_zip]; exact Nat.lt_of_le_of_lt (Nat.min_le_left _ _) (lim_lt (Nat.le_of_lt hlen))), ?_⟩
              refine p3 y3 _ σ ev4 G4 (S3.updG G3 hi rfl rfl (by rw [q1, q2]) w3 fun ev => ?_)
              have rrA := Reps.monoS ev _ _ (putD_reps (k := k) pd3 (ks := ks) rr3)
              have rrB := Reps.monoS ev _ _ (rr3.append (.cons pd3 .nil))
              clear ev
              have hl : ks.length = ds.length := hl
              rw [putK_zip hvl] at rrA rrB ⊢
              unfold putD
              split
              · rename_i hh
                rw [if_pos hh] at rrA
                exact ⟨c, _, rfl, w3, upd_same, by simp [DKs.len, hl], rrA⟩
              · rename_i hh
                rw [if_neg hh] at rrB
                exact ⟨c, _, rfl, w3, upd_same, by simp [DKs.len, hl], rrB⟩
          | t ks =>
            dsimp only at hst
            cases hk : keyT kk with
            | none => rw [hk] at hst; cases hst
            | some k =>
              rw [hk] at hst
              simp only [Option.map_some, Option.some.injEq] at hst
              subst hst
              obtain ⟨kb, rfl, hkb⟩ := keyT_rep hk pk
              obtain ⟨G4, ev4⟩ := G3.upd (o := .dT (putK (ks.zip vs) k u)) w3
              refine .inr ⟨c, _, rfl, DPut.t hc3 hkb (by rw [List.length_zip]; exact Nat.lt_of_le_of_lt (Nat.min_le_left _ _) (lim_lt (Nat.le_of_lt hlen))), ?_⟩
              refine p3 y3 _ σ ev4 G4 (S3.updG G3 hi rfl rfl (by rw [q1, q2]) w3 fun ev => ?_)
              have rrA := Reps.monoS ev _ _ (putD_reps (k := k) pd3 (ks := ks) rr3)
              have rrB := Reps.monoS ev _ _ (rr3.append (.cons pd3 .nil))
              clear ev
              have hl : ks.length = ds.length := hl
              rw [putK_zip hvl] at rrA rrB ⊢
              unfold putD
              split
              · rename_i hh
                rw [if_pos hh] at rrA
                exact ⟨c, _, rfl, w3, upd_same, by simp [DKs.len, hl], rrA⟩
              · rename_i hh
                rw [if_neg hh] at rrB
                exact ⟨c, _, rfl, w3, upd_same, by simp [DKs.len, hl], rrB⟩
        · cases hst
    | _ => exact p1.elim
/-- z.append(x.pop(v)) -/
theorem ps_appPopB (h : HS gl cl T X W) {e : E} {v : Expr} {z x : Str} {pz px ap cp ap2 cp2 : Pos} {i j : Nat} (hr : rdB T X.env.scope i z = true) (hr2 : rdB T X.env.scope j x = true) (hline : (ap.endLine == cp.line) = true) (hline2 : (ap2.endLine == cp2.line) = true) (hs : notStar v = true) (he : mE T e X.env.scope v = true) :
    PS X (.Expr (.Call (.Attribute (.Name z pz) (Str.ofString "append") ap) [.Call (.Attribute (.Name x px) (Str.ofString "pop") ap2) [v] [] cp2] [] cp) pos) (tS X.K X.mg W fun r g => ex gl cl r (.appPop i j e) g) := by
  have hx := (sound_e e X W h.toHX v he).1 .t fun q => nomatch q
  have hpv := var_own (pz := pz) h hr
  have hpw := var_own (pz := px) h hr2
  have hpa : PA X [v] (tCons (tX X.K X.mg W .t fun r g => ev gl cl true r e g) tNil) := pa_cons hx pa_nil (star_cons hs)
  have mt : MtR X "list.append" rAppend := fun pins s σ H x xs w us Q I r1 r2 q => mt_append pins s σ H x xs w us Q I r1 r2 q
  have mp : MtR X "list.pop" rPopAt := fun pins s σ H x xs w us Q I r1 r2 q => mt_popAt pins s σ H x xs w us Q I r1 r2 q
  have hpop : PE X (.Call (.Attribute (.Name x px) (Str.ofString "pop") ap2) [v] [] cp2) _ := pe_bm F.plainAttrs_list F.slot_list_pop F.type_list_pop mp hpw hpa rfl (few1 hs) hline2 (star_cons hs) rfl
  have hpp : PA X [.Call (.Attribute (.Name x px) (Str.ofString "pop") ap2) [v] [] cp2] _ := pa_cons hpop pa_nil (star_cons rfl)
  refine psI (ps_expr (pe_bm F.plainAttrs_list F.slot_list_append F.type_list_append mt hpv hpp rfl (few1 rfl) hline (star_cons rfl) rfl) rfl) fun En σ H ⟨y, r, g, S, G, p⟩ => ?_
  simp only [ex] at p
  cases hi : r[i]? with
  | none => rw [hi] at p; exact p.elim
  | some s0 =>
    rw [hi] at p
    cases s0 with
    | own ds =>
      cases hj : r[j]? with
      | none => rw [hj] at p; exact p.elim
      | some s1 =>
        rw [hj] at p
        cases s1 with
        | own es =>
          obtain ⟨o, q1, b, vs, q2, w, hb, rr⟩ := S.at_ i _ hi
          obtain ⟨o', q3, c, ws, q4, w2, hc, rr2⟩ := S.at_ j _ hj
          refine ⟨.ref b, by rw [q1, q2], .inl ⟨rfl, vs, .inl (.inl hb)⟩, ?_⟩
          refine ⟨.ref c, by rw [q3, q4], .inl ⟨rfl, ws, .inl (.inl hc)⟩, ?_⟩
          refine bindP (F := fun r g => ev gl cl true r e g) (IsPost.s (En := En)) S G p fun y1 kk g1 u H1 S1 G1 pk e1 p1 => ?_
          cases hst : popI es kk with
          | none => rw [hst] at p1; exact p1.elim
          | some pr =>
            rw [hst, lift_some, Res.bind_ok] at p1
            split at p1
            · rename_i hlen
              obtain ⟨hij, hlen⟩ := hlen
              cases kk with
              | int k =>
                have hk : u = .int k := rt_int (show RepT X.K y1 H1 (.int k) u from pk)
                subst hk
                unfold popI at hst
                dsimp only at hst
                split at hst
                · rename_i hb2
                  cases hix : ixN es.length k with
                  | none => rw [hix] at hst; cases hst
                  | some m =>
                    rw [hix, Option.bind_some] at hst
                    cases hm : es[m]? with
                    | none => rw [hm] at hst; cases hst
                    | some d =>
                      rw [hm, Option.map_some, Option.some.injEq] at hst
                      subst hst
                      have bc : b ≠ c := fun q => S.dist i j _ _ b hij hi hj rfl rfl (by rw [q1, q2]) (by rw [q3, q4, q])
                      have hb1 : H1 b = some (.lst vs) := e1.keep _ _ hb fun z => (G.disj b z).2 w
                      have hc1 : H1 c = some (.lst ws) := e1.keep _ _ hc fun z => (G.disj c z).2 w2
                      have wb : y1.W b := by rw [e1.eW]; exact w
                      have wc : y1.W c := by rw [e1.eW]; exact w2
                      have rr1 := Reps.mono e1 _ _ rr
                      have rr3 := Reps.mono e1 _ _ rr2
                      obtain ⟨vd, hvd, rd⟩ := rr3.at hm
                      obtain ⟨G2, ev2⟩ := G1.upd (o := .lst (ws.eraseIdx m)) wc
                      have S2 := S1.updG (o := .lst (ws.eraseIdx m)) (s1 := .own (es.eraseIdx m)) G1 hj rfl rfl (by rw [q3, q4]) wc fun ev => ⟨c, _, rfl, wc, upd_same, Reps.monoS ev _ _ (rr3.eraseIdx m)⟩
                      have hix2 : ixN ws.length k = some m := by rw [← rr3.length]; exact hix
                      refine ⟨c, ws, k, m, vd, rfl, rfl, hc1, by omega, by omega, (ixN_seq hix2).1, hvd, ?_⟩
                      have hb2 : L2.upd H1 c (.lst (ws.eraseIdx m)) b = some (.lst vs) := by rw [upd_ne bc]; exact hb1
                      obtain ⟨G3, ev3⟩ := G2.upd (o := .lst (vs ++ [vd])) wb
                      have hi2 : (r.set j (.own (es.eraseIdx m)))[i]? = some (.own ds) := by rw [List.getElem?_set_ne (Ne.symm hij)]; exact hi
                      refine ⟨b, vs, vd, rfl, rfl, hb2, by rw [← rr.length]; exact lim_lt (Nat.le_of_lt hlen), ?_⟩
                      have rr4 := Reps.monoS ev2 _ _ rr1
                      have rd2 := Rep.monoS ev2 _ _ rd
                      exact p1 y1 _ σ (ev2.trans ev3) G3 (S2.updG G2 hi2 rfl rfl (by rw [q1, q2]) wb fun ev => ⟨b, _, rfl, wb, upd_same, Reps.monoS ev _ _ (rr4.append (.cons rd2 .nil))⟩)
                · cases hst
              | _ => cases hst
            · exact p1.elim
        | _ => exact p.elim
    | _ => exact p.elim
/-- x.pop() as a statement -/
theorem ps_popXB (h : HS gl cl T X W) {x : Str} {px ap cp : Pos} {i : Nat} (hr : rdB T X.env.scope i x = true) (hline : (ap.endLine == cp.line) = true) :
    PS X (.Expr (.Call (.Attribute (.Name x px) (Str.ofString "pop") ap) [] [] cp) pos) (tS X.K X.mg W fun r g => ex gl cl r (.popX i) g) := by
  have hpv := var_own (pz := px) h hr
  have mp : MtR X "list.pop" rPop := fun pins s σ H x xs w us Q I r1 r2 q => mt_pop pins s σ H x xs w us Q I r1 r2 q
  refine psI (ps_expr (pe_bm0 F.plainAttrs_list F.slot_list_pop F.type_list_pop mp hpv rfl hline) rfl) fun En σ H ⟨y, r, g, S, G, p⟩ => ?_
  simp only [ex] at p
  cases hi : r[i]? with
  | none => rw [hi] at p; exact p.elim
  | some s0 =>
    rw [hi] at p
    cases s0 with
    | own ds =>
      obtain ⟨o, q1, b, vs, q2, w, hb, rr⟩ := S.at_ i _ hi
      dsimp only at p
      split at p
      · exact p.elim
      · rename_i hne
        have hlen := rr.length
        have hpos : 0 < vs.length := by rw [← hlen]; exact List.length_pos_iff.mpr hne
        obtain ⟨G2, ev⟩ := G.upd (o := .lst vs.dropLast) w
        refine ⟨.ref b, by rw [q1, q2], .inl ⟨rfl, vs, .inl (.inl hb)⟩, b, vs, vs[vs.length - 1], rfl, rfl, hb, List.getElem?_eq_getElem (by omega), ?_⟩
        exact p y _ σ ev G2 (S.updG G hi rfl rfl (by rw [q1, q2]) w fun ev => ⟨b, _, rfl, w, upd_same, Reps.monoS ev _ _ rr.dropLast⟩)
    | _ => exact p.elim
/-- x.extend(v) -/
theorem ps_extB (h : HS gl cl T X W) {e : E} {v : Expr} {z : Str} {pz ap cp : Pos} {i : Nat} (hr : rdB T X.env.scope i z = true) (hline : (ap.endLine == cp.line) = true) (hs : notStar v = true) (he : mE T e X.env.scope v = true) :
    PS X (.Expr (.Call (.Attribute (.Name z pz) (Str.ofString "extend") ap) [v] [] cp) pos) (tS X.K X.mg W fun r g => ex gl cl r (.extend i e) g) := by
  have hx := (sound_e e X W h.toHX v he).1 .t fun q => nomatch q
  have hpv := var_own (pz := pz) h hr
  have hpa : PA X [v] (tCons (tX X.K X.mg W .t fun r g => ev gl cl true r e g) tNil) := pa_cons hx pa_nil (star_cons hs)
  have mt : MtR X "list.extend" rExtend := fun pins s σ H x xs w us Q I r1 r2 q => mt_extend pins s σ H x xs w us Q I r1 r2 q
  refine psI (ps_expr (pe_bm F.plainAttrs_list F.slot_list_extend F.type_list_extend mt hpv hpa rfl (few1 hs) hline (star_cons hs) rfl) rfl) fun En σ H ⟨y, r, g, S, G, p⟩ => ?_
  simp only [ex] at p
  cases hi : r[i]? with
  | none => rw [hi] at p; exact p.elim
  | some s0 =>
    rw [hi] at p
    cases s0 with
    | own ds =>
      obtain ⟨o, q1, b, vs, q2, w, hb, rr⟩ := S.at_ i _ hi
      refine ⟨.ref b, by rw [q1, q2], .inl ⟨rfl, vs, .inl (.inl hb)⟩, ?_⟩
      refine bindP (F := fun r g => ev gl cl true r e g) (IsPost.s (En := En)) S G p fun y1 d g1 u H1 S1 G1 pd e1 p1 => ?_
      cases d with
      | lst es =>
        unfold extI at p1
        dsimp only at p1
        split at p1
        · rename_i hlen
          obtain ⟨c, ws, rfl, hc, rd⟩ := rt_lst (show RepT X.K y1 H1 (.lst es) u from pd)
          have hb1 : H1 b = some (.lst vs) := e1.keep _ _ hb fun z => (G.disj b z).2 w
          have w1 : y1.W b := by rw [e1.eW]; exact w
          have rr1 := Reps.mono e1 _ _ rr
          obtain ⟨G2, ev⟩ := G1.upd (o := .lst (vs ++ ws)) w1
          refine ⟨b, c, vs, ws, rfl, rfl, hb1, hc, by rw [← rr.length, ← rd.length]; exact lim_size hlen, ?_⟩
          exact p1 y1 _ σ ev G2 (S1.updG G1 hi rfl rfl (by rw [q1, q2]) w1 fun ev => ⟨b, _, rfl, w1, upd_same, Reps.monoS ev _ _ (rr1.append rd)⟩)
        · exact p1.elim
      | _ => exact p1.elim
    | _ => exact p.elim
/-! ### a, b = x, {} by way of a tuple -/
theorem gNs_iff {Q : L2.St → Hp → Prop} {H : Hp} : ∀ {is : List Nat} {vs : List V} {σ : L2.St}, is.length = vs.length → Q ((is.zip vs).foldl (fun s p => s.set p.1 (some p.2)) σ) H → gNs is vs σ H Q
  | [], [], σ, _, q => ⟨rfl, q⟩
  | i :: is, v :: vs, σ, hl, q => ⟨v, vs, rfl, gNs_iff (by simpa using hl) q⟩
theorem setT_imp {is : List Nat} {Fm : List Slot → List O → Res (List Slot)} {En : Ends} {σ : L2.St} {H : Hp} (hsz : is.length ≤ 1000) (q : tS X.K X.mg W (fun r g => (Fm r g).bind fun ss g => if is.length = ss.length then .ok (.nx ((is.zip ss).foldl (fun r p => r.set p.1 p.2) r)) g else .bad) En σ H) :
    tAsg (tTup (tM X.K X.mg W Fm)) (tgG X.K (.tp is)) En σ H := by
  obtain ⟨y, r, g, S, G, p⟩ := q
  refine ⟨y, r, g, S, G, ?_⟩
  dsimp only at p
  cases e : Fm r g with
  | bad => rw [e] at p; exact p
  | exc x g' => rw [e] at p; exact fun y' H' c od e' G' q => p y' H' c od σ e'.evo G' q
  | ok ss g' =>
    rw [e, Res.bind_ok] at p
    split at p
    · rename_i hl
      intro y' H' vs e' G' nr
      have hvl : is.length = vs.length := hl.trans nr.length
      refine ⟨by rw [← hvl]; exact Nat.le_trans hsz (by decide), fun a ha => .inl ⟨a, vs, rfl, .inl (.inl upd_same), hvl.symm, gNs_iff hvl ?_⟩⟩
      have SM := SR.many is (S.exo e' G) (fun k t hk ho b hσ => ?_) nr
      · exact p y' _ _ (e'.evo.trans (ext_new ha).evo) (G'.new ha) (SR.mono (ext_new ha) G' SM)
      · obtain ⟨o, e1, h1⟩ := S.at_ k t hk
        rw [hσ] at e1
        cases e1
        cases t with
        | no => cases ho
        | fz d => cases ho
        | own ds => obtain ⟨c, ws, q1, q2, _⟩ := h1; cases q1; exact q2
        | ownK ks ds => obtain ⟨c, ws, q1, q2, _⟩ := h1; cases q1; exact q2
    · exact p.elim
theorem ps_parT (h : HS gl cl T X W) {is : List Nat} {fl : List Bool} {es : List E} {ts vs : List Expr} {k k2 : Nat} {p p2 : Pos} (hsz : is.length ≤ 1000) (hl : mNs T.N X.env.scope is ts = true) (hw : swOff X.env.scope ts vs = true) (hfl : frB fl es = true) (he : mEs T es X.env.scope vs = true) :
    PS X (.Assign [.Tuple ts k p] (.Tuple vs k2 p2) pos) (tS X.K X.mg W fun r g => ex gl cl r (.parO is fl es) g) := by
  have ha := pa_mix h.toHX he hfl
  have hg : PG X (.Tuple ts k p) (tgG X.K (.tp is)) := pg_of h.calm h.N h.nd (fun x hx => loc_fn h hx) (show mTg T.N X.env.scope (.tp is) (.Tuple ts k p) = true from hl)
  have hsw : swapsWithSole [.Tuple ts k p] (.Tuple vs k2 p2) pos.line X.env = pure false := rfl
  refine psI (ps_asg (pe_tup ha) hg hsw (sw_off h.kind hw) rfl) fun En σ H q => ?_
  exact setT_imp hsz (by simpa only [ex, parS_eq] using q)
end
end Bk
end
section
set_option Elab.async false
set_option linter.all false
set_option maxRecDepth 100000
set_option maxHeartbeats 4000000
namespace Bk
open PySem PySem.Spec PyProof.Rows L2 RZ
section
variable (gl : Nat → Option D) (cl : Nat → List D → List O → Res D) (T : MT)
def MT1 (s : S) : Prop := ∀ X W, HS gl cl T X W → ∀ x, mSt T X.env.scope s x = true → PS X x (tS X.K X.mg W fun r g => ex gl cl r s g)
def MTs (ss : List S) : Prop := ∀ X W, HS gl cl T X W → ∀ xs, mSts T X.env.scope ss xs = true → PSs X xs (tS X.K X.mg W fun r g => exs gl cl r ss g)
end
section
variable {gl : Nat → Option D} {cl : Nat → List D → List O → Res D} {T : MT}
theorem st_bad {s : S} (h : ∀ sc x, mSt T sc s x = false) : MT1 gl cl T s := fun X W _ x hx => by rw [h] at hx; cases hx
theorem st_asg (tg : Tg) (e : E) : MT1 gl cl T (.asg tg e) := by
  intro X W h x hx
  cases x <;> first | (cases tg <;> exact absurd (show false = true from hx) Bool.false_ne_true) | skip
  rename_i ts v p
  cases tg with
  | nm i =>
    match ts, hx with
    | [.Name z pz], hx =>
      simp only [mSt, Bool.and_eq_true, decide_eq_true_eq] at hx
      exact ps_asgNm h hx.1.1.1.1 hx.1.1.1.2 hx.1.1.2 hx.1.2 hx.2
  | tp is =>
    match ts, hx with
    | [.Tuple ts k pz], hx =>
      simp only [mSt, Bool.and_eq_true, decide_eq_true_eq] at hx
      exact ps_asgTp h hx.1.1.1 hx.1.1.2 hx.1.2 hx.2
theorem st_asgOwn (i : Nat) (e : E) : MT1 gl cl T (.asgOwn i e) := by
  intro X W h x hx
  cases x <;> first | exact absurd (show false = true from hx) Bool.false_ne_true | skip
  rename_i ts v p
  match ts, hx with
  | [.Name z pz], hx =>
    simp only [mSt, Bool.and_eq_true, decide_eq_true_eq] at hx
    exact ps_asgOwn h hx.1.1.1.1.1 hx.1.1.1.1.2 hx.1.1.1.2 hx.1.1.2 hx.1.2 hx.2
theorem st_par (is : List Nat) (es : List E) : MT1 gl cl T (.par is es) := by
  intro X W h x hx
  cases x <;> first | exact absurd (show false = true from hx) Bool.false_ne_true | skip
  rename_i ts v p
  match ts, v, hx with
  | [.Tuple ts k pz], .Tuple vs k2 p2, hx =>
    simp only [mSt, Bool.and_eq_true, decide_eq_true_eq] at hx
    exact ps_parB h hx.1.1.1 hx.1.1.2 hx.1.2 hx.2
theorem st_parO (is : List Nat) (fl : List Bool) (es : List E) : MT1 gl cl T (.parO is fl es) := by
  intro X W h x hx
  cases x <;> first | exact absurd (show false = true from hx) Bool.false_ne_true | skip
  rename_i ts v p
  match ts, v, hx with
  | [.Tuple ts k pz], .Tuple vs k2 p2, hx =>
    simp only [mSt, Bool.and_eq_true, Bool.or_eq_true, decide_eq_true_eq] at hx
    obtain ⟨⟨a, b⟩, c | c⟩ := hx
    · exact ps_parO h c.1.1 c.1.2 c.2 a b
    · exact ps_parT h c.1.1 c.1.2 c.2 a b
theorem st_aug (i : Nat) (op : Bop) (e : E) : MT1 gl cl T (.aug i op e) := by
  intro X W h x hx
  cases x <;> first | exact absurd (show false = true from hx) Bool.false_ne_true | skip
  rename_i tg o v p
  match tg, hx with
  | .Name z pz, hx =>
    simp only [mSt, Bool.and_eq_true, decide_eq_true_eq] at hx
    obtain ⟨⟨⟨⟨a, b⟩, c⟩, d⟩, e⟩ := hx
    subst d
    exact ps_augB h a b c e
theorem st_setR (a b e : E) : MT1 gl cl T (.setR a b e) := by
  intro X W h x hx
  cases x <;> first | exact absurd (show false = true from hx) Bool.false_ne_true | skip
  rename_i ts v p
  match ts, hx with
  | [.Subscript z u pz], hx =>
    simp only [mSt, Bool.and_eq_true] at hx
    exact ps_setRB h hx.1.1.1.1 hx.1.1.1.2 hx.1.1.2 hx.1.2 hx.2
theorem st_app (i : Nat) (e : E) : MT1 gl cl T (.app i e) := by
  intro X W h x hx
  cases x <;> first | exact absurd (show false = true from hx) Bool.false_ne_true | skip
  rename_i v p
  match v, hx with
  | .Call (.Attribute (.Name z pz) f ap) [v] [] cp, hx =>
    simp only [mSt, Bool.and_eq_true, beq_iff_eq] at hx
    obtain ⟨⟨⟨⟨a, b⟩, c⟩, d⟩, e⟩ := hx
    subst b
    exact ps_appB h a (by rw [c]; exact beq_self_eq_true _) d e
theorem st_setO (i : Nat) (b e : E) : MT1 gl cl T (.setO i b e) := by
  intro X W h x hx
  cases x <;> first | exact absurd (show false = true from hx) Bool.false_ne_true | skip
  rename_i ts v p
  match ts, hx with
  | [.Subscript (.Name z pz2) u pz], hx =>
    simp only [mSt, Bool.and_eq_true] at hx
    exact ps_setOB h hx.1.1.1.1 hx.1.1.1.2 hx.1.1.2 hx.1.2 hx.2
theorem st_appPop (i j : Nat) (e : E) : MT1 gl cl T (.appPop i j e) := by
  intro X W h x hx
  cases x <;> first | exact absurd (show false = true from hx) Bool.false_ne_true | skip
  rename_i v p
  match v, hx with
  | .Call (.Attribute (.Name z pz) f ap) [.Call (.Attribute (.Name x px) f2 ap2) [v] [] cp2] [] cp, hx =>
    simp only [mSt, Bool.and_eq_true, beq_iff_eq] at hx
    obtain ⟨⟨⟨⟨⟨⟨⟨a, b⟩, c⟩, d⟩, e⟩, f⟩, k⟩, l⟩ := hx
    subst c
    subst d
    exact ps_appPopB h a b (by rw [e]; exact beq_self_eq_true _) (by rw [f]; exact beq_self_eq_true _) k l
theorem st_popX (i : Nat) : MT1 gl cl T (.popX i) := by
  intro X W h x hx
  cases x <;> first | exact absurd (show false = true from hx) Bool.false_ne_true | skip
  rename_i v p
  match v, hx with
  | .Call (.Attribute (.Name z pz) f ap) [] [] cp, hx =>
    simp only [mSt, Bool.and_eq_true, beq_iff_eq] at hx
    obtain ⟨⟨a, b⟩, c⟩ := hx
    subst b
    exact ps_popXB h a (by rw [c]; exact beq_self_eq_true _)
theorem st_extend (i : Nat) (e : E) : MT1 gl cl T (.extend i e) := by
  intro X W h x hx
  cases x <;> first | exact absurd (show false = true from hx) Bool.false_ne_true | skip
  rename_i v p
  match v, hx with
  | .Call (.Attribute (.Name z pz) f ap) [v] [] cp, hx =>
    simp only [mSt, Bool.and_eq_true, beq_iff_eq] at hx
    obtain ⟨⟨⟨⟨a, b⟩, c⟩, d⟩, e⟩ := hx
    subst b
    exact ps_extB h a (by rw [c]; exact beq_self_eq_true _) d e
theorem st_iff {c : E} {a b : List S} (ha : MTs gl cl T a) (hb : MTs gl cl T b) : MT1 gl cl T (.iff c a b) := by
  intro X W h x hx
  cases x <;> first | exact absurd (show false = true from hx) Bool.false_ne_true | skip
  simp only [mSt, Bool.and_eq_true] at hx
  refine psI (ps_if (sound_e c X W h.toHX _ hx.1.1).2 (ha X W h _ hx.1.2) (hb X W h _ hx.2)) fun En σ H ⟨y, r, g, S, G, p⟩ => ?_
  refine bindP (F := fun r g => (ev gl cl true r c g).bind asB) (IsPost.s (En := En)) S G p fun y1 k g1 v H1 S1 G1 pd e1 p1 => ?_
  subst pd
  cases k with
  | true => exact ⟨y1, r, g1, S1, G1, by simpa using p1⟩
  | false => exact ⟨y1, r, g1, S1, G1, by simpa using p1⟩
theorem st_walN {i : Nat} {e : E} {a b : List S} (ha : MTs gl cl T a) (hb : MTs gl cl T b) : MT1 gl cl T (.walN i e a b) := by
  intro X W h x hx
  cases x <;> first | exact absurd (show false = true from hx) Bool.false_ne_true | skip
  rename_i c p q pos
  simp only [mSt, Bool.and_eq_true] at hx
  obtain ⟨⟨hw, h4⟩, h5⟩ := hx
  cases hz : walE c with
  | none => rw [hz] at hw; cases hw
  | some zv =>
    obtain ⟨z, v⟩ := zv
    rw [hz] at hw
    simp only [Bool.and_eq_true, decide_eq_true_eq] at hw
    obtain ⟨⟨h1, h2⟩, h3⟩ := hw
    obtain ⟨_, _, _, _, _, rfl⟩ := walE_inv hz
    obtain ⟨l1, l2⟩ := loc_fn h h2
    have hN : X.N[i]? = some z := by rw [h.N]; exact h1
    have pe := (sound_e e X W h.toHX v h3).1 .v (op_ne rfl)
    refine psI (ps_ifW (ptw_cmp op_isN (pew_named h.nd hN l1 (pew_of pe) l2) pe_non rfl) (ha X W h _ h4) (hb X W h _ h5)) fun En σ H ⟨y, r, g, S, G, p⟩ => ?_
    have p : PostS X.K X.mg W y H En ((ev gl cl false r e g).bind fun d g => if d.isNon = true then exs gl cl (r.set i (.fz d)) a g else exs gl cl (r.set i (.fz d)) b g) := by simpa only [ex] using p
    refine bindP (F := fun r g => ev gl cl false r e g) (IsPost.s (En := En)) S G p fun y1 d g1 v H1 S1 G1 pd e1 p1 => ?_
    have pd : Rep X.K y1 H1 d v := pd
    refine ⟨rfl, d.isNon, by rw [nonV pd.t], ?_⟩
    cases hn : d.isNon with
    | true => rw [hn] at p1; exact ⟨y1, r.set i (.fz d), g1, S1.set pd i, G1, by simpa using p1⟩
    | false => rw [hn] at p1; exact ⟨y1, r.set i (.fz d), g1, S1.set pd i, G1, by simpa using p1⟩
/-- the wish of a loop's body -/
theorem body_post {K : PySem.W.Frag} {mg : Str → Option Value} {W : WX} {y : Gh} {H : Hp} {En : Ends} {N : L2.St → Hp → Prop} {R : Res Out} {nx ct : List Slot → List O → Res Out}
    (p : PostS K mg W y H En (R.bind fun o g => match o with
      | .nx r => nx r g
      | .ct r => ct r g
      | .bk r => .ok (.nx r) g
      | .rt d => .ok (.rt d) g))
    (h1 : ∀ y' H' σ' r g, Evo y H y' H' → Good K y' H' g → SR K y' H' r σ' → PostS K mg W y' H' En (nx r g) → N σ' H')
    (h2 : ∀ y' H' σ' r g, Evo y H y' H' → Good K y' H' g → SR K y' H' r σ' → PostS K mg W y' H' En (ct r g) → N σ' H') : PostS K mg W y H { En with nx := N, ct := N, bk := En.nx } R := by
  cases R with
  | bad => exact p
  | exc x g => exact p
  | ok o g =>
    cases o with
    | nx r => exact fun y' H' σ' e G S => h1 y' H' σ' r g e G S (PostS.evo e p)
    | ct r => exact fun y' H' σ' e G S => h2 y' H' σ' r g e G S (PostS.evo e p)
    | bk r => exact p
    | rt d => exact p
theorem st_for {tg : Tg} {ik : IK} {its : List E} {b : List S} (hb : MTs gl cl T b) : MT1 gl cl T (.for_ tg ik its b) := by
  intro X W h x hx
  cases x <;> first | exact absurd (show false = true from hx) Bool.false_ne_true | skip
  rename_i tx ix p orl pos
  cases orl with
  | cons _ _ => exact absurd (show false = true from hx) Bool.false_ne_true
  | nil =>
    simp only [mSt, Bool.and_eq_true] at hx
    obtain ⟨⟨⟨h1, h2⟩, h3⟩, h4⟩ := hx
    cases hi : itX X.env.scope ik ix with
    | none => rw [hi] at h1; cases h1
    | some xs =>
      rw [hi] at h1
      obtain ⟨q1, q2⟩ := pi_of (m := .v) (by decide) rfl h.toHX hi h1 h2 h3 (sound_es its)
      have hg : PG X tx (tgG X.K tg) := pg_of h.calm h.N h.nd (fun x hx => loc_fn h hx) h3
      refine psI (ps_for h.pass h.calm q1 hg (hb X W h _ h4) q2) fun En σ H ⟨y, r, g, S, G, p⟩ => ?_
      have p : PostS X.K X.mg W y H En (((evs gl cl false r its g).bind fun ds g => lift (iterD ik ds) g).bind fun xs g => loopF (fun r d g => (lift (setTg r tg d) g).bind fun r g => exs gl cl r b g) xs r g) := by
        rw [Res.assoc]
        simp only [ex] at p
        exact p
      refine bindP (F := fun r g => (evs gl cl false r its g).bind fun ds g => lift (iterD ik ds) g) (IsPost.s (En := En)) S G p fun y1 xs g1 J H1 S1 G1 wof e1 p1 => ?_
      obtain ⟨GG, YY, wk, hG, hY⟩ := wof y1 (.inl rfl)
      refine for_it wk (fun i σ H2 => ∃ y2 r2 g2, Evo y1 H1 y2 H2 ∧ SR X.K y2 H2 r2 σ ∧ Good X.K y2 H2 g2 ∧ PostS X.K X.mg W y2 H2 En (loopF (fun r d g => (lift (setTg r tg d) g).bind fun r g => exs gl cl r b g) (xs.drop i) r2 g2)) ?_ ?_ ?_ ?_
      · exact ⟨y1, r, g1, Evo.refl _ _, S1, G1, by rw [List.drop_zero]; exact p1⟩
      · rintro i σ2 H2 hi ⟨y2, r2, g2, e2, S2, G2, p2⟩
        exact hG y2 H2 (show Evo y1 H1 y2 H2 from e2)
      · rintro i v σ2 H2 H3 hlt ⟨y2, r2, g2, e2, S2, G2, p2⟩ hy
        obtain ⟨e3, G3, d, hd, rd⟩ := hY y2 H2 g2 i v H3 (show Evo y1 H1 y2 H2 from e2) G2 hlt hy
        have hdrop : xs.drop i = d :: xs.drop (i + 1) := by
          rw [List.drop_eq_getElem_cons hlt]
          rw [List.getElem?_eq_getElem hlt] at hd
          cases hd; rfl
        rw [hdrop] at p2
        have p3 := PostS.evo e3.evo p2
        unfold loopF at p3
        rw [Res.assoc] at p3
        have S3 := S2.mono e3 G2
        cases hst : setTg r2 tg d with
        | none => rw [hst] at p3; exact p3.elim
        | some r' =>
          rw [hst] at p3
          refine tg_run S3 rd hst fun σ' S' _ => ⟨y2, r', g2, S', G3, ?_⟩
          exact body_post p3 (fun y' H' σ'' r'' g'' e G S p => ⟨y', r'', g'', e2.trans (e3.evo.trans e), S, G, p⟩) (fun y' H' σ'' r'' g'' e G S p => ⟨y', r'', g'', e2.trans (e3.evo.trans e), S, G, p⟩)
      · rintro σ2 H2 ⟨y2, r2, g2, e2, S2, G2, p2⟩
        rw [List.drop_length] at p2
        exact p2 y2 H2 σ2 (Evo.refl _ _) G2 S2
theorem st_while {c : E} {b : List S} (hb : MTs gl cl T b) : MT1 gl cl T (.while_ c b) := by
  intro X W h x hx
  cases x <;> first | exact absurd (show false = true from hx) Bool.false_ne_true | skip
  rename_i tx p orl pos
  cases orl with
  | cons _ _ => exact absurd (show false = true from hx) Bool.false_ne_true
  | nil =>
    simp only [mSt, Bool.and_eq_true] at hx
    refine psI (ps_while h.pass (sound_e c X W h.toHX _ hx.1).2 (hb X W h _ hx.2)) fun En σ H ⟨y, r, g, S, G, p⟩ => ?_
    refine ⟨fun m σ H => ∃ y r g, SR X.K y H r σ ∧ Good X.K y H g ∧ PostS X.K X.mg W y H En (loopW (fun r g => (ev gl cl true r c g).bind asB) (fun r g => exs gl cl r b g) m r g), ⟨LIM, y, r, g, S, G, p⟩, ?_⟩
    rintro m σ2 H2 ⟨y2, r2, g2, S2, G2, p2⟩
    cases m with
    | zero => exact p2.elim
    | succ m =>
      unfold loopW at p2
      refine bindP (F := fun r g => (ev gl cl true r c g).bind asB) (IsPost.s (En := En)) S2 G2 p2 fun y3 k g3 v H3 S3 G3 pd e3 p3 => ?_
      subst pd
      cases k with
      | false =>
        simp only [Bool.false_eq_true, if_false] at p3 ⊢
        exact p3 y3 H3 σ2 (Evo.refl _ _) G3 S3
      | true =>
        simp only [if_true] at p3 ⊢
        refine ⟨fun σ' H' => ∃ y r g, SR X.K y H' r σ' ∧ Good X.K y H' g ∧ PostS X.K X.mg W y H' En (loopW (fun r g => (ev gl cl true r c g).bind asB) (fun r g => exs gl cl r b g) m r g), fun σ' H' q => ⟨m, Nat.lt_succ_self _, q⟩, y3, r2, g3, S3, G3, ?_⟩
        exact body_post p3 (fun y' H' σ'' r'' g'' e G S p => ⟨y', r'', g'', S, G, p⟩) (fun y' H' σ'' r'' g'' e G S p => ⟨y', r'', g'', S, G, p⟩)
theorem st_ret (e : E) : MT1 gl cl T (.ret e) := by
  intro X W h x hx
  cases x <;> first | exact absurd (show false = true from hx) Bool.false_ne_true | skip
  rename_i v p
  cases v with
  | none => exact absurd (show false = true from hx) Bool.false_ne_true
  | some v =>
    refine psI (ps_ret ((sound_e e X W h.toHX v hx).1 .v (op_ne rfl))) fun En σ H ⟨y, r, g, S, G, p⟩ => ?_
    exact bindP (F := fun r g => ev gl cl false r e g) (IsPost.s (En := En)) S G p fun y1 d g1 v H1 S1 G1 pd e1 p1 => p1 y1 H1 v (Evo.refl _ _) G1 pd
theorem st_retO (i : Nat) : MT1 gl cl T (.retO i) := by
  intro X W h x hx
  cases x <;> first | exact absurd (show false = true from hx) Bool.false_ne_true | skip
  rename_i v p
  match v, hx with
  | some (.Name z pz), hx =>
    have hx : rdB T X.env.scope i z = true := hx
    unfold rdB at hx
    simp only [Bool.and_eq_true, decide_eq_true_eq] at hx
    obtain ⟨n1, n2, _⟩ := nm_of hx.2
    refine psI (ps_ret (pe_var (i := i) (by rw [h.N]; exact hx.1.1) (vis_of hx.1.2) n1 n2)) fun En σ H ⟨y, r, g, S, G, p⟩ => ?_
    simp only [ex] at p
    cases hi : r[i]? with
    | none => rw [hi] at p; exact p.elim
    | some s =>
      rw [hi] at p
      obtain ⟨o, q1, q2⟩ := S.at_ i _ hi
      cases s with
      | own ds =>
        obtain ⟨b, vs, e1, w, hb, rr⟩ := q2
        refine ⟨.ref b, by rw [q1, e1], p (y.let b) H _ let_evo (G.let b) ?_⟩
        simp only [Rep]
        exact ⟨b, vs, rfl, let_no G w, hb, (Reps.anti let_z ⟨[], by simp [Gh.let]⟩).2 _ _ rr⟩
      | ownK ks ds =>
        obtain ⟨b, vs, e1, w, hb, hl, rr⟩ := q2
        refine ⟨.ref b, by rw [q1, e1], p (y.let b) H _ let_evo (G.let b) ?_⟩
        simp only [Rep]
        exact ⟨b, vs, rfl, let_no G w, hb, hl, (Reps.anti let_z ⟨[], by simp [Gh.let]⟩).2 _ _ rr⟩
      | _ => exact p.elim
theorem st_pass : MT1 gl cl T .pass := by
  intro X W h x hx
  cases x <;> first | exact absurd (show false = true from hx) Bool.false_ne_true | skip
  · rename_i v p
    match v, hx with
    | .Constant (.str z) k p2, _ => exact psI ps_doc fun En σ H ⟨y, r, g, S, G, p⟩ => p y H σ (Evo.refl _ _) G S
  · exact psI ps_pass fun En σ H ⟨y, r, g, S, G, p⟩ => p y H σ (Evo.refl _ _) G S
theorem st_brk : MT1 gl cl T .brk := by
  intro X W h x hx
  cases x <;> first | exact absurd (show false = true from hx) Bool.false_ne_true | skip
  exact psI ps_break fun En σ H ⟨y, r, g, S, G, p⟩ => p y H σ (Evo.refl _ _) G S
theorem st_cont : MT1 gl cl T .cont := by
  intro X W h x hx
  cases x <;> first | exact absurd (show false = true from hx) Bool.false_ne_true | skip
  exact psI ps_continue fun En σ H ⟨y, r, g, S, G, p⟩ => p y H σ (Evo.refl _ _) G S
theorem ts_nil : MTs gl cl T [] := by
  intro X W h xs hx
  cases xs with
  | nil => exact pssI pss_nil fun En σ H ⟨y, r, g, S, G, p⟩ => p y H σ (Evo.refl _ _) G S
  | cons _ _ => exact absurd (show false = true from hx) Bool.false_ne_true
theorem frz_imp {X : Cx} {W : WX} {i : Nat} {ss : List S} {En : Ends} {σ : L2.St} {H : Hp} (q : (tS X.K X.mg W fun r g => exs gl cl r (.frz i :: ss) g) En σ H) : (tS X.K X.mg W fun r g => exs gl cl r ss g) En σ H := by
  obtain ⟨y, r, g, S, G, p⟩ := q
  simp only [exs, ex] at p
  cases hi : r[i]? with
  | none => rw [hi] at p; exact p.elim
  | some s =>
    rw [hi] at p
    obtain ⟨o, q1, q2⟩ := S.at_ i _ hi
    cases s with
    | own ds =>
      obtain ⟨b, vs, e1, w, hb, rr⟩ := q2
      refine ⟨y.let b, r.set i (.fz (.lst ds)), g, S.let G hi rfl (by rw [q1, e1]) ?_, G.let b, PostS.evo let_evo p⟩
      simp only [Rep]
      exact ⟨b, vs, rfl, let_no G w, hb, (Reps.anti let_z ⟨[], by simp [Gh.let]⟩).2 _ _ rr⟩
    | ownK ks ds =>
      obtain ⟨b, vs, e1, w, hb, hl, rr⟩ := q2
      refine ⟨y.let b, r.set i (.fz (.dct ks ds)), g, S.let G hi rfl (by rw [q1, e1]) ?_, G.let b, PostS.evo let_evo p⟩
      simp only [Rep]
      exact ⟨b, vs, rfl, let_no G w, hb, hl, (Reps.anti let_z ⟨[], by simp [Gh.let]⟩).2 _ _ rr⟩
    | _ => exact p.elim
theorem ts_cons {s : S} {ss : List S} (hs : MT1 gl cl T s) (hss : MTs gl cl T ss) : MTs gl cl T (s :: ss) := by
  intro X W h xs hx
  have gen : (∀ i, s ≠ .frz i) → PSs X xs (tS X.K X.mg W fun r g => exs gl cl r (s :: ss) g) := fun hne => by
    cases xs with
    | nil => cases s <;> first | exact absurd rfl (hne _) | exact absurd (show false = true from hx) Bool.false_ne_true
    | cons x xs =>
      have hx2 : (mSt T X.env.scope s x && mSts T X.env.scope ss xs) = true := by cases s <;> first | exact absurd rfl (hne _) | exact hx
      simp only [Bool.and_eq_true] at hx2
      refine pssI (pss_cons (hs X W h x hx2.1) (hss X W h xs hx2.2)) fun En σ H ⟨y, r, g, S, G, p⟩ => ⟨y, r, g, S, G, ?_⟩
      simp only [exs] at p
      dsimp only
      cases e : ex gl cl r s g with
      | bad => rw [e] at p; exact p.elim
      | exc c g' => rw [e] at p; exact p
      | ok o g' =>
        rw [e] at p
        cases o with
        | nx r' => exact fun y' H' σ' e' G' S' => ⟨y', r', g', S', G', PostS.evo e' p⟩
        | bk r' => exact p
        | ct r' => exact p
        | rt d => exact p
  cases s with
  | frz i => exact pssI (hss X W h xs hx) fun En σ H q => frz_imp q
  | _ => exact gen fun i q => nomatch q
theorem sound_ts (ss : List S) : MTs gl cl T ss := by
  refine S.rec_1 (motive_1 := MT1 gl cl T) (motive_2 := MTs gl cl T) ?_ ?_ ?_ ?_ ?_ ?_ ?_ ?_ ?_ ?_ ?_ ?_ ?_ ?_ ?_ ?_ ?_ ?_ ?_ ?_ ?_ ?_ ?_ ss
  · exact st_asg
  · exact st_asgOwn
  · exact st_par
  · exact st_parO
  · exact st_aug
  · exact st_setO
  · exact st_setR
  · exact st_app
  · exact st_appPop
  · exact st_popX
  · exact st_extend
  · exact fun i => st_bad fun sc x => by cases x <;> rfl
  · exact fun c a b ha hb => st_iff ha hb
  · exact fun tg ik its b hb => st_for hb
  · exact fun c b hb => st_while hb
  · exact st_ret
  · exact st_retO
  · exact st_pass
  · exact st_brk
  · exact st_cont
  · exact fun i e a b ha hb => st_walN ha hb
  · exact ts_nil
  · exact fun s ss h hs => ts_cons h hs
end
end Bk
end
section
set_option Elab.async false
set_option linter.all false
set_option maxRecDepth 100000
set_option maxHeartbeats 4000000
namespace Bk
open PySem PySem.Spec PyProof.Rows L2 RZ

/-! ## a function's promise from its body -/
theorem gd_deeper {A : Around} {e : Env} : (A.deeper e).guards = A.guards := rfl
theorem gfn_of {P : Program} {w : World} {K : PySem.W.Frag} {mg : Str → Option Value} {base : Heap} {x qual : Str} {st : Stmt} {f : Addr} {fd : FuncData} {N ps : List Str} {k : Nat} {sp : Sp} (F : Fun K x qual st f fd) (S : FnScope N ps (defScope st)) (len : ∀ vs H Q E, sp vs H Q E → vs.length = ps.length)
    (hbody : ∀ (cdv : Value) (A : Around) (outer : List Env) (s : Shared) (H : Hp) (vs : List V) (Q : VK) (E : XK), Room k (A.deeper (envOfC qual (defScope st) s.heap.objs.size f cdv)) → A.guards = some [] → sp vs H Q E →
      ∃ t, PSs (cxOf (L2.CX P w) P w K mg base N qual (defScope st) f cdv A outer s H E) (defBody st) t ∧ t { nx := fun _ H' => Q .non H', rt := Q } (L2.start N vs) H) : GFn P w K mg base (k + 1) f fd ps sp := by
  obtain ⟨oc, od, kV, doc, pm, an, cdv, ct, osl, rfl, lk, hcd⟩ := F.ex
  refine ⟨len, fun A outer s H args us vs Q E hr hgd e0 hb r hsp => ?_⟩
  have hl := len _ _ _ _ hsp
  have KX : K.In s.heap := e0.mod.kin.keeps fun b o e => (e0.bs b o e).1
  have lim : s.heap.NoLimit := e0.mod.nolimit.keeps fun b o e => (e0.bs b o e).1
  have par : ∀ y ∈ ps.zip us, (defScope st).names.lookup y.1 = some .local ∨ ((defScope st).names.lookup y.1 = some .cell ∧ ((cellsFrom (s.heap.objs.size + 1) (defScope st).names []).lookup y.1).isSome = true) := by
    rintro ⟨n, v⟩ hy
    rcases S.par n (List.of_mem_zip hy).1 with q | q
    · exact .inl q
    · exact .inr ⟨q, PySem.W.cellsFrom_some _ _ _ (.inl q)⟩
  refine codeAny_call_function hr.depth (KX _ _ lk) rfl S.co S.gen rfl (PySem.W.codeRec_of KX hcd) (hb _ _ _ _ (wpAny_newFunctionEnv_cells S.kind par fun env he s1 hx => ?_))
  subst he
  refine ⟨lim.keeps hx.toInCall.keep, codeAny_func ?_⟩
  obtain ⟨t, ht, hq⟩ := hbody cdv A outer s H vs Q E (hr.deeper _) hgd hsp
  refine wpAny_mono (ht.run [] s1 (L2.start N vs) H _ (inv_start S hr.hd e0 hl r hx) hq) (fun fl s' hs => ?_) fun e s' hs => hs
  match fl, hs with
  | .ret u, ⟨v, σ', H', J, rv, q⟩ => exact ⟨v, H', J.os, J.bare, J.base, J.hok, rv, q⟩
  | .next, ⟨σ', H', J, q⟩ => exact ⟨.non, H', J.os, J.bare, J.base, J.hok, rfl, q⟩
  | .brk, ⟨_, _, _, q⟩ => exact False.elim q
  | .cont, ⟨_, _, _, q⟩ => exact False.elim q

/-! ## all functions of a text -/
/-- the i-th function: its place in the heap, its text -/
structure FF (K : PySem.W.Frag) (mg : Str → Option Value) (fs gs : Nat → Option Str) (x : Str) (fn : Fn) : Prop where
  ex : ∃ (qual : Str) (st : Stmt) (fa : Addr) (fd : FuncData) (ps N : List Str), mg x = some (.ref fa) ∧ Fun K x qual st fa fd ∧ Binds K fd ps [] ∧ FnScope N ps (defScope st) ∧ fn.ps = ps.length ∧ fn.ns = N.length ∧ mSts ⟨N, fs, gs⟩ (defScope st) fn.body (defBody st) = true
/-- the ghost of a callee -/
def Gh.seal (y : Gh) : Gh := { A := fun a => y.A a ∨ y.W a, W := fun _ => False, al := y.al }
section
variable {K : PySem.W.Frag} {mg : Str → Option Value} {y y1 : Gh} {H H1 : Hp} {g g1 : List O}
theorem seal_z {a : Addr} : y.seal.Z a ↔ y.Z a := by
  unfold Gh.Z Gh.seal
  constructor
  · rintro ((h | h) | h | h)
    · exact .inl h
    · exact .inr (.inl h)
    · exact h.elim
    · exact .inr (.inr h)
  · rintro (h | h | h)
    · exact .inl (.inl h)
    · exact .inl (.inr h)
    · exact .inr (.inr h)
theorem Good.seal (G : Good K y H g) : Good K y.seal H g := by
  refine ⟨fun a z => G.zok a (seal_z.mp z), fun _ w => w.elim, fun a ha => ⟨fun z => z.elim (G.disj a ha).1 (G.disj a ha).2, fun w => w⟩, G.nd, G.len, fun n a o h1 h2 => ?_, fun a xs z => G.mt a xs (seal_z.mp z)⟩
  have h3 := G.objs n a o h1 h2
  cases o with
  | lst ds =>
    obtain ⟨vs, e1, e2⟩ := h3
    exact ⟨vs, e1, (Reps.anti (fun a z => seal_z.mp z) ⟨[], by simp [Gh.seal]⟩).2 _ _ e2⟩
/-- back in the caller's eyes -/
def Gh.unseal (y y1 : Gh) : Gh := { A := y.A, W := y.W, al := y1.al }
theorem unseal_ext (e : Evo y.seal H y1 H1) : Ext y H (y.unseal y1) H1 := ⟨rfl, rfl, e.pre, fun a o h n => e.keep a o h n fun w => w, e.dom⟩
theorem unseal_z (e : Evo y.seal H y1 H1) : ∀ a, (y.unseal y1).Z a → y1.Z a := fun a z => by
  rcases z with z | z | z
  · exact .inl (by rw [e.eA]; exact .inl z)
  · exact .inl (by rw [e.eA]; exact .inr z)
  · exact .inr (.inr z)
theorem unseal_good (G : Good K y H g) (e : Evo y.seal H y1 H1) (G1 : Good K y1 H1 g1) : Good K (y.unseal y1) H1 g1 := by
  refine ⟨fun a z => G1.zok a (unseal_z e a z), G.aw, fun a ha => ⟨fun z => (G1.disj a ha).1 (by rw [e.eA]; exact .inl z), fun z => (G1.disj a ha).1 (by rw [e.eA]; exact .inr z)⟩, G1.nd, G1.len, fun n a o h1 h2 => ?_, fun a xs z => G1.mt a xs (unseal_z e a z)⟩
  have h3 := G1.objs n a o h1 h2
  cases o with
  | lst ds =>
    obtain ⟨vs, e1, e2⟩ := h3
    exact ⟨vs, e1, (Reps.anti (unseal_z e) ⟨[], by simp [Gh.unseal]⟩).2 _ _ e2⟩
theorem unseal_rep (e : Evo y.seal H y1 H1) {d : D} {v : V} (h : Rep K y1 H1 d v) : Rep K (y.unseal y1) H1 d v := (Reps.anti (unseal_z e) ⟨[], by simp [Gh.unseal]⟩).1 _ _ h
theorem unseal_x (e : Evo y.seal H y1 H1) {x : X} {c : Value} {od : Option Addr} (h : XRep K mg y1 H1 x c od) : XRep K mg (y.unseal y1) H1 x c od := by
  obtain ⟨C, h1, h2, h3⟩ := h
  refine ⟨C, h1, h2, ?_⟩
  rcases h3 with h3 | ⟨f, d, dd, v, a, b, c, z, r⟩
  · exact .inl h3
  · exact .inr ⟨f, d, dd, v, a, b, c, fun q => z (unseal_z e _ q), unseal_rep e r⟩
end
theorem sr_start {K : PySem.W.Frag} {y : Gh} {H : Hp} {N : List Str} {ds : List D} {vs : List V} {n : Nat} (hn : n = N.length) (r : Reps K y H ds vs) (hl : ds.length ≤ n) : SR K y H (ds.map Slot.fz ++ List.replicate (n - ds.length) Slot.no) (L2.start N vs) := by
  have hlen := r.length
  refine ⟨by simp [L2.start, hlen, hn], fun i s q => ?_, fun i j s t b hij h1 h2 o1 o2 => ?_⟩
  · by_cases hi : i < ds.length
    · rw [List.getElem?_append_left (by simpa using hi), List.getElem?_map] at q
      cases hd : ds[i]? with
      | none => rw [hd] at q; cases q
      | some d =>
        rw [hd] at q
        cases q
        obtain ⟨v, e1, e2⟩ := r.at hd
        refine ⟨some v, ?_, v, rfl, e2⟩
        unfold L2.start
        rw [List.getElem?_append_left (by simp; omega), List.getElem?_map, e1]
        rfl
    · rw [List.getElem?_append_right (by simp; omega), List.getElem?_replicate] at q
      split at q
      · rename_i hlt
        cases q
        refine ⟨none, ?_, trivial⟩
        unfold L2.start
        rw [List.getElem?_append_right (by simp; omega), List.getElem?_replicate, if_pos]
        simp at hlt ⊢
        omega
      · cases q
  · have no : ∀ (k : Nat) (u : Slot), (ds.map Slot.fz ++ List.replicate (n - ds.length) Slot.no)[k]? = some u → u.owns = false := fun k u q => by
      have hm := List.mem_of_getElem? q
      rcases List.mem_append.mp hm with h | h
      · obtain ⟨d, _, rfl⟩ := List.mem_map.mp h
        rfl
      · rw [(List.mem_replicate.mp h).2]
        rfl
    rw [no i s h1] at o1
    cases o1
section
variable {P : Program} {w : World} {K : PySem.W.Frag} {mg : Str → Option Value} {base : Heap} {fs gs : Nat → Option Str} {gl : Nat → Option D} {Pf : Nat → Option Fn}
theorem fn_step {n i : Nat} {x qual : Str} {st : Stmt} {fa : Addr} {fd : FuncData} {ps N : List Str} {fn : Fn} (hbn : ∀ s ∈ bnames, mg (Str.ofString s) = none) (hgl : ∀ i d, gl i = some d → ∃ x u v, gs i = some x ∧ mg x = some u ∧ RelV v u ∧ ∀ y H, Rep K y H d v)
    (hp : Pf i = some fn) (F : Fun K x qual st fa fd) (S : FnScope N ps (defScope st)) (e1 : fn.ps = ps.length) (e2 : fn.ns = N.length) (hm : mSts ⟨N, fs, gs⟩ (defScope st) fn.body (defBody st) = true)
    (ih : ∀ i x, fs i = some x → ∃ fa fd ps, mg x = some (.ref fa) ∧ PySem.W.keepIn K (.ref fa) = true ∧ Binds K fd ps [] ∧ (∀ ds g, ds.length ≠ ps.length → callN gl Pf n i ds g = .bad) ∧
      ((∀ ds g, callN gl Pf n i ds g = .bad) ∨ GFn P w K mg base n fa fd ps (spB K mg ps.length (callN gl Pf n i)))) : GFn P w K mg base (n + 1) fa fd ps (spB K mg ps.length (callN gl Pf (n + 1) i)) := by
  refine gfn_of F S (fun vs H Q E h => by obtain ⟨_, _, _, l, _⟩ := h; exact l) fun cdv A outer s H vs Q E hr hgd hsp => ?_
  obtain ⟨y, g, ds, hl, rr, G, q⟩ := hsp
  have hpl : ps.length ≤ N.length := by have := congrArg List.length S.pre; rw [List.length_take] at this; omega
  have hX : HS gl (callN gl Pf n) ⟨N, fs, gs⟩ (cxOf (L2.CX P w) P w K mg base N qual (defScope st) fa cdv A outer s H E) (fun c od _ H' => E c od H') :=
    { N := rfl, nd := S.nd, calm := rfl, units := by have := hr.un; show (A.deeper _).units + 200 < cLine; omega, guards := hgd, bn := hbn, gls := hgl, fns := fun j z hj => by
        obtain ⟨fa, fd, ps, a1, a2, a3, a4, a5⟩ := ih j z hj
        refine ⟨fa, fd, ps, a1, a2, a3, a4, ?_⟩
        rcases a5 with a5 | a5
        · exact .inl a5
        · exact .inr ⟨n, hr, a5⟩,
      tk := takes_of (E := E) rfl rfl rfl rfl, fn := fun _ => rfl, kind := S.kind, pass := passes_of rfl }
  refine ⟨_, sound_ts fn.body _ _ hX (defBody st) hm, ?_⟩
  have hdl : ds.length = fn.ps := by rw [rr.length, hl, e1]
  refine ⟨y.seal, ds.map Slot.fz ++ List.replicate (fn.ns - fn.ps) Slot.no, g, ?_, G.seal, ?_⟩
  · rw [← hdl]
    exact sr_start e2 ((Reps.anti (fun a z => seal_z.mp z) ⟨[], by simp [Gh.seal]⟩).2 _ _ rr) (by omega)
  · have q : match runFn gl (callN gl Pf n) fn ds g with
        | .ok d g' => ∀ y' H' v, Ext y H y' H' → Good K y' H' g' → Rep K y' H' d v → Q v H'
        | .exc x g' => ∀ y' H' c od, Ext y H y' H' → Good K y' H' g' → XRep K mg y' H' x c od → E c od H'
        | .bad => False := by
      simp only [callN, hp] at q
      exact q
    unfold runFn at q
    rw [if_pos hdl] at q
    show PostS K mg _ _ _ _ (exs gl (callN gl Pf n) _ fn.body g)
    cases he : exs gl (callN gl Pf n) (ds.map Slot.fz ++ List.replicate (fn.ns - fn.ps) Slot.no) fn.body g with
    | bad => rw [he] at q; exact q
    | exc z g' => rw [he] at q; exact fun y' H' c od σ' e G' xr => q _ H' c od (unseal_ext e) (unseal_good G e G') (unseal_x e xr)
    | ok o g' =>
      rw [he] at q
      cases o with
      | rt d => exact fun y' H' v e G' r => q _ H' v (unseal_ext e) (unseal_good G e G') (unseal_rep e r)
      | nx r => exact fun y' H' σ' e G' _ => q _ H' .non (unseal_ext e) (unseal_good G e G') (by simp only [Rep])
      | bk r => exact q.elim
      | ct r => exact q.elim
theorem all_fns (hbn : ∀ s ∈ bnames, mg (Str.ofString s) = none) (hgl : ∀ i d, gl i = some d → ∃ x u v, gs i = some x ∧ mg x = some u ∧ RelV v u ∧ ∀ y H, Rep K y H d v)
    (hff : ∀ i x, fs i = some x → ∃ fn, Pf i = some fn ∧ FF K mg fs gs x fn) : ∀ (n : Nat) (i : Nat) (x : Str), fs i = some x → ∃ fa fd ps, mg x = some (.ref fa) ∧ PySem.W.keepIn K (.ref fa) = true ∧ Binds K fd ps [] ∧ (∀ ds g, ds.length ≠ ps.length → callN gl Pf n i ds g = .bad) ∧
      ((∀ ds g, callN gl Pf n i ds g = .bad) ∨ GFn P w K mg base n fa fd ps (spB K mg ps.length (callN gl Pf n i)))
  | 0, i, x, hi => by
    obtain ⟨fn, _, ⟨qual, st, fa, fd, ps, N, h1, F, B, _⟩⟩ := hff i x hi
    exact ⟨fa, fd, ps, h1, F.kp, B, fun _ _ _ => rfl, .inl fun _ _ => rfl⟩
  | n + 1, i, x, hi => by
    obtain ⟨fn, hp, ⟨qual, st, fa, fd, ps, N, h1, F, B, S, e1, e2, hm⟩⟩ := hff i x hi
    refine ⟨fa, fd, ps, h1, F.kp, B, fun ds g hl => ?_, .inr (fn_step hbn hgl hp F S e1 e2 hm fun j z hj => all_fns hbn hgl hff n j z hj)⟩
    simp only [callN, hp, runFn]
    rw [if_neg (by rw [e1]; exact hl)]
/-- the law's own def, with its object -/
theorem law_fn {n i : Nat} {x qual : Str} {st : Stmt} {fa : Addr} {fd : FuncData} {ps N : List Str} {fn : Fn} (hbn : ∀ s ∈ bnames, mg (Str.ofString s) = none) (hgl : ∀ i d, gl i = some d → ∃ x u v, gs i = some x ∧ mg x = some u ∧ RelV v u ∧ ∀ y H, Rep K y H d v)
    (hff : ∀ i x, fs i = some x → ∃ fn, Pf i = some fn ∧ FF K mg fs gs x fn)
    (hp : Pf i = some fn) (F : Fun K x qual st fa fd) (S : FnScope N ps (defScope st)) (e1 : fn.ps = ps.length) (e2 : fn.ns = N.length) (hm : mSts ⟨N, fs, gs⟩ (defScope st) fn.body (defBody st) = true) : GFn P w K mg base (n + 1) fa fd ps (spB K mg ps.length (callN gl Pf (n + 1) i)) :=
  fn_step hbn hgl hp F S e1 e2 hm fun j z hj => all_fns hbn hgl hff n j z hj
end

/-! ## the law's end -/
def Gh.none : Gh := { A := fun _ => False, W := fun _ => False, al := [] }
theorem none_z (a : Addr) : ¬ Gh.none.Z a := fun z => by
  rcases z with z | z | z
  · exact z
  · exact z
  · cases z
theorem law_callB {P : Program} {w : World} {K : PySem.W.Frag} {mg mb : Str → Option Value} {k : Nat} {fa a : Addr} {fd : FuncData} {x : Str} {Fl : List D → List O → Res D} {s₁ : Shared} {vs : List Value} {ns : List Int}
    (KX : K.In s₁.heap) (hns : s₁.heap.Ns mainGlobals mg) (hb : s₁.heap.Ns builtinsNs mb) (hbb : ∀ x : Str, x ≠ "__name__" → mb x = bootBuiltins x) (hlim : s₁.heap.NoLimit) (hg : s₁.gens = #[])
    (ha : s₁.heap.get? a = some { cls := .type "list", data := .seq vs.toArray }) (hi : IntsAre vs ns) (hl : ns.length ≤ sizeLine) (hr : Room k callerA)
    (F : ∀ base : Heap, K.In base → base.Ns mainGlobals mg → GFn P w K mg base k fa fd [x] (spB K mg 1 Fl)) (hbind : ∀ (s : Shared) (u : Value), BindsTo s fd ⟨[u], []⟩ [(x, u)])
    (hlaw : ∃ g', Fl [.scr ns] [] = .ok (.bl true) g') :
    codeAny (model P w) callerA (.call (.ref fa) ⟨[.ref a], []⟩) (fun r s' => r = .ok (.ret (.bool true)) ∧ OldK s₁.heap s'.heap ∧ s'.os = s₁.os ∧ AllBare s'.gens) s₁ := by
  have rv := vals_ints hi
  obtain ⟨g', hfl⟩ := hlaw
  have core : ∀ H : Hp, Only H → ScrAt K Gh.none H a (ns.map V.int) → HOk P w H s₁.heap → (∀ b u, H b = some u → b = a) → (∀ u, H a = some u → K.lookup a = .none) →
      codeAny (model P w) callerA (.call (.ref fa) ⟨[.ref a], []⟩) (fun r s' => r = .ok (.ret (.bool true)) ∧ OldK s₁.heap s'.heap ∧ s'.os = s₁.os ∧ AllBare s'.gens) s₁ := by
    intro H hO hS hok hA hK
    -- what the base keeps: all but the script
    have kp : ∀ {b : Addr} {o : Obj}, s₁.heap.get? b = some o → (H b = .none) → (hidT s₁.heap H).get? b = some o := fun e n => hidT_get e n
    have dictN : ∀ {b : Addr} {o : Obj} {es : Array DictEntry} {ep : Nat}, s₁.heap.get? b = some o → o.data = .dict es ep → H b = .none := by
      intro b o es ep e d
      cases q : H b with
      | none => rfl
      | some u =>
        have eb := hA b u q
        subst eb
        rw [ha] at e
        cases e
        exact nomatch (show Data.seq vs.toArray _ = Data.dict es ep from d)
    have ns1 : ∀ {b : Addr} {m : Str → Option Value}, s₁.heap.Ns b m → (hidT s₁.heap H).Ns b m := by
      rintro b m ⟨o, es, ep, e, d, r⟩
      exact ⟨o, es, ep, kp e (dictN e d), d, r⟩
    have kin : K.In (hidT s₁.heap H) := by
      intro b o e
      refine kp (KX b o e) ?_
      cases q : H b with
      | none => rfl
      | some u =>
        have eb := hA b u q
        subst eb
        rw [hK u q] at e; cases e
    obtain ⟨mc, c1, c2⟩ := hlim
    have md : Mod K mg (hidT s₁.heap H) := ⟨kin, ns1 hns, ⟨mb, ns1 hb, hbb⟩, ⟨mc, ns1 c1, c2⟩⟩
    have e0 : Env0 P w K mg (hidT s₁.heap H) callerA [] s₁ H := ⟨rfl, md, fun b o e => of_hidT e, Nat.le_of_eq (hidT_size _ _), trivial, fun b hb => (nomatch (show b ∈ ([] : List Addr) from hb)), hok, .of_eq hg⟩
    have hsp : spB K mg 1 Fl [.ref a] H (fun v _ => v = .bl true) fun _ _ _ => False := by
      refine ⟨Gh.none, [], [.scr ns], rfl, .cons ?_ .nil, ⟨fun b z => (none_z b z).elim, fun _ w => w.elim, fun b hb => (nomatch hb), .nil, rfl, fun n b o h => by simp [Gh.none] at h, fun b xs z => (none_z b z).elim⟩, ?_⟩
      · simp only [Rep]
        exact ⟨a, rfl, hS⟩
      · rw [hfl]
        intro y' H' v _ _ r
        simpa only [Rep] using r
    refine codeAny_mono ((F _ kin (ns1 hns)).run callerA [] s₁ H ⟨[.ref a], []⟩ [.ref a] [.ref a] _ _ hr rfl e0 (hbind s₁ (.ref a)) (.cons rfl .nil) hsp) fun r s' h => ?_
    match r, h with
    | .error e, h =>
      obtain ⟨_, _, _, _, _, _, _, _, _, _, _, _, z⟩ := (show L2.CX P w [] H s₁ (fun _ _ _ => False) e s' from h)
      exact z.elim
    | .ok .next, h => exact False.elim h
    | .ok .brk, h => exact False.elim h
    | .ok .cont, h => exact False.elim h
    | .ok (.ret u), ⟨v, H', os, bare, un, hok', rv', q⟩ =>
      have q : v = .bl true := q
      subst q
      obtain rfl : u = Value.bool true := rv'
      refine ⟨rfl, OldK.of_keep fun b o e => ?_, os, bare⟩
      cases q : H b with
      | none => exact un.keep b o e q (fun z => nomatch (show b ∈ ([] : List Addr) from z)) (by simp)
      | some u =>
        rcases hO b with z | ⟨ob, xs, z⟩
        · rw [q] at z; cases z
        · obtain ⟨e1, _⟩ := hok b _ z
          obtain ⟨e2, _⟩ := hok' b _ (un.frzs b ob _ z)
          rw [e] at e1; cases e1
          exact e2
  have hsz : vs.toArray.size ≤ sizeLine := by rw [List.size_toArray, hi.length]; exact hl
  cases hk : K.lookup a with
  | some o =>
    have e := KX a o hk
    rw [ha] at e
    cases e
    exact core (fun _ => .none) (fun _ => .inl rfl) (.inr ⟨_, vs.toArray, _, hk, rfl, rfl, rfl, hsz, by simpa using rv⟩) (fun b u z => nomatch z) (fun b u z => nomatch z) fun u z => nomatch z
  | none =>
    generalize hob : ({ cls := .type "list", data := .seq vs.toArray } : Obj) = ob at ha
    have hH : ∀ b u, upd (fun _ => Option.none) a (.frz ob (.lst (ns.map V.int))) b = some u → b = a ∧ u = .frz ob (.lst (ns.map V.int)) := fun b u z => by
      by_cases e : b = a
      · subst e; rw [upd_same] at z; cases z; exact ⟨rfl, rfl⟩
      · rw [upd_ne e] at z; cases z
    have ok : HOk P w (upd (fun _ => Option.none) a (.frz ob (.lst (ns.map V.int)))) s₁.heap := fun b u z => by
      obtain ⟨e1, e2⟩ := hH b u z
      subst e1 e2
      exact ⟨ha, by rw [List.length_map]; exact hl, vs, _, rv, by rw [ha, ← hob]⟩
    rw [← hob] at ha
    exact core _ (fun b => by
      by_cases e : b = a
      · subst e; exact .inr ⟨ob, _, upd_same⟩
      · exact .inl (upd_ne e)) (.inl ⟨none_z a, ob, upd_same⟩) ok (fun b u z => (hH b u z).1) fun u _ => hk
theorem walkB {l : PySem.W.OpenLaw} {n k : Nat} {q : Program} {loose : List Str} {XP : (Str → Option Value) → Heap → Prop} {YP : World → Heap → Prop} {d : DefRec} {K : Params → PySem.W.Frag} {Fl : List D → List O → Res D} {x : Str}
    (hn : l.most = some n) (hn2 : n ≤ sizeLine) (hdf : d.params.defaults = []) (hr : Room k callerA)
    (hY : ∀ (w : World) (h : Heap), YP w h → (K w.params).In h)
    (F : ∀ (w : World) (mg : Str → Option Value) (fa : Addr) (h : Heap), (K w.params).In h → h.Ns mainGlobals mg → mg d.name = some (.ref fa) →
      ∃ fd : FuncData, (∀ (s : Shared) (u : Value), BindsTo s fd ⟨[u], []⟩ [(x, u)]) ∧
        ∀ base : Heap, (K w.params).In base → base.Ns mainGlobals mg → GFn l.prog w (K w.params) mg base k fa fd [x] (spB (K w.params) mg 1 Fl))
    (hlaw : ∀ ns : List Int, ns.length ≤ n → ∃ g', Fl [.scr ns] [] = .ok (.bl true) g') :
    PySem.W.WalkO q loose XP YP l.row.toRowW d [] (fun f vs => PySem.call f vs) := by
  refine Att.attach_call hn hdf fun w s₀ s₁ mg mb fa o pm cd doc a vs ns G Y ho hd hcd hmg hobj hints hlen hg => ?_
  have KX := hY w _ Y
  obtain ⟨fd, hb, hF⟩ := F w mg fa _ KX G.T.g hmg
  exact law_callB KX G.T.g G.T.b G.T.builtins G.T.nolimit hg hobj hints (Nat.le_trans hlen hn2) hr hF hb (hlaw ns hlen)
end Bk
end
section
set_option Elab.async false
set_option linter.all false
set_option maxRecDepth 100000
set_option maxHeartbeats 4000000
namespace Bk
open PySem L2
/-! ## the evaluator, read backwards -/
@[irreducible] def Okx {α : Type} (R : Res α) (Q : α → List O → Prop) (E : X → List O → Prop) : Prop := match R with
  | .ok a g => Q a g
  | .exc x g => E x g
  | .bad => False
abbrev NoX : X → List O → Prop := fun _ _ => False
section
variable {α β : Type} {R : Res α} {Q Q' : α → List O → Prop} {E E' : X → List O → Prop} {g : List O}
theorem okx_ok {a : α} : Okx (.ok a g) Q E = Q a g := by unfold Okx; rfl
theorem okx_bad : Okx (.bad : Res α) Q E = False := by unfold Okx; rfl
theorem okx_exc {x : X} : Okx (.exc x g : Res α) Q E = E x g := by unfold Okx; rfl
theorem okx_bind {F : β → List O → Res α} {S : Res β} : Okx (S.bind F) Q E = Okx S (fun b g => Okx (F b g) Q E) E := by unfold Okx; cases S <;> rfl
theorem okx_lift {o : Option α} : Okx (lift o g) Q E = ∃ a, o = some a ∧ Q a g := by
  cases o with
  | none => simp [lift, okx_bad]
  | some a => simp [lift, okx_ok]
theorem okx_if {c : Prop} [Decidable c] {a b : Res α} : Okx (if c then a else b) Q E = if c then Okx a Q E else Okx b Q E := by split <;> rfl
theorem okx_noX : Okx (noX R) Q E = Okx R Q NoX := by unfold Okx; cases R <;> rfl
theorem Okx.mono (h : Okx R Q E) (k : ∀ a g, Q a g → Q' a g) (k2 : ∀ x g, E x g → E' x g) : Okx R Q' E' := by
  unfold Okx at h ⊢
  cases R with
  | ok a g => exact k a g h
  | exc x g => exact k2 x g h
  | bad => exact h.elim
/-- nothing is raised -/
theorem Okx.to (h : Okx R Q NoX) (k : ∀ a g, Q a g → Q' a g) : Okx R Q' E := h.mono k fun _ _ q => q.elim
theorem Okx.ex (h : Okx R Q NoX) : ∃ a g, R = .ok a g ∧ Q a g := by
  unfold Okx at h
  cases R with
  | ok a g => exact ⟨a, g, rfl, h⟩
  | _ => exact h.elim
theorem okx_asB {d : D} {Q : Bool → List O → Prop} : Okx (asB d g) Q E = ∃ b, d = .bl b ∧ Q b g := by
  cases d <;> simp [asB, okx_ok, okx_bad]
theorem okx_eq {a : α} (h : Okx R (fun b g' => b = a ∧ g' = g) NoX) : R = .ok a g := by
  unfold Okx at h
  cases R with
  | ok b g' => obtain ⟨rfl, rfl⟩ := h; rfl
  | exc x g' => cases h
  | bad => cases h
theorem okx_of {a : α} (e : R = .ok a g) (h : Q a g) : Okx R Q E := by rw [e, okx_ok]; exact h
end
section
variable {E : X → List O → Prop} {g : List O}
/-- a comprehension: an invariant over what is done -/
theorem okx_loopC {f : List D → D → List O → Res (List D)} {Q : List D → List O → Prop} (I : Nat → List D → List O → Prop) {xs : List D} (h0 : I 0 [] g)
    (hs : ∀ i d acc g, xs[i]? = some d → I i acc g → Okx (f acc d g) (I (i + 1)) E) (hd : ∀ acc g, I xs.length acc g → Q acc g) : Okx (loopC f xs [] g) Q E := by
  have go : ∀ (ys : List D) (i : Nat) (acc : List D) (g : List O), xs.drop i = ys → i ≤ xs.length → I i acc g → Okx (loopC f ys acc g) Q E := by
    intro ys
    induction ys with
    | nil =>
      intro i acc g hx hi h
      have : xs.length ≤ i := by
        have := congrArg List.length hx
        simp at this
        omega
      have e : i = xs.length := by omega
      subst e
      unfold loopC; rw [okx_ok]; exact hd acc g h
    | cons d ys ih =>
      intro i acc g hx hi h
      have hlt : i < xs.length := by
        by_cases q : i < xs.length
        · exact q
        · rw [List.drop_eq_nil_of_le (by omega)] at hx; cases hx
      rw [List.drop_eq_getElem_cons hlt] at hx
      injection hx with e1 e2
      unfold loopC
      rw [okx_bind]
      exact (hs i d acc g (by rw [List.getElem?_eq_getElem hlt, e1]) h).mono (fun acc' g' h' => ih (i + 1) acc' g' e2 hlt h') fun _ _ q => q
  exact go xs 0 [] g rfl (Nat.zero_le _) h0
/-- a for: the same -/
theorem okx_loopF {f : List Slot → D → List O → Res Out} {Q : Out → List O → Prop} (I : Nat → List Slot → List O → Prop) {xs : List D} {r : List Slot} (h0 : I 0 r g)
    (hs : ∀ i d r g, xs[i]? = some d → I i r g → Okx (f r d g) (fun o g' => match o with
      | .nx r' => I (i + 1) r' g'
      | .ct r' => I (i + 1) r' g'
      | .bk r' => Q (.nx r') g'
      | .rt d => Q (.rt d) g') E) (hd : ∀ r g, I xs.length r g → Q (.nx r) g) : Okx (loopF f xs r g) Q E := by
  have go : ∀ (ys : List D) (i : Nat) (r : List Slot) (g : List O), xs.drop i = ys → i ≤ xs.length → I i r g → Okx (loopF f ys r g) Q E := by
    intro ys
    induction ys with
    | nil =>
      intro i r g hx hi h
      have : xs.length ≤ i := by
        have := congrArg List.length hx
        simp at this
        omega
      have e : i = xs.length := by omega
      subst e
      unfold loopF; rw [okx_ok]; exact hd r g h
    | cons d ys ih =>
      intro i r g hx hi h
      have hlt : i < xs.length := by
        by_cases q : i < xs.length
        · exact q
        · rw [List.drop_eq_nil_of_le (by omega)] at hx; cases hx
      rw [List.drop_eq_getElem_cons hlt] at hx
      injection hx with e1 e2
      unfold loopF
      rw [okx_bind]
      refine (hs i d r g (by rw [List.getElem?_eq_getElem hlt, e1]) h).mono (fun o g' h' => ?_) fun _ _ q => q
      cases o with
      | nx r' => exact ih (i + 1) r' g' e2 hlt h'
      | ct r' => exact ih (i + 1) r' g' e2 hlt h'
      | bk r' => exact (okx_ok ▸ h' : Okx (.ok (Out.nx r') g') Q E)
      | rt d => exact (okx_ok ▸ h' : Okx (.ok (Out.rt d) g') Q E)
  exact go xs 0 r g rfl (Nat.zero_le _) h0
section
variable {α : Type} {l : List α} {enc : α → D}
theorem enc_get {i : Nat} {d : D} (h : (l.map enc)[i]? = some d) : ∃ a, l[i]? = some a ∧ d = enc a := by
  rw [List.getElem?_map] at h
  cases q : l[i]? with
  | none => rw [q] at h; cases h
  | some a => rw [q] at h; cases h; exact ⟨a, rfl, rfl⟩
/-- a comprehension that changes nothing -/
theorem okx_compM {f : List D → D → List O → Res (List D)} {Q : List D → List O → Prop} (F : α → List D) (hl : l.length < 1000000) (h1 : ∀ a, (F a).length ≤ 1)
    (hs : ∀ a acc, a ∈ l → acc.length < LIM → Okx (f acc (enc a) g) (fun r g' => r = acc ++ F a ∧ g' = g) E) (q : Q (l.flatMap F) g) : Okx (loopC f (l.map enc) [] g) Q E := by
  refine okx_loopC (fun i acc g' => g' = g ∧ acc = (l.take i).flatMap F ∧ acc.length ≤ i) ⟨rfl, rfl, Nat.le_refl _⟩ ?_ ?_
  · rintro i d acc g' hi ⟨rfl, hacc, hln⟩
    obtain ⟨a, ha, rfl⟩ := enc_get hi
    have hil : i < l.length := (List.getElem?_eq_some_iff.mp ha).1
    refine (hs a acc (List.mem_of_getElem? ha) (show acc.length < 1000000 by omega)).mono (fun r g' ⟨e1, e2⟩ => ⟨e2, ?_, ?_⟩) fun _ _ q => q
    · rw [e1, hacc, List.take_succ, ha, List.flatMap_append]
      simp
    · rw [e1, List.length_append]
      have := h1 a
      omega
  · rintro acc g' ⟨rfl, hacc, _⟩
    rw [List.length_map, List.take_length] at hacc
    rw [hacc]
    exact q
theorem flat_filter {p : α → Bool} {k : α → D} : ∀ l : List α, l.flatMap (fun a => if p a = true then [k a] else []) = (l.filter p).map k
  | [] => rfl
  | a :: l => by
    rw [List.flatMap_cons, flat_filter l, List.filter_cons]
    split <;> rfl
theorem flat_map {k : α → D} : ∀ l : List α, l.flatMap (fun a => [k a]) = l.map k
  | [] => rfl
  | a :: l => by rw [List.flatMap_cons, flat_map l]; rfl
/-- .. with a test -/
theorem okx_filter {f : List D → D → List O → Res (List D)} {Q : List D → List O → Prop} (p : α → Bool) (k : α → D) (hl : l.length < 1000000)
    (hs : ∀ a acc, a ∈ l → acc.length < LIM → Okx (f acc (enc a) g) (fun r g' => r = acc ++ (if p a = true then [k a] else []) ∧ g' = g) E) (q : Q ((l.filter p).map k) g) : Okx (loopC f (l.map enc) [] g) Q E :=
  okx_compM (fun a => if p a = true then [k a] else []) hl (fun a => by split <;> simp) hs (by rw [flat_filter]; exact q)
/-- .. item by item -/
theorem okx_map {f : List D → D → List O → Res (List D)} {Q : List D → List O → Prop} (k : α → D) (hl : l.length < 1000000)
    (hs : ∀ a acc, a ∈ l → acc.length < LIM → Okx (f acc (enc a) g) (fun r g' => r = acc ++ [k a] ∧ g' = g) E) (q : Q (l.map k) g) : Okx (loopC f (l.map enc) [] g) Q E :=
  okx_compM (fun a => [k a]) hl (fun a => by simp) hs (by rw [flat_map]; exact q)
/-- a comprehension that draws: what is made is told by p -/
theorem okx_compS {f : List D → D → List O → Res (List D)} {Q : List D → List O → Prop} (I : Nat → List O → Prop) (p : D → Prop) (hl : l.length < 1000000) (h0 : I 0 g)
    (hs : ∀ i a acc g, l[i]? = some a → I i g → acc.length < LIM → Okx (f acc (enc a) g) (fun r g' => I (i + 1) g' ∧ ∃ ds, r = acc ++ ds ∧ ds.length ≤ 1 ∧ ∀ d ∈ ds, p d) E)
    (q : ∀ ds g', I l.length g' → ds.length ≤ l.length → (∀ d ∈ ds, p d) → Q ds g') : Okx (loopC f (l.map enc) [] g) Q E := by
  refine okx_loopC (fun i acc g' => I i g' ∧ acc.length ≤ i ∧ ∀ d ∈ acc, p d) ⟨h0, Nat.le_refl _, fun d hd => nomatch hd⟩ ?_ ?_
  · rintro i d acc g' hi ⟨h1, hln, hp⟩
    obtain ⟨a, ha, rfl⟩ := enc_get hi
    have hil : i < l.length := (List.getElem?_eq_some_iff.mp ha).1
    refine (hs i a acc g' ha h1 (show acc.length < 1000000 by omega)).mono (fun r g' ⟨e1, ds, e2, e3, e4⟩ => ⟨e1, ?_, ?_⟩) fun _ _ q => q
    · rw [e2, List.length_append]; omega
    · intro d hd
      rw [e2] at hd
      rcases List.mem_append.mp hd with h | h
      · exact hp d h
      · exact e4 d h
  · rintro acc g' ⟨h1, hln, hp⟩
    rw [List.length_map] at h1 hln
    exact q acc g' h1 hln hp
/-- .. one each time -/
theorem okx_compE {f : List D → D → List O → Res (List D)} {Q : List D → List O → Prop} (I : Nat → List O → Prop) (p : D → Prop) (hl : l.length < 1000000) (h0 : I 0 g)
    (hs : ∀ i a acc g, l[i]? = some a → I i g → acc.length < LIM → Okx (f acc (enc a) g) (fun r g' => I (i + 1) g' ∧ ∃ d, r = acc ++ [d] ∧ p d) E)
    (q : ∀ ds g', I l.length g' → ds.length = l.length → (∀ d ∈ ds, p d) → Q ds g') : Okx (loopC f (l.map enc) [] g) Q E := by
  refine okx_loopC (fun i acc g' => I i g' ∧ acc.length = i ∧ ∀ d ∈ acc, p d) ⟨h0, rfl, fun d hd => nomatch hd⟩ ?_ ?_
  · rintro i d acc g' hi ⟨h1, hln, hp⟩
    obtain ⟨a, ha, rfl⟩ := enc_get hi
    have hil : i < l.length := (List.getElem?_eq_some_iff.mp ha).1
    refine (hs i a acc g' ha h1 (show acc.length < 1000000 by omega)).mono (fun r g' ⟨e1, d, e2, e4⟩ => ⟨e1, ?_, ?_⟩) fun _ _ q => q
    · rw [e2, List.length_append, hln]; rfl
    · intro z hd
      rw [e2] at hd
      rcases List.mem_append.mp hd with h | h
      · exact hp z h
      · rw [List.mem_singleton.mp h]; exact e4
  · rintro acc g' ⟨h1, hln, hp⟩
    rw [List.length_map] at h1 hln
    exact q acc g' h1 hln hp
/-- .. over values -/
theorem okx_mapD {f : List D → D → List O → Res (List D)} {Q : List D → List O → Prop} {xs : List D} (k : D → D) (hl : xs.length < 1000000)
    (hs : ∀ a acc, a ∈ xs → acc.length < LIM → Okx (f acc a g) (fun r g' => r = acc ++ [k a] ∧ g' = g) E) (q : Q (xs.map k) g) : Okx (loopC f xs [] g) Q E := by
  have := okx_map (l := xs) (enc := fun d => d) (f := f) (Q := Q) (E := E) k hl hs q
  rwa [List.map_id'] at this
theorem okx_filterD {f : List D → D → List O → Res (List D)} {Q : List D → List O → Prop} {xs : List D} (p : D → Bool) (k : D → D) (hl : xs.length < 1000000)
    (hs : ∀ a acc, a ∈ xs → acc.length < LIM → Okx (f acc a g) (fun r g' => r = acc ++ (if p a = true then [k a] else []) ∧ g' = g) E) (q : Q ((xs.filter p).map k) g) : Okx (loopC f xs [] g) Q E := by
  have := okx_filter (l := xs) (enc := fun d => d) (f := f) (Q := Q) (E := E) p k hl hs q
  rwa [List.map_id'] at this
/-- a for over what is listed -/
theorem okx_for {f : List Slot → D → List O → Res Out} {Q : Out → List O → Prop} (I : Nat → List Slot → List O → Prop) {r : List Slot} (h0 : I 0 r g)
    (hs : ∀ i a r g, l[i]? = some a → I i r g → Okx (f r (enc a) g) (fun o g' => match o with
      | .nx r' => I (i + 1) r' g'
      | .ct r' => I (i + 1) r' g'
      | .bk r' => Q (.nx r') g'
      | .rt d => Q (.rt d) g') E) (hd : ∀ r g, I l.length r g → Q (.nx r) g) : Okx (loopF f (l.map enc) r g) Q E :=
  okx_loopF I h0 (fun i d r g hi h => by
    obtain ⟨a, ha, rfl⟩ := enc_get hi
    exact hs i a r g ha h) (by rw [List.length_map]; exact hd)
end
/-- a while: a measure m that falls -/
theorem okx_loopW {c : List Slot → List O → Res Bool} {f : List Slot → List O → Res Out} {Q : Out → List O → Prop} (I : Nat → List Slot → List O → Prop) {n m : Nat} (hm : m < n) {r : List Slot} (h0 : I m r g)
    (hs : ∀ m r g, I m r g → Okx (c r g) (fun b g' => if b = true then Okx (f r g') (fun o g'' => match o with
      | .nx r' => ∃ m', m' < m ∧ I m' r' g''
      | .ct r' => ∃ m', m' < m ∧ I m' r' g''
      | .bk r' => Q (.nx r') g''
      | .rt d => Q (.rt d) g'') E else Q (.nx r) g') E) : Okx (loopW c f n r g) Q E := by
  induction n generalizing m r g with
  | zero => omega
  | succ n ih =>
    unfold loopW
    rw [okx_bind]
    refine (hs m r g h0).mono (fun b g' h => ?_) fun _ _ q => q
    cases b with
    | false => rw [if_neg Bool.false_ne_true, okx_ok]; rw [if_neg Bool.false_ne_true] at h; exact h
    | true =>
      rw [if_pos rfl, okx_bind]
      rw [if_pos rfl] at h
      refine h.mono (fun o g'' h' => ?_) fun _ _ q => q
      cases o with
      | nx r' => obtain ⟨m', h1, h2⟩ := h'; exact ih (by omega) h2
      | ct r' => obtain ⟨m', h1, h2⟩ := h'; exact ih (by omega) h2
      | bk r' => exact (okx_ok ▸ h' : Okx (.ok (Out.nx r') g'') Q E)
      | rt d => exact (okx_ok ▸ h' : Okx (.ok (Out.rt d) g'') Q E)
/-- a function's call, to its body -/
theorem okx_call {gl : Nat → Option D} {Pf : Nat → Option Fn} {f n : Nat} {fn : Fn} {ds : List D} {Q : D → List O → Prop} (hP : Pf f = some fn) (hl : ds.length = fn.ps)
    (h : Okx (exs gl (callN gl Pf n) (ds.map Slot.fz ++ List.replicate (fn.ns - fn.ps) Slot.no) fn.body g) (fun o g' => match o with
      | .rt d => Q d g'
      | .nx _ => Q .non g'
      | _ => False) E) : Okx (callN gl Pf (n + 1) f ds g) Q E := by
  unfold callN
  rw [hP]
  simp only [runFn]
  rw [if_pos hl, okx_bind]
  refine h.mono (fun o g' h' => ?_) fun _ _ q => q
  cases o with
  | rt d => rw [okx_ok]; exact h'
  | nx r => rw [okx_ok]; exact h'
  | bk r => exact h'.elim
  | ct r => exact h'.elim
end
theorem lookup_mem {α : Type} {l : List (Nat × α)} {i : Nat} {x : α} (h : l.lookup i = some x) : (i, x) ∈ l := by
  induction l with
  | nil => cases h
  | cons p l ih =>
    obtain ⟨j, y⟩ := p
    rw [List.lookup_cons] at h
    split at h
    · rename_i e
      have e : i = j := by simpa using e
      subst e
      cases h
      exact List.mem_cons_self
    · exact List.mem_cons_of_mem _ (ih h)
/-- statements are opened only where the slots are known -/
theorem exs_c {gl : Nat → Option D} {cl : Nat → List D → List O → Res D} {a : Slot} {r : List Slot} {s : S} {ss : List S} {g : List O} : exs gl cl (a :: r) (s :: ss) g = (ex gl cl (a :: r) s g).bind fun o g => match o with
    | .nx r => exs gl cl r ss g
    | o => .ok o g := by simp only [exs] <;> rfl
theorem exs_n {gl : Nat → Option D} {cl : Nat → List D → List O → Res D} {r : List Slot} {g : List O} : exs gl cl r [] g = .ok (.nx r) g := by simp only [exs]
/-! ## the operations on known values -/
section
variable {i j : Int} {xs ys : List D} {x y : Str} {a b : Bool} {d : D} {g : List O} {n : Nat}
theorem bo_add : binop .add (.int i) (.int j) = some (.int (i + j)) := rfl
theorem bo_sub : binop .sub (.int i) (.int j) = some (.int (i - j)) := rfl
theorem bo_mul (h : (-(2 ^ 64) < i ∧ i < 2 ^ 64) ∨ (-(2 ^ 64) < j ∧ j < 2 ^ 64)) : binop .mul (.int i) (.int j) = some (.int (i * j)) := by simp only [binop]; rw [if_pos h]
theorem bo_fdiv (h : 0 < j ∧ j < 2 ^ 64) : binop .fdiv (.int i) (.int j) = some (.int (i / j)) := by simp only [binop]; rw [if_pos h]
theorem bo_mod (h : 0 < j) : binop .mod (.int i) (.int j) = some (.int (i % j)) := by simp only [binop]; rw [if_pos h]
theorem bo_shr (h : 0 ≤ j) : binop .shr (.int i) (.int j) = some (.int (i / 2 ^ j.toNat)) := by simp only [binop]; rw [if_pos h]
theorem bo_shl (h : 0 ≤ j ∧ j ≤ 1000 ∧ i.natAbs < 2 ^ 64) : binop .shl (.int i) (.int j) = some (.int (i * 2 ^ j.toNat)) := by simp only [binop]; rw [if_pos h]
theorem bo_pow (h : 0 ≤ j ∧ j ≤ 1000 ∧ i.natAbs < 2 ^ 64) : binop .pow (.int i) (.int j) = some (.int (i ^ j.toNat)) := by simp only [binop]; rw [if_pos h]
theorem bo_p6 : binop .pow (.int 10) (.int 6) = some (.int 1000000) := rfl
theorem bo_p8 : binop .pow (.int 10) (.int 8) = some (.int 100000000) := rfl
theorem bo_p18 : binop .pow (.int 10) (.int 18) = some (.int 1000000000000000000) := rfl
theorem bo_p39 : binop .pow (.int 10) (.int 39) = some (.int 1000000000000000000000000000000000000000) := rfl
theorem bo_tup (h : xs.length + ys.length ≤ LIM) : binop .add (.tup xs) (.tup ys) = some (.tup (xs ++ ys)) := by simp only [binop, mkT]; rw [if_pos (by rw [List.length_append]; exact h)]
theorem bo_lst (h : xs.length + ys.length ≤ LIM) : binop .add (.lst xs) (.lst ys) = some (.lst (xs ++ ys)) := by simp only [binop, mkL]; rw [if_pos (by rw [List.length_append]; exact h)]
theorem co_lt : cmpop .lt (.int i) (.int j) = some (decide (i < j)) := rfl
theorem co_le : cmpop .le (.int i) (.int j) = some (decide (i ≤ j)) := rfl
theorem co_gt : cmpop .gt (.int i) (.int j) = some (decide (j < i)) := rfl
theorem co_ge : cmpop .ge (.int i) (.int j) = some (decide (j ≤ i)) := rfl
theorem co_eqs : cmpop .eq (.str x) (.str y) = some (x == y) := rfl
theorem co_nes : cmpop .ne (.str x) (.str y) = some (!(x == y)) := rfl
theorem co_eqL : cmpop .eq (.lst xs) (.lst []) = some xs.isEmpty := rfl
theorem co_neL : cmpop .ne (.lst xs) (.lst []) = some (!xs.isEmpty) := rfl
theorem co_eqT : cmpop .eq (.tup xs) (.tup []) = some xs.isEmpty := rfl
theorem co_neT : cmpop .ne (.tup xs) (.tup []) = some (!xs.isEmpty) := rfl
theorem co_eqi : cmpop .eq (.int i) (.int j) = some (decide (i = j)) := rfl
theorem co_nei : cmpop .ne (.int i) (.int j) = some (!(decide (i = j))) := rfl
theorem co_isN : cmpop .isN d .non = some d.isNon := by cases d <;> rfl
theorem co_notN : cmpop .notN d .non = some (!d.isNon) := by cases d <;> rfl
theorem co_isB : cmpop .isB (.bl a) (.bl b) = some (decide (a = b)) := rfl
theorem co_notB : cmpop .notB (.bl a) (.bl b) = some (!decide (a = b)) := rfl
theorem bg_of {f : Bi} (h : f ≠ .len) : biG g f xs = biD f xs := by
  unfold biG
  split
  · exact absurd rfl h
  · rfl
theorem bg_lenL : biG g .len [.lst xs] = some (.int xs.length) := rfl
theorem bg_lenT : biG g .len [.tup xs] = some (.int xs.length) := rfl
theorem bg_lenR (h : g[n]? = some (.lst xs)) : biG g .len [.ref n] = some (.int xs.length) := by simp only [biG, h]
theorem bg_abs : biG g .abs [.int i] = some (.int i.natAbs) := rfl
theorem bg_tupL : biG g .tuple [.lst xs] = some (.tup xs) := rfl
theorem bg_tupT : biG g .tuple [.tup xs] = some (.tup xs) := rfl
theorem bg_lstL : biG g .list [.lst xs] = some (.lst xs) := rfl
theorem bg_lstT : biG g .list [.tup xs] = some (.lst xs) := rfl
theorem bg_intB : biG g .int [.bl b] = some (.int (if b then 1 else 0)) := rfl
theorem bg_intI : biG g .int [.int i] = some (.int i) := rfl
theorem bg_max : biG g .max [.int i, .int j] = some (.int (max i j)) := by
  have e : biG g .max [.int i, .int j] = some (.int (if j > i then j else i)) := rfl
  rw [e]
  have : (if j > i then j else i) = max i j := by split <;> omega
  rw [this]
theorem bg_min : biG g .min [.int i, .int j] = some (.int (min i j)) := by
  have e : biG g .min [.int i, .int j] = some (.int (if j < i then j else i)) := rfl
  rw [e]
  have : (if j < i then j else i) = min i j := by split <;> omega
  rw [this]
theorem ints_map {ns : List Int} : ints? (ns.map D.int) = some ns := by
  induction ns with
  | nil => rfl
  | cons n ns ih => simp only [List.map_cons, ints?, ih, Option.map_some]
theorem bools_map {bs : List Bool} : bools? (bs.map D.bl) = some bs := by
  induction bs with
  | nil => rfl
  | cons n ns ih => simp only [List.map_cons, bools?, ih, Option.map_some]
theorem bg_sumL {ns : List Int} : biG g .sum [.lst (ns.map D.int)] = some (.int ns.sum) := by rw [bg_of (by decide)]; simp only [biD, ints_map, Option.map_some]
theorem bg_sumT {ns : List Int} : biG g .sum [.tup (ns.map D.int)] = some (.int ns.sum) := by rw [bg_of (by decide)]; simp only [biD, ints_map, Option.map_some]
theorem bg_allL {bs : List Bool} : biG g .all [.lst (bs.map D.bl)] = some (.bl (bs.all id)) := by rw [bg_of (by decide)]; simp only [biD, bools_map, Option.map_some]
theorem bg_sortL {ns : List Int} : biG g .sorted [.lst (ns.map D.int)] = some (.lst ((sortI ns).map D.int)) := by rw [bg_of (by decide)]; simp only [biD, ints_map, Option.map_some]
theorem bg_sortT {ns : List Int} : biG g .sorted [.tup (ns.map D.int)] = some (.lst ((sortI ns).map D.int)) := by rw [bg_of (by decide)]; simp only [biD, ints_map, Option.map_some]
theorem bg_maxL {k : Int} {l : List Int} : biG g .max [.lst (.int k :: l.map D.int)] = some (.int (maxI k l)) := by
  rw [← List.map_cons, bg_of (by decide)]; simp only [biD, ints_map, Option.bind_some, topI]
theorem bg_maxT {k : Int} {l : List Int} : biG g .max [.tup (.int k :: l.map D.int)] = some (.int (maxI k l)) := by
  rw [← List.map_cons, bg_of (by decide)]; simp only [biD, ints_map, Option.bind_some, topI]
theorem bg_minL {k : Int} {l : List Int} : biG g .min [.lst (.int k :: l.map D.int)] = some (.int (minI k l)) := by
  rw [← List.map_cons, bg_of (by decide)]; simp only [biD, ints_map, lowI]
theorem tups_map : ∀ {l : List (List Int)}, tups? (l.map tupI) = some l
  | [] => rfl
  | k :: l => by
    show ((ints? (k.map D.int)).bind fun ns => (tups? (l.map tupI)).map (ns :: ·)) = some (k :: l)
    rw [ints_map, tups_map]; rfl
theorem bg_minP {k : List Int} {l : List (List Int)} : biG g .min [.lst (tupI k :: l.map tupI)] = some (tupI (minL k l)) := by
  rw [← List.map_cons, bg_of (by decide)]
  show ((tups? ((k :: l).map tupI)).bind lowL) = _
  rw [tups_map]; rfl
theorem bg_sortP {l : List (List Int)} (h : ∀ t ∈ l, t ≠ []) : biG g .sorted [.lst (l.map tupI)] = some (.lst ((sortL l).map tupI)) := by
  rw [bg_of (by decide)]
  cases l with
  | nil =>
    show some (D.lst []) = _
    simp [sortL]
  | cons k l =>
    show ((tups? ((k :: l).map tupI)).bind srtL) = _
    rw [tups_map]
    show srtL (k :: l) = _
    unfold srtL
    rw [if_pos]
    exact List.all_eq_true.mpr fun t ht => by
      cases t with
      | nil => exact absurd rfl (h _ ht)
      | cons _ _ => rfl
theorem bg_sortK {ks : List (List Key)} {l : List (List Int)} {ds : List D} (h : keysN? ks = some ([] :: l)) : biG g .sorted [.dct (.t ks) ds] = some (.lst ((sortL ([] :: l)).map tupI)) := by
  rw [bg_of (by decide)]; simp only [biD, h, Option.bind_some, srtK]
theorem cat_ok {a b : Str} (h : (a ++ b).length ≤ LIM) : catS a b = some (a ++ b) := by unfold catS; rw [if_pos h]
theorem fmt_s {a : Str} : fmtD a (.str x) = catS a x := rfl
theorem fmt_i {a : Str} (h : i.natAbs < 2 ^ 1900) : fmtD a (.int i) = catS a (toString i) := by simp only [fmtD]; rw [if_pos h]
theorem dT_nm {k : Nat} : derefT g (.nm k) d = d := rfl
theorem dT_tp {is : List Nat} : derefT g (.tp is) d = deref g d := rfl
theorem nn_non : D.isNon .non = true := rfl
theorem nn_int : D.isNon (.int i) = false := rfl
theorem nn_tup : D.isNon (.tup xs) = false := rfl
theorem nn_lst : D.isNon (.lst xs) = false := rfl
theorem sset_L {ns : List Int} (h : ns.length ≤ 4000) : ssetD (.lst (ns.map D.int)) = some (.lst ((dedup (sortI ns)).map D.int)) := by simp only [ssetD, items, Option.bind_some, ints_map, if_pos h]
theorem sset_T {ns : List Int} (h : ns.length ≤ 4000) : ssetD (.tup (ns.map D.int)) = some (.lst ((dedup (sortI ns)).map D.int)) := by simp only [ssetD, items, Option.bind_some, ints_map, if_pos h]
theorem ixd_l : ixD (.lst xs) (.int i) = atI xs i := rfl
theorem ixd_t : ixD (.tup xs) (.int i) = atI xs i := rfl
theorem de_lst : deref g (.lst xs) = .lst xs := rfl
theorem de_tup : deref g (.tup xs) = .tup xs := rfl
theorem de_ref (h : g[n]? = some (.lst xs)) : deref g (.ref n) = .lst xs := by simp only [deref, h]
theorem sld_l {lo hi : Option Int} : sliceD (.lst xs) lo hi = some (.lst (cut xs lo hi)) := rfl
theorem sld_t {lo hi : Option Int} : sliceD (.tup xs) lo hi = some (.tup (cut xs lo hi)) := rfl
theorem rev_l : revD (.lst xs) = some (.lst xs.reverse) := rfl
theorem rev_t : revD (.tup xs) = some (.tup xs.reverse) := rfl
theorem op_none : optI [] = some none := rfl
theorem op_int : optI [.int i] = some (some i) := rfl
theorem mk_t (h : xs.length ≤ LIM) : mkT xs = some (.tup xs) := if_pos h
theorem mk_l (h : xs.length ≤ LIM) : mkL xs = some (.lst xs) := if_pos h
theorem mkT_0 : mkT [] = some (.tup []) := rfl
theorem mkL_0 : mkL [] = some (.lst []) := rfl
theorem mkT_1 {x0 : D} : mkT [x0] = some (.tup [x0]) := rfl
theorem mkL_1 {x0 : D} : mkL [x0] = some (.lst [x0]) := rfl
theorem mkT_2 {x0 x1 : D} : mkT [x0, x1] = some (.tup [x0, x1]) := rfl
theorem mkL_2 {x0 x1 : D} : mkL [x0, x1] = some (.lst [x0, x1]) := rfl
theorem mkT_3 {x0 x1 x2 : D} : mkT [x0, x1, x2] = some (.tup [x0, x1, x2]) := rfl
theorem mkL_3 {x0 x1 x2 : D} : mkL [x0, x1, x2] = some (.lst [x0, x1, x2]) := rfl
theorem mkT_4 {x0 x1 x2 x3 : D} : mkT [x0, x1, x2, x3] = some (.tup [x0, x1, x2, x3]) := rfl
theorem mkL_4 {x0 x1 x2 x3 : D} : mkL [x0, x1, x2, x3] = some (.lst [x0, x1, x2, x3]) := rfl
theorem mkT_5 {x0 x1 x2 x3 x4 : D} : mkT [x0, x1, x2, x3, x4] = some (.tup [x0, x1, x2, x3, x4]) := rfl
theorem mkL_5 {x0 x1 x2 x3 x4 : D} : mkL [x0, x1, x2, x3, x4] = some (.lst [x0, x1, x2, x3, x4]) := rfl
theorem mkT_6 {x0 x1 x2 x3 x4 x5 : D} : mkT [x0, x1, x2, x3, x4, x5] = some (.tup [x0, x1, x2, x3, x4, x5]) := rfl
theorem mkL_6 {x0 x1 x2 x3 x4 x5 : D} : mkL [x0, x1, x2, x3, x4, x5] = some (.lst [x0, x1, x2, x3, x4, x5]) := rfl
theorem mkT_7 {x0 x1 x2 x3 x4 x5 x6 : D} : mkT [x0, x1, x2, x3, x4, x5, x6] = some (.tup [x0, x1, x2, x3, x4, x5, x6]) := rfl
theorem mkL_7 {x0 x1 x2 x3 x4 x5 x6 : D} : mkL [x0, x1, x2, x3, x4, x5, x6] = some (.lst [x0, x1, x2, x3, x4, x5, x6]) := rfl
theorem mkT_8 {x0 x1 x2 x3 x4 x5 x6 x7 : D} : mkT [x0, x1, x2, x3, x4, x5, x6, x7] = some (.tup [x0, x1, x2, x3, x4, x5, x6, x7]) := rfl
theorem mkL_8 {x0 x1 x2 x3 x4 x5 x6 x7 : D} : mkL [x0, x1, x2, x3, x4, x5, x6, x7] = some (.lst [x0, x1, x2, x3, x4, x5, x6, x7]) := rfl
theorem mkT_9 {x0 x1 x2 x3 x4 x5 x6 x7 x8 : D} : mkT [x0, x1, x2, x3, x4, x5, x6, x7, x8] = some (.tup [x0, x1, x2, x3, x4, x5, x6, x7, x8]) := rfl
theorem mkL_9 {x0 x1 x2 x3 x4 x5 x6 x7 x8 : D} : mkL [x0, x1, x2, x3, x4, x5, x6, x7, x8] = some (.lst [x0, x1, x2, x3, x4, x5, x6, x7, x8]) := rfl
theorem mkT_10 {x0 x1 x2 x3 x4 x5 x6 x7 x8 x9 : D} : mkT [x0, x1, x2, x3, x4, x5, x6, x7, x8, x9] = some (.tup [x0, x1, x2, x3, x4, x5, x6, x7, x8, x9]) := rfl
theorem mkL_10 {x0 x1 x2 x3 x4 x5 x6 x7 x8 x9 : D} : mkL [x0, x1, x2, x3, x4, x5, x6, x7, x8, x9] = some (.lst [x0, x1, x2, x3, x4, x5, x6, x7, x8, x9]) := rfl
theorem mkT_11 {x0 x1 x2 x3 x4 x5 x6 x7 x8 x9 x10 : D} : mkT [x0, x1, x2, x3, x4, x5, x6, x7, x8, x9, x10] = some (.tup [x0, x1, x2, x3, x4, x5, x6, x7, x8, x9, x10]) := rfl
theorem mkL_11 {x0 x1 x2 x3 x4 x5 x6 x7 x8 x9 x10 : D} : mkL [x0, x1, x2, x3, x4, x5, x6, x7, x8, x9, x10] = some (.lst [x0, x1, x2, x3, x4, x5, x6, x7, x8, x9, x10]) := rfl
theorem mkT_12 {x0 x1 x2 x3 x4 x5 x6 x7 x8 x9 x10 x11 : D} : mkT [x0, x1, x2, x3, x4, x5, x6, x7, x8, x9, x10, x11] = some (.tup [x0, x1, x2, x3, x4, x5, x6, x7, x8, x9, x10, x11]) := rfl
theorem mkL_12 {x0 x1 x2 x3 x4 x5 x6 x7 x8 x9 x10 x11 : D} : mkL [x0, x1, x2, x3, x4, x5, x6, x7, x8, x9, x10, x11] = some (.lst [x0, x1, x2, x3, x4, x5, x6, x7, x8, x9, x10, x11]) := rfl
theorem mkT_13 {x0 x1 x2 x3 x4 x5 x6 x7 x8 x9 x10 x11 x12 : D} : mkT [x0, x1, x2, x3, x4, x5, x6, x7, x8, x9, x10, x11, x12] = some (.tup [x0, x1, x2, x3, x4, x5, x6, x7, x8, x9, x10, x11, x12]) := rfl
theorem mkL_13 {x0 x1 x2 x3 x4 x5 x6 x7 x8 x9 x10 x11 x12 : D} : mkL [x0, x1, x2, x3, x4, x5, x6, x7, x8, x9, x10, x11, x12] = some (.lst [x0, x1, x2, x3, x4, x5, x6, x7, x8, x9, x10, x11, x12]) := rfl
theorem mkT_14 {x0 x1 x2 x3 x4 x5 x6 x7 x8 x9 x10 x11 x12 x13 : D} : mkT [x0, x1, x2, x3, x4, x5, x6, x7, x8, x9, x10, x11, x12, x13] = some (.tup [x0, x1, x2, x3, x4, x5, x6, x7, x8, x9, x10, x11, x12, x13]) := rfl
theorem mkL_14 {x0 x1 x2 x3 x4 x5 x6 x7 x8 x9 x10 x11 x12 x13 : D} : mkL [x0, x1, x2, x3, x4, x5, x6, x7, x8, x9, x10, x11, x12, x13] = some (.lst [x0, x1, x2, x3, x4, x5, x6, x7, x8, x9, x10, x11, x12, x13]) := rfl
theorem mkT_15 {x0 x1 x2 x3 x4 x5 x6 x7 x8 x9 x10 x11 x12 x13 x14 : D} : mkT [x0, x1, x2, x3, x4, x5, x6, x7, x8, x9, x10, x11, x12, x13, x14] = some (.tup [x0, x1, x2, x3, x4, x5, x6, x7, x8, x9, x10, x11, x12, x13, x14]) := rfl
theorem mkL_15 {x0 x1 x2 x3 x4 x5 x6 x7 x8 x9 x10 x11 x12 x13 x14 : D} : mkL [x0, x1, x2, x3, x4, x5, x6, x7, x8, x9, x10, x11, x12, x13, x14] = some (.lst [x0, x1, x2, x3, x4, x5, x6, x7, x8, x9, x10, x11, x12, x13, x14]) := rfl
theorem mkT_16 {x0 x1 x2 x3 x4 x5 x6 x7 x8 x9 x10 x11 x12 x13 x14 x15 : D} : mkT [x0, x1, x2, x3, x4, x5, x6, x7, x8, x9, x10, x11, x12, x13, x14, x15] = some (.tup [x0, x1, x2, x3, x4, x5, x6, x7, x8, x9, x10, x11, x12, x13, x14, x15]) := rfl
theorem mkL_16 {x0 x1 x2 x3 x4 x5 x6 x7 x8 x9 x10 x11 x12 x13 x14 x15 : D} : mkL [x0, x1, x2, x3, x4, x5, x6, x7, x8, x9, x10, x11, x12, x13, x14, x15] = some (.lst [x0, x1, x2, x3, x4, x5, x6, x7, x8, x9, x10, x11, x12, x13, x14, x15]) := rfl
theorem mkT_17 {x0 x1 x2 x3 x4 x5 x6 x7 x8 x9 x10 x11 x12 x13 x14 x15 x16 : D} : mkT [x0, x1, x2, x3, x4, x5, x6, x7, x8, x9, x10, x11, x12, x13, x14, x15, x16] = some (.tup [x0, x1, x2, x3, x4, x5, x6, x7, x8, x9, x10, x11, x12, x13, x14, x15, x16]) := rfl
theorem mkL_17 {x0 x1 x2 x3 x4 x5 x6 x7 x8 x9 x10 x11 x12 x13 x14 x15 x16 : D} : mkL [x0, x1, x2, x3, x4, x5, x6, x7, x8, x9, x10, x11, x12, x13, x14, x15, x16] = some (.lst [x0, x1, x2, x3, x4, x5, x6, x7, x8, x9, x10, x11, x12, x13, x14, x15, x16]) := rfl
theorem mkT_18 {x0 x1 x2 x3 x4 x5 x6 x7 x8 x9 x10 x11 x12 x13 x14 x15 x16 x17 : D} : mkT [x0, x1, x2, x3, x4, x5, x6, x7, x8, x9, x10, x11, x12, x13, x14, x15, x16, x17] = some (.tup [x0, x1, x2, x3, x4, x5, x6, x7, x8, x9, x10, x11, x12, x13, x14, x15, x16, x17]) := rfl
theorem mkL_18 {x0 x1 x2 x3 x4 x5 x6 x7 x8 x9 x10 x11 x12 x13 x14 x15 x16 x17 : D} : mkL [x0, x1, x2, x3, x4, x5, x6, x7, x8, x9, x10, x11, x12, x13, x14, x15, x16, x17] = some (.lst [x0, x1, x2, x3, x4, x5, x6, x7, x8, x9, x10, x11, x12, x13, x14, x15, x16, x17]) := rfl
theorem mkT_19 {x0 x1 x2 x3 x4 x5 x6 x7 x8 x9 x10 x11 x12 x13 x14 x15 x16 x17 x18 : D} : mkT [x0, x1, x2, x3, x4, x5, x6, x7, x8, x9, x10, x11, x12, x13, x14, x15, x16, x17, x18] = some (.tup [x0, x1, x2, x3, x4, x5, x6, x7, x8, x9, x10, x11, x12, x13, x14, x15, x16, x17, x18]) := rfl
theorem mkL_19 {x0 x1 x2 x3 x4 x5 x6 x7 x8 x9 x10 x11 x12 x13 x14 x15 x16 x17 x18 : D} : mkL [x0, x1, x2, x3, x4, x5, x6, x7, x8, x9, x10, x11, x12, x13, x14, x15, x16, x17, x18] = some (.lst [x0, x1, x2, x3, x4, x5, x6, x7, x8, x9, x10, x11, x12, x13, x14, x15, x16, x17, x18]) := rfl
theorem mkT_20 {x0 x1 x2 x3 x4 x5 x6 x7 x8 x9 x10 x11 x12 x13 x14 x15 x16 x17 x18 x19 : D} : mkT [x0, x1, x2, x3, x4, x5, x6, x7, x8, x9, x10, x11, x12, x13, x14, x15, x16, x17, x18, x19] = some (.tup [x0, x1, x2, x3, x4, x5, x6, x7, x8, x9, x10, x11, x12, x13, x14, x15, x16, x17, x18, x19]) := rfl
theorem mkL_20 {x0 x1 x2 x3 x4 x5 x6 x7 x8 x9 x10 x11 x12 x13 x14 x15 x16 x17 x18 x19 : D} : mkL [x0, x1, x2, x3, x4, x5, x6, x7, x8, x9, x10, x11, x12, x13, x14, x15, x16, x17, x18, x19] = some (.lst [x0, x1, x2, x3, x4, x5, x6, x7, x8, x9, x10, x11, x12, x13, x14, x15, x16, x17, x18, x19]) := rfl
theorem nc_0 : ((0 : Nat) : Int) = 0 := rfl
theorem nc_1 : ((1 : Nat) : Int) = 1 := rfl
theorem nc_2 : ((2 : Nat) : Int) = 2 := rfl
theorem nc_3 : ((3 : Nat) : Int) = 3 := rfl
theorem nc_4 : ((4 : Nat) : Int) = 4 := rfl
theorem nc_5 : ((5 : Nat) : Int) = 5 := rfl
theorem nc_6 : ((6 : Nat) : Int) = 6 := rfl
theorem nc_7 : ((7 : Nat) : Int) = 7 := rfl
theorem nc_8 : ((8 : Nat) : Int) = 8 := rfl
theorem nc_9 : ((9 : Nat) : Int) = 9 := rfl
theorem nc_10 : ((10 : Nat) : Int) = 10 := rfl
theorem nc_11 : ((11 : Nat) : Int) = 11 := rfl
theorem nc_12 : ((12 : Nat) : Int) = 12 := rfl
theorem lim_0 : (0 < LIM) = True := eq_true (by decide)
theorem lim_1 : (1 < LIM) = True := eq_true (by decide)
theorem lim_2 : (2 < LIM) = True := eq_true (by decide)
theorem lim_3 : (3 < LIM) = True := eq_true (by decide)
theorem lim_4 : (4 < LIM) = True := eq_true (by decide)
theorem lim_5 : (5 < LIM) = True := eq_true (by decide)
theorem lim_6 : (6 < LIM) = True := eq_true (by decide)
theorem lim_7 : (7 < LIM) = True := eq_true (by decide)
theorem lim_8 : (8 < LIM) = True := eq_true (by decide)
theorem lim_9 : (9 < LIM) = True := eq_true (by decide)
theorem lim_10 : (10 < LIM) = True := eq_true (by decide)
theorem lim_11 : (11 < LIM) = True := eq_true (by decide)
theorem lim_12 : (12 < LIM) = True := eq_true (by decide)
theorem lim_13 : (13 < LIM) = True := eq_true (by decide)
theorem lim_14 : (14 < LIM) = True := eq_true (by decide)
theorem lim_15 : (15 < LIM) = True := eq_true (by decide)
theorem lim_16 : (16 < LIM) = True := eq_true (by decide)
theorem lim_17 : (17 < LIM) = True := eq_true (by decide)
theorem lim_18 : (18 < LIM) = True := eq_true (by decide)
theorem lim_19 : (19 < LIM) = True := eq_true (by decide)
theorem lim_20 : (20 < LIM) = True := eq_true (by decide)
theorem lim_21 : (21 < LIM) = True := eq_true (by decide)
theorem lim_22 : (22 < LIM) = True := eq_true (by decide)
theorem lim_23 : (23 < LIM) = True := eq_true (by decide)
theorem lim_24 : (24 < LIM) = True := eq_true (by decide)
theorem tg_nm {r : List Slot} {k : Nat} : setTg r (.nm k) d = some (r.set k (.fz d)) := rfl
theorem tg_2 {r : List Slot} {k l : Nat} {d e : D} : setTg r (.tp [k, l]) (.tup [d, e]) = some ((r.set k (.fz d)).set l (.fz e)) := rfl
theorem tg_3 {r : List Slot} {k l m : Nat} {d e f : D} : setTg r (.tp [k, l, m]) (.tup [d, e, f]) = some (((r.set k (.fz d)).set l (.fz e)).set m (.fz f)) := rfl
theorem tg_l2 {r : List Slot} {k l : Nat} {d e : D} : setTg r (.tp [k, l]) (.lst [d, e]) = some ((r.set k (.fz d)).set l (.fz e)) := rfl
theorem tg_l3 {r : List Slot} {k l m : Nat} {d e f : D} : setTg r (.tp [k, l, m]) (.lst [d, e, f]) = some (((r.set k (.fz d)).set l (.fz e)).set m (.fz f)) := rfl
section
variable {r : List Slot} {k l m : Nat} {d e f : D} {s1 s2 s3 : Slot}
theorem par_2 : parR r [k, l] [d, e] = some ((r.set k (.fz d)).set l (.fz e)) := rfl
theorem par_3 : parR r [k, l, m] [d, e, f] = some (((r.set k (.fz d)).set l (.fz e)).set m (.fz f)) := rfl
theorem parS_2 : parS r [k, l] [s1, s2] = some ((r.set k s1).set l s2) := rfl
theorem parS_3 : parS r [k, l, m] [s1, s2, s3] = some (((r.set k s1).set l s2).set m s3) := rfl
end
section
variable {α : Type} {z0 z1 z2 z3 z4 z5 : α} {l : List α}
theorem at_0 : atI (z0 :: l) 0 = some z0 := by
  unfold atI ixN
  rw [if_pos (Int.le_refl 0), if_pos (by simp only [List.length_cons]; omega)]; rfl
theorem at_1 : atI (z0 :: z1 :: l) 1 = some z1 := by
  unfold atI ixN
  rw [if_pos (by decide), if_pos (by simp only [List.length_cons]; omega)]; rfl
theorem at_2 : atI (z0 :: z1 :: z2 :: l) 2 = some z2 := by
  unfold atI ixN
  rw [if_pos (by decide), if_pos (by simp only [List.length_cons]; omega)]; rfl
theorem at_3 : atI (z0 :: z1 :: z2 :: z3 :: l) 3 = some z3 := by
  unfold atI ixN
  rw [if_pos (by decide), if_pos (by simp only [List.length_cons]; omega)]; rfl
end
theorem at_nat {α : Type} {l : List α} {z : α} {k : Nat} (h : l[k]? = some z) : atI l (k : Int) = some z := by
  have hl := (List.getElem?_eq_some_iff.mp h).1
  unfold atI ixN
  rw [if_pos (Int.natCast_nonneg k), if_pos (by omega)]
  simpa using h
theorem at_int {α : Type} {l : List α} {z : α} {k : Int} (h0 : 0 ≤ k) (h : l[k.toNat]? = some z) : atI l k = some z := by
  have e : k = (k.toNat : Int) := by omega
  rw [e]
  exact at_nat h
theorem at_last {α : Type} {l : List α} {z : α} : atI (l ++ [z]) (-1) = some z := by
  unfold atI ixN
  rw [if_neg (by decide), if_pos (by simp; omega)]
  have e : ((-1 : Int) + ((l ++ [z]).length : Nat)).toNat = l.length := by simp; omega
  show (l ++ [z])[((-1 : Int) + ((l ++ [z]).length : Nat)).toNat]? = some z
  rw [e]
  simp
theorem set_int {α : Type} {l : List α} {z : α} {k : Int} (h0 : 0 ≤ k) (h : k.toNat < l.length) : setAt l k z = some (l.set k.toNat z) := by
  unfold setAt ixN
  rw [if_pos h0, if_pos (by omega)]
  rfl
/-- an item of a list of ints -/
def gI (l : List Int) (k : Int) : Int := l.getD k.toNat 0
theorem at_gI {l : List Int} {k : Int} (h0 : 0 ≤ k ∧ k < l.length) : atI (l.map D.int) k = some (.int (gI l k)) := by
  have hl : k.toNat < l.length := by omega
  refine at_int h0.1 ?_
  rw [List.getElem?_map, List.getElem?_eq_getElem hl]
  simp only [gI, List.getD_eq_getElem?_getD, List.getElem?_eq_getElem hl, Option.map_some, Option.getD_some]
theorem gI_mem {l : List Int} {k : Int} (h0 : 0 ≤ k ∧ k < l.length) : gI l k ∈ l := by
  have hl : k.toNat < l.length := by omega
  simp only [gI, List.getD_eq_getElem?_getD, List.getElem?_eq_getElem hl, Option.getD_some]
  exact List.getElem_mem hl
end
/-- one of a few, by a number that was drawn -/
theorem pick {xs : List D} {v : Int} {Q : D → Prop} (h0 : 0 ≤ v) (h1 : v < xs.length) (h : ∀ d ∈ xs, Q d) : ∃ d, atI xs v = some d ∧ Q d := by
  have hl : v.toNat < xs.length := by omega
  exact ⟨xs[v.toNat], at_int h0 (List.getElem?_eq_getElem hl), h _ (List.getElem_mem hl)⟩
/-- .. in the goal's form -/
theorem pickG {xs : List D} {v : Int} {R : D → Prop} (Q : D → Prop) (h0 : 0 ≤ v) (h1 : v < xs.length) (h : ∀ d ∈ xs, Q d) (q : ∀ d, Q d → R d) : ∃ d, atI xs v = some d ∧ R d := by
  obtain ⟨d, h2, h3⟩ := pick h0 h1 h
  exact ⟨d, h2, q d h3⟩
def IsI (lo hi : Int) (d : D) : Prop := ∃ c : Int, d = .int c ∧ lo ≤ c ∧ c ≤ hi
theorem pickI {xs : List D} {v : Int} {R : D → Prop} (lo hi : Int) (h0 : 0 ≤ v) (h1 : v < xs.length) (h : ∀ d ∈ xs, IsI lo hi d) (q : ∀ c : Int, lo ≤ c → c ≤ hi → R (.int c)) : ∃ d, atI xs v = some d ∧ R d :=
  pickG (IsI lo hi) h0 h1 h fun d ⟨c, e, a, b⟩ => by rw [e]; exact q c a b
end Bk
end
section
set_option Elab.async false
set_option linter.all false
set_option maxRecDepth 100000
set_option maxHeartbeats 0
namespace T
open PySem L2 Bk
abbrev c_NOBODY : Nat := 6
abbrev c_COMMA : Nat := 7
abbrev c_MIDDLE : Nat := 8
def gl (i : Nat) : Option D := (bif Nat.blt i 7 then (bif Nat.beq i 6 then some (D.str (Str.ofString "-")) else none) else (bif Nat.blt i 8 then (bif Nat.beq i 7 then some (D.str (Str.ofString ",")) else none) else (bif Nat.beq i 8 then some (D.str (Str.ofString "/")) else none)))
theorem gl_c_NOBODY : gl c_NOBODY = some (D.str (Str.ofString "-")) := rfl
theorem gl_c_COMMA : gl c_COMMA = some (D.str (Str.ofString ",")) := rfl
theorem gl_c_MIDDLE : gl c_MIDDLE = some (D.str (Str.ofString "/")) := rfl
abbrev f__law_draws_2 : Nat := 198
abbrev f__law_next_2 : Nat := 199
abbrev f__law_one_2 : Nat := 200
abbrev f__law_weight_4 : Nat := 201
abbrev f__law_weights_2 : Nat := 202
abbrev f__law_tower_5 : Nat := 225
abbrev f_weights_text : Nat := 341
abbrev f_tower_text : Nat := 342
abbrev f__law_text_2 : Nat := 343
abbrev f_law_54 : Nat := 344
def b__law_draws_2 : Fn := { ps := 1, ns := 3, body := [.asg (.nm 1) (.bin .add (.comp (.bi .abs [.var 2]) (.nm 2) .seq [.slice (.var 0) [] [.int 63]] []) (.bin .mul (.lst [.int 0]) (.bi .int [.cmp .eq (.bi .len [.var 0]) (.int 0)]))), .ret (.mk (.lst [.var 1, .int 0, .mk (.comp (.bin .mul (.var 2) (.bi .int [.cmp .ge (.var 2) (.bin .pow (.int 10) (.int 18))])) (.nm 2) .seq [.var 1] [])]))] }
def b__law_next_2 : Fn := { ps := 2, ns := 8, body := [.asg (.tp [4, 5, 6]) (.var 0), .asg (.nm 2) (.bin .mod (.var 5) (.bi .len [.var 4])), .setR (.var 0) (.int 1) (.bin .add (.var 5) (.int 1)), .iff (.cmp .gt (.ix (.var 6) (.var 2)) (.int 0)) [.asg (.nm 7) (.bin .mod (.ix (.var 6) (.var 2)) (.var 1)), .setR (.var 6) (.var 2) (.bin .fdiv (.ix (.var 6) (.var 2)) (.var 1)), .ret (.var 7)] [], .asg (.nm 3) (.bin .mod (.bin .pow (.bin .add (.bin .add (.bin .mod (.ix (.var 4) (.var 2)) (.int 2147483629)) (.bin .mul (.int 40037) (.var 5))) (.int 9203)) (.int 3)) (.int 2147483587)), .asg (.nm 3) (.bin .mod (.bin .pow (.bin .add (.bin .add (.var 3) (.bin .mul (.bin .mul (.int 5039) (.var 5)) (.var 5))) (.int 43)) (.int 3)) (.int 2147483563)), .ret (.bin .mod (.bin .fdiv (.bin .mod (.bin .mul (.var 3) (.int 65537)) (.int 2305843009213693951)) (.int 8)) (.var 1))] }
def b__law_one_2 : Fn := { ps := 2, ns := 2, body := [.ret (.ix (.var 1) (.call f__law_next_2 [.var 0, .bi .len [.var 1]]))] }
def b__law_weight_4 : Fn := { ps := 1, ns := 1, body := [.ret (.ix (.lst [.bin .add (.int 1) (.call f__law_next_2 [.var 0, .int 9]), .bin .add (.int 1) (.call f__law_next_2 [.var 0, .bin .pow (.int 10) (.int 6)]), .int 7, .bin .pow (.int 10) (.int 6)]) (.ix (.lst [.int 0, .int 0, .int 1, .int 2, .int 3]) (.call f__law_next_2 [.var 0, .int 5])))] }
def b__law_weights_2 : Fn := { ps := 2, ns := 4, body := [.asg (.nm 2) (.comp (.call f__law_weight_4 [.var 0]) (.nm 3) .range [.call f__law_next_2 [.var 0, .bin .add (.var 1) (.int 1)]] []), .iff (.band [.cmp .ne (.var 2) (.lst []), .cmp .eq (.call f__law_next_2 [.var 0, .int 2]) (.int 0)]) [.asg (.nm 2) (.slice (.bin .add (.var 2) (.lst [.call f__law_one_2 [.var 0, .var 2], .call f__law_one_2 [.var 0, .var 2]])) [] [.var 1])] [], .ret (.bi .tuple [.var 2])] }
def b__law_tower_5 : Fn := { ps := 2, ns := 8, body := [.par [3, 4] [.call f__law_next_2 [.var 0, .int 3], .ix (.lst [.bin .add (.int 1) (.call f__law_next_2 [.var 0, .int 4]), .bin .add (.int 1) (.call f__law_next_2 [.var 0, .bin .pow (.int 10) (.int 6)])]) (.call f__law_next_2 [.var 0, .int 2])], .parO [5, 6] [true, false] [.lst [], .int 0], .for_ (.nm 2) .range [.call f__law_next_2 [.var 0, .bin .add (.var 1) (.int 1)]] [.asg (.nm 7) (.bi .max [.int 1, .bi .min [.bin .pow (.int 10) (.int 6), .bin .sub (.bin .add (.bin .add (.var 4) (.var 6)) (.call f__law_next_2 [.var 0, .int 3])) (.int 2)]]), .app 5 (.ix (.lst [.bin .add (.int 1) (.call f__law_next_2 [.var 0, .int 9]), .var 7, .bin .add (.int 1) (.call f__law_next_2 [.var 0, .bin .pow (.int 10) (.int 6)])]) (.var 3)), .asg (.nm 6) (.bin .add (.var 6) (.ix (.own 5) (.neg (.int 1))))], .iff (.band [.cmp .ne (.own 5) (.lst []), .cmp .eq (.call f__law_next_2 [.var 0, .int 3]) (.int 0)]) [.asgOwn 5 (.rev (.own 5))] [], .ret (.tup [.var 4, .bi .tuple [.own 5]])] }
def b_weights_text : Fn := { ps := 1, ns := 2, body := [.ret (.ife (.cmp .ne (.var 0) (.tup [])) (.meth .join (.glob c_COMMA) (.comp (.bi .str [.var 1]) (.nm 1) .seq [.var 0] [])) (.glob c_NOBODY))] }
def b_tower_text : Fn := { ps := 1, ns := 3, body := [.asg (.tp [1, 2]) (.var 0), .ret (.fs3 " " " " (.var 1) (.glob c_MIDDLE) (.call f_weights_text [.var 2]))] }
def b__law_text_2 : Fn := { ps := 1, ns := 3, body := [.asg (.nm 1) (.meth .join (.str ",") (.comp (.bi .str [.var 2]) (.nm 2) .seq [.ix (.var 0) (.int 1)] [])), .ret (.bin .add (.bin .add (.bi .str [.ix (.var 0) (.int 0)]) (.str " / ")) (.ife (.cmp .ne (.var 1) (.str "")) (.var 1) (.str "-")))] }
def b_law_54 : Fn := { ps := 1, ns := 9, body := [.asg (.nm 1) (.call f__law_draws_2 [.var 0]), .asgOwn 2 (.lst [.tup [.int 1, .tup []], .tup [.bin .pow (.int 10) (.int 6), .bin .mul (.tup [.bin .pow (.int 10) (.int 6)]) (.int 24)], .tup [.int 1, .tup [.int 1]], .tup [.int 11, .tup []], .tup [.int 1, .tup [.int 11]], .tup [.int 1, .tup [.int 1, .int 1]], .tup [.bin .pow (.int 10) (.int 6), .tup []]]), .for_ (.nm 3) .range [.int 10] [.app 2 (.call f__law_tower_5 [.var 1, .int 24]), .app 2 (.tup [.bin .add (.int 1) (.call f__law_next_2 [.var 1, .int 30]), .call f__law_weights_2 [.var 1, .int 24]])], .asgOwn 4 (.lst []), .frz 2, .for_ (.nm 5) .seq [.var 2] [.asg (.tp [7, 6]) (.tup [.bi .repr [.var 5], .call f_tower_text [.var 5]]), .iff (.bor [.not (.isi (.var 6) .str), .cmp .ne (.var 6) (.call f__law_text_2 [.var 5]), .cmp .ne (.call f_tower_text [.var 5]) (.var 6), .cmp .ne (.bi .repr [.var 5]) (.var 7)]) [.ret (.bl false)] [], .app 4 (.var 6)], .frz 4, .for_ (.tp [6, 5]) .zip [.var 4, .var 2] [.iff (.cmp .ne (.comp (.cmp .eq (.var 8) (.var 6)) (.nm 8) .seq [.var 4] []) (.comp (.cmp .eq (.var 8) (.var 5)) (.nm 8) .seq [.var 2] [])) [.ret (.bl false)] []], .ret (.band [.cmp .eq (.call f_tower_text [.tup [.int 2, .tup [.int 1, .int 3]]]) (.str "2 / 1,3"), .cmp .eq (.call f_tower_text [.tup [.int 7, .tup []]]) (.str "7 / -")])] }
def P (i : Nat) : Option Fn := (bif Nat.blt i 225 then (bif Nat.blt i 200 then (bif Nat.blt i 199 then (bif Nat.beq i 198 then some b__law_draws_2 else none) else (bif Nat.beq i 199 then some b__law_next_2 else none)) else (bif Nat.blt i 201 then (bif Nat.beq i 200 then some b__law_one_2 else none) else (bif Nat.blt i 202 then (bif Nat.beq i 201 then some b__law_weight_4 else none) else (bif Nat.beq i 202 then some b__law_weights_2 else none)))) else (bif Nat.blt i 342 then (bif Nat.blt i 341 then (bif Nat.beq i 225 then some b__law_tower_5 else none) else (bif Nat.beq i 341 then some b_weights_text else none)) else (bif Nat.blt i 343 then (bif Nat.beq i 342 then some b_tower_text else none) else (bif Nat.blt i 344 then (bif Nat.beq i 343 then some b__law_text_2 else none) else (bif Nat.beq i 344 then some b_law_54 else none)))))
theorem P__law_draws_2 : P f__law_draws_2 = some b__law_draws_2 := rfl
theorem P__law_next_2 : P f__law_next_2 = some b__law_next_2 := rfl
theorem P__law_one_2 : P f__law_one_2 = some b__law_one_2 := rfl
theorem P__law_weight_4 : P f__law_weight_4 = some b__law_weight_4 := rfl
theorem P__law_weights_2 : P f__law_weights_2 = some b__law_weights_2 := rfl
theorem P__law_tower_5 : P f__law_tower_5 = some b__law_tower_5 := rfl
theorem P_weights_text : P f_weights_text = some b_weights_text := rfl
theorem P_tower_text : P f_tower_text = some b_tower_text := rfl
theorem P__law_text_2 : P f__law_text_2 = some b__law_text_2 := rfl
theorem P_law_54 : P f_law_54 = some b_law_54 := rfl
end T
end
section
set_option Elab.async false
set_option linter.all false
set_option maxRecDepth 100000
set_option maxHeartbeats 4000000
set_option exponentiation.threshold 3000
namespace Bk
open PySem L2
/-! ## how long a value shows -/
def BIG : Nat := 1000000000000
def keySz : Key → Nat
  | .inl i => if i.natAbs < 10 ^ 40 then 0 else 1000000000000
  | .inr x => if (x.cps.toList.all fun c => decide (c < 16 ^ 8)) = true then x.length else 1000000000000
def keysSz : List Key → Nat
  | [] => 0
  | k :: ks => keySz k + 1 + keysSz ks
def keysSzD : DKs → Nat
  | .k ks => keysSz ks
  | .t _ => 1000000000000
mutual
def sz : D → Nat
  | .non => 0 | .bl _ => 0
  | .int i => if i.natAbs < 10 ^ 40 then 0 else 1000000000000
  | .str x => if (decide (x.length ≤ 1000) && x.cps.toList.all fun c => decide (c < 16 ^ 8)) = true then x.length else 1000000000000
  | .tup ds => szs ds
  | .lst ds => szs ds
  | .dct ks ds => szs ds + keysSzD ks + if ks.len = ds.length then 0 else 1000000000000
  | .ref _ => 1000000000000
  | .scr _ => 1000000000000
def szs : List D → Nat
  | [] => 0
  | d :: ds => sz d + 1 + szs ds
end
mutual
def dep : D → Nat
  | .tup ds => deps ds + 1
  | .lst ds => deps ds + 1
  | .dct _ ds => deps ds + 1
  | _ => 0
def deps : List D → Nat
  | [] => 0
  | d :: ds => max (dep d) (deps ds)
end
theorem p1900 {n : Nat} (h : n < 10 ^ 40) : n < 2 ^ 1900 := by
  have h1 : (10 : Nat) ^ 40 < 2 ^ 133 := by decide
  exact Nat.lt_of_lt_of_le (Nat.lt_trans h h1) (Nat.pow_le_pow_right (by decide) (by decide))
theorem ls_int {i : Int} (h : i.natAbs < 10 ^ 40) : (PyData.shown (.int i)).length ≤ 60 := by
  simp only [PyData.shown]
  have := int_text_length_le10 (a := i) (k := 40) (by decide) h
  rw [ofString_length]
  omega
theorem keysSK : ∀ {ks : List Key}, keysSz ks < 1000000000000 → ks.all keyS = true
  | [], _ => rfl
  | k :: ks, h => by
    simp only [keysSz] at h
    rw [List.all_cons, keysSK (ks := ks) (by omega), Bool.and_true]
    cases k with
    | inl i =>
      simp only [keySz] at h
      split at h
      · rename_i q; exact decide_eq_true (p1900 q)
      · omega
    | inr x => rfl
theorem keysSD {ks : DKs} (h : keysSzD ks < 1000000000000) : keysS ks = true := by
  cases ks with
  | k ks => exact keysSK h
  | t ks => exact absurd h (by simp [keysSzD])
mutual
theorem sz_shw : ∀ (d : D) (n : Nat), sz d < 1000000000000 → dep d ≤ n → shw n d = true
  | .non, n, _, _ => by cases n <;> rfl
  | .bl _, n, _, _ => by cases n <;> rfl
  | .int i, n, h, _ => by
    simp only [sz] at h
    split at h
    · rename_i q
      cases n <;> exact decide_eq_true (p1900 q)
    · omega
  | .str x, n, h, _ => by
    simp only [sz] at h
    split at h
    · rename_i q
      cases n <;> (simp only [shw]; exact q)
    · omega
  | .tup ds, n, h, hd => by
    simp only [sz] at h
    simp only [dep] at hd
    cases n with
    | zero => omega
    | succ n => simp only [shw]; exact szs_shw ds n h (by omega)
  | .lst ds, n, h, hd => by
    simp only [sz] at h
    simp only [dep] at hd
    cases n with
    | zero => omega
    | succ n => simp only [shw]; exact szs_shw ds n h (by omega)
  | .dct ks ds, n, h, hd => by
    simp only [sz] at h
    simp only [dep] at hd
    cases n with
    | zero => omega
    | succ n =>
      simp only [shw, Bool.and_eq_true]
      refine ⟨⟨szs_shw ds n (by omega) (by omega), ?_⟩, keysSD (by omega)⟩
      split at h
      · rename_i q; exact decide_eq_true q
      · omega
  | .ref _, _, h, _ => by simp [sz] at h
  | .scr _, _, h, _ => by simp [sz] at h
theorem szs_shw : ∀ (ds : List D) (n : Nat), szs ds < 1000000000000 → deps ds ≤ n → shws n ds = true
  | [], _, _, _ => rfl
  | d :: ds, n, h, hd => by
    simp only [szs] at h
    simp only [deps] at hd
    simp only [shws, Bool.and_eq_true]
    exact ⟨sz_shw d n (by omega) (by omega), szs_shw ds n (by omega) (by omega)⟩
end
theorem keys_bulk : ∀ (ks : List Key) (es : List PyData), keysSz ks < 1000000000000 → PyData.leavesShortAll 60 es = true → PyData.leavesShortKv 60 ((ks.map keyP).zip es) = true ∧ PyData.bulkKv ((ks.map keyP).zip es) ≤ PyData.bulkAll es + keysSz ks
  | [], es, _, _ => by simp [PyData.leavesShortKv, PyData.bulkKv]
  | k :: ks, [], _, _ => by simp [PyData.leavesShortKv, PyData.bulkKv]
  | k :: ks, e :: es, hk, he => by
    simp only [keysSz] at hk
    simp only [PyData.leavesShortAll, Bool.and_eq_true] at he
    obtain ⟨p, q⟩ := keys_bulk ks es (by omega) he.2
    have kw : (keyP k).leavesShort 60 = true ∧ (keyP k).bulk ≤ keySz k := by
      cases k with
      | inl i =>
        simp only [keySz] at hk ⊢
        split at hk
        · rename_i h1
          rw [if_pos h1]
          exact ⟨by simp only [keyP, PyData.leavesShort]; exact decide_eq_true (ls_int h1), by simp only [keyP, PyData.bulk]; omega⟩
        · omega
      | inr x =>
        simp only [keySz] at hk ⊢
        split at hk
        · rename_i h1
          rw [if_pos h1]
          exact ⟨by simp only [keyP, PyData.leavesShort]; exact h1, by simp only [keyP, PyData.bulk]; exact Nat.le_refl _⟩
        · omega
    simp only [List.map_cons, List.zip_cons_cons, PyData.leavesShortKv, PyData.bulkKv, PyData.bulkAll, Bool.and_eq_true, keysSz]
    exact ⟨⟨⟨kw.1, he.1⟩, p⟩, by omega⟩
mutual
theorem sz_bulk : ∀ d : D, sz d < 1000000000000 → (pyd d).leavesShort 60 = true ∧ (pyd d).bulk ≤ sz d
  | .non, _ => by simp [pyd, PyData.leavesShort, PyData.bulk, sz]
  | .bl _, _ => by simp [pyd, PyData.leavesShort, PyData.bulk, sz]
  | .int i, h => by
    simp only [sz] at h
    split at h
    · rename_i q
      simp only [pyd, PyData.leavesShort, PyData.bulk]
      exact ⟨decide_eq_true (ls_int q), Nat.zero_le _⟩
    · omega
  | .str x, h => by
    simp only [sz] at h ⊢
    split at h
    · rename_i q
      rw [if_pos q]
      rw [Bool.and_eq_true] at q
      simp only [pyd, PyData.leavesShort, PyData.bulk]
      exact ⟨q.2, Nat.le_refl _⟩
    · omega
  | .tup ds, h => by
    simp only [sz] at h ⊢
    obtain ⟨a, b⟩ := szs_bulk ds h
    simp only [pyd, PyData.leavesShort, PyData.bulk]
    exact ⟨a, b⟩
  | .lst ds, h => by
    simp only [sz] at h ⊢
    obtain ⟨a, b⟩ := szs_bulk ds h
    simp only [pyd, PyData.leavesShort, PyData.bulk]
    exact ⟨a, b⟩
  | .dct ks ds, h => by
    simp only [sz] at h ⊢
    obtain ⟨a, b⟩ := szs_bulk ds (by omega)
    cases ks with
    | t ks => simp only [keysSzD] at h; omega
    | k ks =>
      simp only [keysSzD] at h ⊢
      simp only [pyd, keysP, PyData.leavesShort, PyData.bulk]
      obtain ⟨p, q⟩ := keys_bulk ks (pyds ds) (by omega) a
      exact ⟨p, by omega⟩
  | .ref _, h => by simp [sz] at h
  | .scr _, h => by simp [sz] at h
theorem szs_bulk : ∀ ds : List D, szs ds < 1000000000000 → PyData.leavesShortAll 60 (pyds ds) = true ∧ PyData.bulkAll (pyds ds) ≤ szs ds
  | [], _ => by simp [pyds, PyData.leavesShortAll, PyData.bulkAll]
  | d :: ds, h => by
    simp only [szs] at h ⊢
    obtain ⟨a, b⟩ := sz_bulk d (by omega)
    obtain ⟨p, q⟩ := szs_bulk ds (by omega)
    simp only [pyds, PyData.leavesShortAll, PyData.bulkAll, Bool.and_eq_true]
    exact ⟨⟨a, p⟩, by omega⟩
end
theorem bg_repr {d : D} {g : List O} (h : sz d ≤ 250000 ∧ dep d ≤ 60) : biG g .repr [d] = some (.str (shown d)) := by
  rw [bg_of (by decide)]
  simp only [biD]
  obtain ⟨a, b⟩ := sz_bulk d (by omega)
  have := PyData.shown_le_bulk 60 (by decide) (pyd d) a
  rw [if_pos]
  rw [sz_shw d 60 (by omega) h.2, Bool.true_and, decide_eq_true_eq]
  unfold shown
  omega
/-! ### the parts -/
theorem szs_app (xs ys : List D) : szs (xs ++ ys) = szs xs + szs ys := by
  induction xs with
  | nil => simp [szs]
  | cons x xs ih => simp only [List.cons_append, szs, ih]; omega
theorem deps_app (xs ys : List D) : deps (xs ++ ys) = max (deps xs) (deps ys) := by
  induction xs with
  | nil => simp [deps]
  | cons x xs ih => simp only [List.cons_append, deps, ih]; omega
theorem sz_int {i : Int} (h : -10000000000000000000000000000000000000000 < i ∧ i < 10000000000000000000000000000000000000000) : sz (.int i) = 0 := by
  simp only [sz]
  rw [if_pos (show i.natAbs < 10000000000000000000000000000000000000000 by omega)]
theorem sz_bl {b : Bool} : sz (.bl b) = 0 := rfl
theorem sz_non : sz .non = 0 := rfl
theorem sz_tup {ds : List D} : sz (.tup ds) = szs ds := by simp only [sz]
theorem sz_lst {ds : List D} : sz (.lst ds) = szs ds := by simp only [sz]
theorem szs_nil : szs [] = 0 := rfl
theorem szs_cons {d : D} {ds : List D} : szs (d :: ds) = sz d + 1 + szs ds := by simp only [szs]
theorem dep_int {i : Int} : dep (.int i) = 0 := rfl
theorem dep_bl {b : Bool} : dep (.bl b) = 0 := rfl
theorem dep_non : dep .non = 0 := rfl
theorem dep_str {x : Str} : dep (.str x) = 0 := rfl
theorem dep_tup {ds : List D} : dep (.tup ds) = deps ds + 1 := by simp only [dep]
theorem dep_lst {ds : List D} : dep (.lst ds) = deps ds + 1 := by simp only [dep]
theorem deps_nil : deps [] = 0 := rfl
theorem deps_cons {d : D} {ds : List D} : deps (d :: ds) = max (dep d) (deps ds) := by simp only [deps]
/-- all in some bounds -/
def Ints (lo hi : Int) (ns : List Int) : Prop := ∀ n ∈ ns, lo ≤ n ∧ n ≤ hi
theorem Ints.nil {lo hi : Int} : Ints lo hi [] := fun _ h => nomatch h
theorem Ints.cons {lo hi n : Int} {ns : List Int} (h : lo ≤ n ∧ n ≤ hi) (t : Ints lo hi ns) : Ints lo hi (n :: ns) := fun k hk => by
  rcases List.mem_cons.mp hk with q | q
  · rw [q]; exact h
  · exact t k q
theorem Ints.app {lo hi : Int} {ns ms : List Int} (h : Ints lo hi ns) (t : Ints lo hi ms) : Ints lo hi (ns ++ ms) := fun k hk => by
  rcases List.mem_append.mp hk with q | q
  · exact h k q
  · exact t k q
theorem Ints.sub {lo hi : Int} {ns ms : List Int} (h : Ints lo hi ns) (t : ∀ k ∈ ms, k ∈ ns) : Ints lo hi ms := fun k hk => h k (t k hk)
theorem Ints.le {lo hi lo' hi' : Int} {ns : List Int} (h : Ints lo hi ns) (a : lo' ≤ lo) (b : hi ≤ hi') : Ints lo' hi' ns := fun k hk => by
  have := h k hk
  omega
theorem szs_ints {lo hi : Int} {ns : List Int} (h : Ints lo hi ns) (h1 : -10000000000000000000000000000000000000000 < lo) (h2 : hi < 10000000000000000000000000000000000000000) : szs (ns.map D.int) = ns.length := by
  induction ns with
  | nil => rfl
  | cons n ns ih =>
    have := h n List.mem_cons_self
    rw [List.map_cons, szs_cons, ih fun k hk => h k (List.mem_cons_of_mem _ hk), sz_int (by omega), List.length_cons]
    omega
theorem deps_ints {ns : List Int} : deps (ns.map D.int) = 0 := by
  induction ns with
  | nil => rfl
  | cons n ns ih => rw [List.map_cons, deps_cons, ih]; rfl
theorem szs_mem {d : D} : ∀ {ds : List D}, d ∈ ds → sz d + 1 ≤ szs ds
  | e :: ds, h => by
    rw [szs_cons]
    rcases List.mem_cons.mp h with q | q
    · rw [q]; omega
    · have := szs_mem q; omega
theorem deps_mem {d : D} : ∀ {ds : List D}, d ∈ ds → dep d ≤ deps ds
  | e :: ds, h => by
    rw [deps_cons]
    rcases List.mem_cons.mp h with q | q
    · rw [q]; omega
    · have := deps_mem q; omega
theorem szs_sub {xs ys : List D} (h : xs.Sublist ys) : szs xs ≤ szs ys := by
  induction h with
  | slnil => exact Nat.le_refl _
  | cons a _ ih => rw [szs_cons]; omega
  | cons_cons a _ ih => rw [szs_cons, szs_cons]; omega
theorem deps_sub {xs ys : List D} (h : xs.Sublist ys) : deps xs ≤ deps ys := by
  induction h with
  | slnil => exact Nat.le_refl _
  | cons a _ ih => rw [deps_cons]; omega
  | cons_cons a _ ih => rw [deps_cons, deps_cons]; omega
theorem cut_sub {α : Type} (xs : List α) (lo hi : Option Int) : (cut xs lo hi).Sublist xs := by
  unfold cut
  exact (List.take_sublist _ _).trans (List.drop_sublist _ _)
theorem szs_rev (xs : List D) : szs xs.reverse = szs xs := by
  induction xs with
  | nil => rfl
  | cons x xs ih => rw [List.reverse_cons, szs_app, szs_cons, szs_cons, szs_nil, ih]; omega
theorem deps_rev (xs : List D) : deps xs.reverse = deps xs := by
  induction xs with
  | nil => rfl
  | cons x xs ih => rw [List.reverse_cons, deps_app, deps_cons, deps_cons, deps_nil, ih]; omega
theorem len_szs (xs : List D) : xs.length ≤ szs xs := by
  induction xs with
  | nil => exact Nat.le_refl _
  | cons x xs ih => rw [szs_cons, List.length_cons]; omega
/-- no more than b, a deep -/
def Sm (a b : Nat) (d : D) : Prop := dep d ≤ a ∧ sz d ≤ b
theorem Sm.le {a b a' b' : Nat} {d : D} (h : Sm a b d) (h1 : a ≤ a') (h2 : b ≤ b') : Sm a' b' d := ⟨Nat.le_trans h.1 h1, Nat.le_trans h.2 h2⟩
def smB (a b : Nat) (d : D) : Bool := decide (dep d ≤ a) && decide (sz d ≤ b)
theorem sm_of {a b : Nat} {d : D} (h : smB a b d = true) : Sm a b d := by
  unfold smB at h
  rw [Bool.and_eq_true, decide_eq_true_eq, decide_eq_true_eq] at h
  exact h
theorem sm_all {a b : Nat} {xs : List D} (h : xs.all (smB a b) = true) : ∀ d ∈ xs, Sm a b d := fun d hd => sm_of (List.all_eq_true.mp h d hd)
def SmL (a b : Nat) : List D → Prop
  | [] => True
  | d :: ds => Sm a b d ∧ SmL a b ds
theorem sm_list {a b : Nat} : ∀ {xs : List D}, SmL a b xs → ∀ d ∈ xs, Sm a b d
  | x :: xs, h, d, hd => by
    rcases List.mem_cons.mp hd with q | q
    · rw [q]; exact h.1
    · exact sm_list h.2 d q
theorem szs_all {a b : Nat} {xs : List D} (h : ∀ d ∈ xs, Sm a b d) : szs xs ≤ (b + 1) * xs.length ∧ deps xs ≤ a := by
  induction xs with
  | nil => exact ⟨Nat.zero_le _, Nat.zero_le _⟩
  | cons x xs ih =>
    obtain ⟨h1, h2⟩ := ih fun d hd => h d (List.mem_cons_of_mem _ hd)
    obtain ⟨h3, h4⟩ := h x List.mem_cons_self
    rw [szs_cons, deps_cons, List.length_cons, Nat.mul_add]
    omega
theorem bo_tupS {b c : Nat} {xs ys : List D} (h : szs xs ≤ b) (k : szs ys ≤ c) (hb : b ≤ 400000) (hc : c ≤ 400000) : binop .add (.tup xs) (.tup ys) = some (.tup (xs ++ ys)) := by
  have h1 := len_szs xs
  have h2 := len_szs ys
  exact bo_tup (show _ ≤ 1000000 by omega)
/-- a short text -/
theorem sz_strI {i : Int} (h : -10000000000000000000000000000000000000000 < i ∧ i < 10000000000000000000000000000000000000000) : sz (.str (Str.ofString (toString i))) ≤ 60 := by
  have h0 : i.natAbs < 10 ^ 40 := show i.natAbs < 10000000000000000000000000000000000000000 by omega
  have h1 : (Str.ofString (toString i)).length ≤ 60 := by
    have := int_text_length_le10 (a := i) (k := 40) (by decide) h0
    rw [ofString_length]
    omega
  have h2 : ((Str.ofString (toString i)).cps.toList.all fun c => decide (c < 16 ^ 8)) = true := by
    rw [Str.ofString_eq_toList]
    rw [List.all_eq_true]
    intro c hc
    simp only [List.mem_map] at hc
    obtain ⟨x, _, rfl⟩ := hc
    have : x.toNat < 1114112 := by
      show x.val.toNat < 1114112
      rcases x.valid with q | ⟨_, q⟩
      · exact Nat.lt_trans q (by decide)
      · exact q
    exact decide_eq_true (Nat.lt_trans this (by decide))
  simp only [sz]
  rw [if_pos]
  · exact h1
  · rw [h2, Bool.and_true]
    exact decide_eq_true (by omega)
theorem bg_str {i : Int} {g : List O} (h : -10000000000000000000000000000000000000000 < i ∧ i < 10000000000000000000000000000000000000000) : biG g .str [.int i] = some (.str (Str.ofString (toString i))) := by
  rw [bg_of (by decide)]
  simp only [biD]
  rw [if_pos (p1900 (show i.natAbs < 10000000000000000000000000000000000000000 by omega))]
/-- no address is told -/
def plain : D → Bool
  | .ref _ => false
  | .scr _ => false
  | _ => true
theorem sz_plain {d : D} {b : Nat} (h : sz d ≤ b) (hb : b < 1000000000000) : plain d = true := by
  cases d <;> first | rfl | (simp [sz] at h; omega)
def isNum (lo hi : Int) : D → Bool
  | .int i => decide (lo ≤ i) && decide (i ≤ hi)
  | _ => false
def isTup : D → Bool
  | .tup _ => true
  | _ => false
theorem ty_tup {d : D} (h : plain d = true) : isTy d .tuple = some (isTup d) := by
  cases d <;> first | rfl | cases h
section
variable {i : Int} {b : Bool} {x : Str} {ds : List D} {ks : DKs} {t : Ty}
theorem ty_i : isTy (.int i) t = some (decide (t = .int)) := by cases t <;> rfl
theorem ty_b : isTy (.bl b) t = some (decide (t = .bool ∨ t = .int)) := by cases t <;> rfl
theorem ty_n : isTy .non t = some false := by cases t <;> rfl
theorem ty_s : isTy (.str x) t = some (decide (t = .str)) := by cases t <;> rfl
theorem ty_t : isTy (.tup ds) t = some (decide (t = .tuple)) := by cases t <;> rfl
theorem ty_l : isTy (.lst ds) t = some (decide (t = .list)) := by cases t <;> rfl
theorem ty_d : isTy (.dct ks ds) t = some (decide (t = .dict)) := by cases t <;> rfl
end
/-! ### == -/
mutual
def eqk : D → Bool
  | .non => true | .bl _ => true | .int _ => true | .str _ => true
  | .tup ds => eqks ds
  | .lst ds => eqks ds
  | .dct _ _ => false | .ref _ => false | .scr _ => false
def eqks : List D → Bool
  | [] => true
  | d :: ds => eqk d && eqks ds
end
mutual
theorem shp_of : ∀ (d : D) (n : Nat), eqk d = true → dep d ≤ n → shp n d = true
  | .non, n, _, _ => by cases n <;> rfl
  | .bl _, n, _, _ => by cases n <;> rfl
  | .int i, n, _, _ => by cases n <;> rfl
  | .str x, n, _, _ => by cases n <;> rfl
  | .tup ds, n, h, hd => by
    simp only [eqk] at h
    simp only [dep] at hd
    cases n with
    | zero => omega
    | succ n => simp only [shp]; exact shps_of ds n h (by omega)
  | .lst ds, n, h, hd => by
    simp only [eqk] at h
    simp only [dep] at hd
    cases n with
    | zero => omega
    | succ n => simp only [shp]; exact shps_of ds n h (by omega)
  | .dct _ _, _, h, _ => by simp [eqk] at h
  | .ref _, _, h, _ => by simp [eqk] at h
  | .scr _, _, h, _ => by simp [eqk] at h
theorem shps_of : ∀ (ds : List D) (n : Nat), eqks ds = true → deps ds ≤ n → shps n ds = true
  | [], _, _, _ => rfl
  | d :: ds, n, h, hd => by
    simp only [eqks, Bool.and_eq_true] at h
    simp only [deps] at hd
    simp only [shps, Bool.and_eq_true]
    exact ⟨shp_of d n h.1 (by omega), shps_of ds n h.2 (by omega)⟩
end
theorem eqks_app (xs ys : List D) : eqks (xs ++ ys) = (eqks xs && eqks ys) := by
  induction xs with
  | nil => rfl
  | cons x xs ih => simp only [List.cons_append, eqks, ih, Bool.and_assoc]
theorem eqks_ints {ns : List Int} : eqks (ns.map D.int) = true := by
  induction ns with
  | nil => rfl
  | cons n ns ih => rw [List.map_cons, eqks, ih]; rfl
theorem eqks_all {xs : List D} (h : ∀ d ∈ xs, eqk d = true) : eqks xs = true := by
  induction xs with
  | nil => rfl
  | cons x xs ih => rw [eqks, h x List.mem_cons_self, ih fun d hd => h d (List.mem_cons_of_mem _ hd)]; rfl
theorem eqk_tup {ds : List D} : eqk (.tup ds) = eqks ds := by simp only [eqk]
theorem eqk_lst {ds : List D} : eqk (.lst ds) = eqks ds := by simp only [eqk]
/-- == of values that are not two texts -/
theorem eqop_D {a b : D} (h : (eqk a = true ∧ eqk b = true) ∧ dep a ≤ 60 ∧ dep b ≤ 60) : eqop a b = some (eqD a b) := by
  have h1 := shp_of a 60 h.1.1 h.2.1
  have h2 := shp_of b 60 h.1.2 h.2.2
  unfold eqop
  split
  · rfl
  · rename_i xs; cases xs <;> rfl
  · rename_i xs; cases xs <;> rfl
  · rw [h1, h2]; rfl
theorem co_eqD {a b : D} (h : (eqk a = true ∧ eqk b = true) ∧ dep a ≤ 60 ∧ dep b ≤ 60) : cmpop .eq a b = some (eqD a b) := eqop_D h
theorem co_neD {a b : D} (h : (eqk a = true ∧ eqk b = true) ∧ dep a ≤ 60 ∧ dep b ≤ 60) : cmpop .ne a b = some (!eqD a b) := by
  show (eqop a b).map not = _
  rw [eqop_D h]; rfl
theorem eqDs_ints {ns ms : List Int} : eqDs (ns.map D.int) (ms.map D.int) = decide (ns = ms) := by
  induction ns generalizing ms with
  | nil => cases ms <;> simp [eqDs]
  | cons n ns ih =>
    cases ms with
    | nil => simp [eqDs]
    | cons m ms => simp only [List.map_cons, eqDs, eqD, ih, List.cons.injEq, Bool.decide_and]; rfl
theorem eqD_tupI {ns ms : List Int} : eqD (.tup (ns.map D.int)) (.tup (ms.map D.int)) = decide (ns = ms) := by simp only [eqD, eqDs_ints]
theorem eqD_lstI {ns ms : List Int} : eqD (.lst (ns.map D.int)) (.lst (ms.map D.int)) = decide (ns = ms) := by simp only [eqD, eqDs_ints]
mutual
theorem eqD_refl : ∀ d : D, eqk d = true → eqD d d = true
  | .non, _ => rfl
  | .bl b, _ => by cases b <;> rfl
  | .int i, _ => by simp [eqD]
  | .str x, _ => by simp [eqD]
  | .tup ds, h => by simp only [eqk] at h; simp only [eqD]; exact eqDs_refl ds h
  | .lst ds, h => by simp only [eqk] at h; simp only [eqD]; exact eqDs_refl ds h
  | .dct _ _, h => by simp [eqk] at h
  | .ref _, h => by simp [eqk] at h
  | .scr _, h => by simp [eqk] at h
theorem eqDs_refl : ∀ ds : List D, eqks ds = true → eqDs ds ds = true
  | [], _ => rfl
  | d :: ds, h => by
    simp only [eqks, Bool.and_eq_true] at h
    simp only [eqDs, eqD_refl d h.1, eqDs_refl ds h.2, Bool.and_self]
end
theorem co_eqR {a : D} (h : eqk a = true) (hd : dep a ≤ 60) : cmpop .eq a a = some true := by rw [co_eqD ⟨⟨h, h⟩, hd, hd⟩, eqD_refl a h]
theorem co_neR {a : D} (h : eqk a = true) (hd : dep a ≤ 60) : cmpop .ne a a = some false := by rw [co_neD ⟨⟨h, h⟩, hd, hd⟩, eqD_refl a h]; rfl
/-- two texts, twice the same -/
theorem co_neS2 {x : Str} : cmpop .ne (.lst [.str x, .str x]) (.lst [.str x, .str x]) = some false := co_neR rfl (show 1 ≤ 60 by decide)
/-! ### in -/
theorem shps_ints {ns : List Int} : shps 60 (ns.map D.int) = true := shps_of _ _ eqks_ints (by rw [deps_ints]; exact Nat.zero_le _)
theorem any_ints {ns : List Int} {i : Int} : ((ns.map D.int).any fun z => eqD z (.int i)) = decide (i ∈ ns) := by
  induction ns with
  | nil => rfl
  | cons n ns ih =>
    rw [List.map_cons, List.any_cons, ih]
    simp only [eqD, List.mem_cons, Bool.decide_or]
    congr 1
    by_cases h : n = i
    · subst h; simp
    · have : ¬ i = n := fun q => h q.symm
      simp [h, this]
theorem co_memT {ns : List Int} {i : Int} : cmpop .mem (.int i) (.tup (ns.map D.int)) = some (decide (i ∈ ns)) := by
  simp only [cmpop, shps_ints, shp, Bool.and_self, if_true, any_ints]
theorem co_memL {ns : List Int} {i : Int} : cmpop .mem (.int i) (.lst (ns.map D.int)) = some (decide (i ∈ ns)) := by
  simp only [cmpop, shps_ints, shp, Bool.and_self, if_true, any_ints]
theorem co_nmemT {ns : List Int} {i : Int} : cmpop .nmem (.int i) (.tup (ns.map D.int)) = some (!decide (i ∈ ns)) := by
  simp only [cmpop, shps_ints, shp, Bool.and_self, if_true, any_ints]
theorem co_nmemL {ns : List Int} {i : Int} : cmpop .nmem (.int i) (.lst (ns.map D.int)) = some (!decide (i ∈ ns)) := by
  simp only [cmpop, shps_ints, shp, Bool.and_self, if_true, any_ints]
end Bk
end
section
set_option Elab.async false
set_option linter.all false
set_option maxRecDepth 100000
set_option maxHeartbeats 4000000
namespace T
open PySem L2 Bk
/-- the deck at o: its cells at i, at most B draws up to now -/
def DK (g : List O) (o B : Nat) : Prop := ∃ (i : Nat) (cells : List Int) (c : Int), o ≠ i ∧ g[o]? = some (.lst [.ref i, .int c]) ∧ g[i]? = some (.lst (cells.map D.int)) ∧ 0 ≤ c ∧ c ≤ (B : Int) ∧ ∀ x ∈ cells, 0 ≤ x
theorem DK.le {g : List O} {o B B' : Nat} (h : DK g o B) (hb : B ≤ B') : DK g o B' := by
  obtain ⟨i, cells, c, h1, h2, h3, h4, h5, h6⟩ := h
  exact ⟨i, cells, c, h1, h2, h3, h4, by omega, h6⟩
section
variable {n o B : Nat} {g : List O} {E : X → List O → Prop}
end
end T
end
section
set_option Elab.async false
set_option linter.all false
set_option maxRecDepth 100000
set_option maxHeartbeats 4000000
namespace T
open PySem L2 Bk
section
variable {n o B : Nat} {g : List O} {E : X → List O → Prop}
/-- ints, and their list -/
theorem ints_of {lo hi : Int} {ds : List D} (h : ∀ d ∈ ds, IsI lo hi d) : ∃ ws : List Int, ds = ws.map D.int ∧ ws.length = ds.length ∧ Ints lo hi ws := by
  induction ds with
  | nil => exact ⟨[], rfl, rfl, .nil⟩
  | cons d ds ih =>
    obtain ⟨ws, e, l, hw⟩ := ih fun x hx => h x (List.mem_cons_of_mem _ hx)
    obtain ⟨c, rfl, h1, h2⟩ := h d List.mem_cons_self
    exact ⟨c :: ws, by rw [e]; rfl, by rw [List.length_cons, List.length_cons, l], .cons ⟨h1, h2⟩ hw⟩
theorem isI {lo hi c : Int} (h : lo ≤ c ∧ c ≤ hi) : IsI lo hi (.int c) := ⟨c, rfl, h.1, h.2⟩
theorem all1 {p : D → Prop} {a : D} (h : p a) : ∀ d ∈ [a], p d := fun d hd => by rw [List.mem_singleton.mp hd]; exact h
theorem allc {p : D → Prop} {a : D} {l : List D} (h : p a) (t : ∀ d ∈ l, p d) : ∀ d ∈ a :: l, p d := fun d hd => by
  rcases List.mem_cons.mp hd with q | q
  · rw [q]; exact h
  · exact t d q
theorem alln {p : D → Prop} : ∀ d ∈ ([] : List D), p d := fun d hd => nomatch hd
theorem alla {p : D → Prop} {l m : List D} (h : ∀ d ∈ l, p d) (t : ∀ d ∈ m, p d) : ∀ d ∈ l ++ m, p d := fun d hd => by
  rcases List.mem_append.mp hd with q | q
  · exact h d q
  · exact t d q
end
end T
end
section
set_option Elab.async false
set_option linter.all false
set_option maxRecDepth 100000
set_option maxHeartbeats 4000000
namespace T
open PySem L2 Bk
/-! ## groups: ascending lists of people -/
/-- a group of people below c -/
def Grp (c : Int) (xs : List Int) : Prop := xs.Pairwise (· < ·) ∧ Ints 0 (c - 1) xs
instance instDecInts {lo hi : Int} {xs : List Int} : Decidable (Ints lo hi xs) := by unfold Ints; infer_instance
instance instDecGrp {c : Int} {xs : List Int} : Decidable (Grp c xs) := by unfold Grp; infer_instance
theorem Grp.nil {c : Int} : Grp c [] := ⟨.nil, .nil⟩
theorem Grp.filter {c : Int} {xs : List Int} (p : Int → Bool) (h : Grp c xs) : Grp c (xs.filter p) := ⟨h.1.sublist List.filter_sublist, h.2.sub fun k hk => (List.mem_filter.mp hk).1⟩
/-- the people below n -/
def upto (n : Nat) : List Int := (List.range n).map fun (k : Nat) => (k : Int)
theorem upto_len {n : Nat} : (upto n).length = n := by simp [upto]
theorem upto_mem {n : Nat} {k : Int} : k ∈ upto n ↔ 0 ≤ k ∧ k < n := by
  unfold upto
  rw [List.mem_map]
  constructor
  · rintro ⟨i, hi, rfl⟩
    have := List.mem_range.mp hi
    omega
  · intro h
    exact ⟨k.toNat, List.mem_range.mpr (by omega), by omega⟩
theorem upto_succ {n : Nat} : upto (n + 1) = upto n ++ [(n : Int)] := by simp [upto, List.range_succ]
theorem upto_lt {n : Nat} : (upto n).Pairwise (· < ·) := by
  unfold upto
  rw [List.pairwise_map]
  exact List.pairwise_lt_range.imp fun {a b} h => by omega
theorem upto_grp {n : Nat} : Grp n (upto n) := ⟨upto_lt, fun k hk => by have := upto_mem.mp hk; omega⟩
theorem upto_D {n : Nat} : (List.range n).map (fun i : Nat => D.int i) = (upto n).map D.int := by
  unfold upto
  rw [List.map_map]; rfl
theorem nodup_len {xs : List Int} {c : Nat} (h : xs.Pairwise (· < ·)) (hb : Ints 0 ((c : Int) - 1) xs) : xs.length ≤ c := by
  induction c generalizing xs with
  | zero =>
    cases xs with
    | nil => exact Nat.le_refl _
    | cons x xs => have := hb x List.mem_cons_self; omega
  | succ c ih =>
    by_cases hm : (c : Int) ∈ xs
    · have h1 := ih (xs := xs.filter fun k => decide (k ≠ (c : Int))) (h.sublist List.filter_sublist) fun k hk => by
        obtain ⟨h2, h3⟩ := List.mem_filter.mp hk
        have := hb k h2
        have h3 : k ≠ (c : Int) := of_decide_eq_true h3
        omega
      have h2 : xs.length ≤ (xs.filter fun k => decide (k ≠ (c : Int))).length + 1 := by
        clear h1 hb ih hm
        induction xs with
        | nil => exact Nat.zero_le _
        | cons x xs ih =>
          obtain ⟨p1, p2⟩ := List.pairwise_cons.mp h
          rw [List.filter_cons]
          by_cases hx : x = (c : Int)
          · have : xs.filter (fun k => decide (k ≠ (c : Int))) = xs := List.filter_eq_self.mpr fun k hk => by
              have := p1 k hk
              exact decide_eq_true (by omega)
            rw [this]
            split <;> simp only [List.length_cons] <;> omega
          · rw [if_pos (decide_eq_true hx)]
            have := ih p2
            simp only [List.length_cons]
            omega
      omega
    · have := ih h fun k hk => by
        have h1 := hb k hk
        have : k ≠ (c : Int) := fun e => hm (e ▸ hk)
        omega
      omega
theorem Grp.len {c : Nat} {xs : List Int} (h : Grp c xs) : xs.length ≤ c := nodup_len h.1 h.2
section
variable {n o B : Nat} {g : List O} {E : X → List O → Prop}
end
end T
end
section
set_option Elab.async false
set_option linter.all false
set_option maxRecDepth 100000
set_option maxHeartbeats 4000000
namespace T
open PySem L2 Bk
/-! ## is_group, weight_of -/
theorem all_num {lo hi : Int} {ds : List D} (h : ds.all (isNum lo hi) = true) : ∃ xs : List Int, ds = xs.map D.int ∧ Ints lo hi xs := by
  induction ds with
  | nil => exact ⟨[], rfl, .nil⟩
  | cons d ds ih =>
    rw [List.all_cons, Bool.and_eq_true] at h
    obtain ⟨xs, e, hx⟩ := ih h.2
    cases d with
    | int i =>
      have h1 := h.1
      simp only [isNum, Bool.and_eq_true, decide_eq_true_eq] at h1
      exact ⟨i :: xs, by rw [e]; rfl, .cons h1 hx⟩
    | _ => exact absurd h.1 Bool.false_ne_true
theorem num_all {lo hi : Int} {xs : List Int} : (xs.map D.int).all (isNum lo hi) = true ↔ Ints lo hi xs := by
  rw [List.all_eq_true]
  constructor
  · intro h k hk
    have := h _ (List.mem_map_of_mem hk)
    simp only [isNum, Bool.and_eq_true, decide_eq_true_eq] at this
    exact this
  · intro h d hd
    obtain ⟨k, hk, rfl⟩ := List.mem_map.mp hd
    have := h k hk
    simp only [isNum, Bool.and_eq_true, decide_eq_true_eq]
    exact this
/-- ascending people below c, as values -/
def isGrp (c : Int) : D → Bool
  | .tup ds => ds.all (isNum 0 (c - 1)) && (match ints? ds with
    | some xs => decide (xs.Pairwise (· < ·))
    | none => false)
  | _ => false
theorem isGrp_iff {c : Int} {d : D} : isGrp c d = true ↔ ∃ xs : List Int, d = .tup (xs.map D.int) ∧ Grp c xs := by
  constructor
  · intro h
    cases d with
    | tup ds =>
      simp only [isGrp, Bool.and_eq_true] at h
      obtain ⟨xs, rfl, hx⟩ := all_num h.1
      rw [ints_map] at h
      exact ⟨xs, rfl, of_decide_eq_true h.2, hx⟩
    | _ => exact absurd h Bool.false_ne_true
  · rintro ⟨xs, rfl, h1, h2⟩
    simp only [isGrp, ints_map, num_all.mpr h2, decide_eq_true h1, Bool.and_self]
theorem zip_lt : ∀ xs : List Int, (xs.zip xs.tail).all (fun p => decide (p.1 < p.2)) = decide (xs.Pairwise (· < ·))
  | [] => rfl
  | [x] => by simp
  | x :: y :: xs => by
    have ih := zip_lt (y :: xs)
    simp only [List.tail_cons, List.zip_cons_cons, List.all_cons] at ih ⊢
    rw [ih, ← Bool.decide_and]
    refine decide_eq_decide.mpr ?_
    rw [List.pairwise_cons (a := x)]
    constructor
    · rintro ⟨h1, h2⟩
      refine ⟨fun k hk => ?_, h2⟩
      rcases List.mem_cons.mp hk with q | q
      · rw [q]; exact h1
      · have := (List.pairwise_cons.mp h2).1 k q; omega
    · rintro ⟨h1, h2⟩
      exact ⟨h1 y List.mem_cons_self, h2⟩
theorem cut_1 {α : Type} (xs : List α) : cut xs (some 1) none = xs.tail := by
  unfold cut
  cases xs with
  | nil => rfl
  | cons x xs =>
    have h1 : HT.sIx (x :: xs).length 0 (some 1) = 1 := by unfold HT.sIx; simp
    have h2 : HT.sIx (x :: xs).length (x :: xs).length none = (x :: xs).length := rfl
    rw [h1, h2, List.drop_succ_cons, List.drop_zero, List.tail_cons, List.take_of_length_le (by simp)]
theorem cut_1u {α : Type} (xs : List α) : cut xs none (some 1) = xs.take 1 := by
  unfold cut
  have h1 : HT.sIx xs.length 0 none = 0 := rfl
  have h2 : HT.sIx xs.length xs.length (some 1) = min xs.length 1 := by unfold HT.sIx; simp; omega
  rw [h1, h2, List.drop_zero, Nat.sub_zero]
  cases xs <;> simp
section
variable {n o B : Nat} {g : List O} {E : X → List O → Prop}
end
end T
end
section
set_option Elab.async false
set_option linter.all false
set_option maxRecDepth 100000
set_option maxHeartbeats 4000000
namespace T
open PySem L2 Bk
/-! ## weights -/
/-- the weight of a group -/
def wt (ws xs : List Int) : Int := (xs.map (gI ws)).sum
theorem wt_nil {ws : List Int} : wt ws [] = 0 := rfl
theorem wt_cons {ws xs : List Int} {x : Int} : wt ws (x :: xs) = gI ws x + wt ws xs := rfl
theorem wt_app {ws xs ys : List Int} : wt ws (xs ++ ys) = wt ws xs + wt ws ys := by
  induction xs with
  | nil => simp [wt]
  | cons x xs ih => rw [List.cons_append, wt_cons, wt_cons, ih]; omega
theorem wt_bound {ws xs : List Int} {lo hi : Int} (h : Ints lo hi ws) (hx : Ints 0 (ws.length - 1) xs) (h0 : 0 ≤ lo) : 0 ≤ wt ws xs ∧ wt ws xs ≤ hi * xs.length := by
  induction xs with
  | nil => simp [wt]
  | cons x xs ih =>
    obtain ⟨a, b⟩ := ih fun k hk => hx k (List.mem_cons_of_mem _ hk)
    have hm := hx x List.mem_cons_self
    have := h _ (gI_mem (l := ws) (k := x) (by omega))
    rw [wt_cons, List.length_cons]
    have e : hi * ((xs.length + 1 : Nat) : Int) = hi * xs.length + hi := by rw [Int.natCast_add, Int.mul_add]; simp
    rw [e]
    omega
section
variable {n o B : Nat} {g : List O} {E : X → List O → Prop}
end
end T
end
section
set_option Elab.async false
set_option linter.all false
set_option maxRecDepth 100000
set_option maxHeartbeats 4000000
namespace T
open PySem L2 Bk
section
variable {n o B : Nat} {g : List O} {E : X → List O → Prop}
theorem sz_cut {ds : List D} {lo hi : Option Int} : szs (cut ds lo hi) ≤ szs ds := szs_sub (cut_sub ds lo hi)
theorem dep_cut {ds : List D} {lo hi : Option Int} : deps (cut ds lo hi) ≤ deps ds := deps_sub (cut_sub ds lo hi)
end
end T
end
section
set_option Elab.async false
set_option linter.all false
set_option maxRecDepth 100000
set_option maxHeartbeats 4000000
namespace T
open PySem L2 Bk
/-! ## moves -/
def others (xs ys : List Int) : List Int := xs.filter fun k => !decide (k ∈ ys)
def aft (gr dn up : List Int) : List Int := sortI (others gr up ++ dn)
/-- the ints of a tuple of ints -/
def ig : D → List Int
  | .tup ds => (ints? ds).getD []
  | _ => []
theorem ig_map {xs : List Int} : ig (.tup (xs.map D.int)) = xs := by simp only [ig, ints_map, Option.getD_some]
def okMv (e : Int) (ws gr dn up : List Int) : Bool := decide (∀ k ∈ dn, k ∉ gr) && (decide (∀ k ∈ up, k ∈ gr) && (decide (1 ≤ wt ws dn - wt ws up) && decide (wt ws dn - wt ws up ≤ e)))
/-- a move that is possible -/
def isMv (e : Int) (ws gr : List Int) : D → Bool
  | .tup [d, u] => isGrp ws.length d && (isGrp ws.length u && okMv e ws gr (ig d) (ig u))
  | _ => false
theorem others_self {xs ys : List Int} : others xs ys = xs ↔ ∀ k ∈ xs, k ∉ ys := by
  unfold others
  rw [List.filter_eq_self]
  constructor
  · intro h k hk; simpa using h k hk
  · intro h k hk; simpa using h k hk
theorem others_nil {xs ys : List Int} : others xs ys = [] ↔ ∀ k ∈ xs, k ∈ ys := by
  unfold others
  rw [List.filter_eq_nil_iff]
  constructor
  · intro h k hk; simpa using h k hk
  · intro h k hk; simpa using h k hk
theorem Grp.others {c : Int} {xs : List Int} (ys : List Int) (h : Grp c xs) : Grp c (others xs ys) := h.filter _
section
variable {n o B : Nat} {g : List O} {E : X → List O → Prop}
theorem eq_self {a b : List Int} (h : a = b ∨ a ≠ b) : True := trivial
theorem co_neTI {xs ys : List Int} : cmpop .ne (.tup (xs.map D.int)) (.tup (ys.map D.int)) = some (!decide (xs = ys)) := by
  rw [co_neD ⟨⟨by rw [eqk_tup, eqks_ints], by rw [eqk_tup, eqks_ints]⟩, by rw [dep_tup, deps_ints]; decide, by rw [dep_tup, deps_ints]; decide⟩, eqD_tupI]
theorem co_eqTI {xs ys : List Int} : cmpop .eq (.tup (xs.map D.int)) (.tup (ys.map D.int)) = some (decide (xs = ys)) := by
  rw [co_eqD ⟨⟨by rw [eqk_tup, eqks_ints], by rw [eqk_tup, eqks_ints]⟩, by rw [dep_tup, deps_ints]; decide, by rw [dep_tup, deps_ints]; decide⟩, eqD_tupI]
theorem isGrp_of {c : Int} {xs : List Int} (h : Grp c xs) : isGrp c (.tup (xs.map D.int)) = true := isGrp_iff.mpr ⟨xs, rfl, h⟩
end
end T
end
section
set_option Elab.async false
set_option linter.all false
set_option maxRecDepth 100000
set_option maxHeartbeats 4000000
namespace T
open PySem L2 Bk
theorem okMv_iff {e : Int} {ws gr dn up : List Int} : okMv e ws gr dn up = true ↔ (∀ k ∈ dn, k ∉ gr) ∧ (∀ k ∈ up, k ∈ gr) ∧ 1 ≤ wt ws dn - wt ws up ∧ wt ws dn - wt ws up ≤ e := by
  simp only [okMv, Bool.and_eq_true, decide_eq_true_eq]
theorem isMv_tup {e : Int} {ws gr dn up : List Int} (h1 : Grp ws.length dn) (h2 : Grp ws.length up) : isMv e ws gr (.tup [.tup (dn.map D.int), .tup (up.map D.int)]) = okMv e ws gr dn up := by
  simp only [isMv, isGrp_of h1, isGrp_of h2, Bool.true_and, ig_map]
theorem Grp.sz {c : Nat} {xs : List Int} (h : Grp c xs) (hc : c ≤ 1000) : szs (xs.map D.int) ≤ c := by
  rw [szs_ints h.2 (by decide) (by omega)]
  exact h.len
/-! ### where a move leads -/
theorem sortI_len (l : List Int) : (sortI l).length = l.length := (sortI_perm l).length_eq
theorem sort_grp {c : Int} {l : List Int} (hn : l.Nodup) (hb : Ints 0 (c - 1) l) : Grp c (sortI l) := by
  refine ⟨?_, hb.sub fun k hk => (sortI_perm l).mem_iff.mp hk⟩
  have h1 := sortI_pw l
  have h2 : (sortI l).Nodup := (sortI_perm l).nodup_iff.mpr hn
  refine (List.pairwise_and_iff.mpr ⟨h1, h2⟩).imp fun {a b} h => ?_
  have : a ≠ b := h.2
  omega
theorem Grp.nodup {c : Int} {xs : List Int} (h : Grp c xs) : xs.Nodup := h.1.imp fun {a b} h => by omega
theorem mem_others {k : Int} {xs ys : List Int} : k ∈ others xs ys ↔ k ∈ xs ∧ k ∉ ys := by
  unfold others
  rw [List.mem_filter]
  simp
theorem mem_aft {k : Int} {gr dn up : List Int} : k ∈ aft gr dn up ↔ (k ∈ gr ∧ k ∉ up) ∨ k ∈ dn := by
  unfold aft
  rw [(sortI_perm _).mem_iff, List.mem_append, mem_others]
theorem aft_grp {c : Int} {gr dn up : List Int} (h : Grp c gr) (hd : Grp c dn) (hn : ∀ k ∈ dn, k ∉ gr) : Grp c (aft gr dn up) := by
  refine sort_grp ?_ ((h.others up).2.app hd.2)
  refine List.nodup_append.mpr ⟨(h.others up).nodup, hd.nodup, fun a ha b hb e => ?_⟩
  subst e
  exact hn a hb (mem_others.mp ha).1
theorem aft_len {gr dn up : List Int} : (aft gr dn up).length ≤ gr.length + dn.length := by
  unfold aft others
  rw [sortI_len, List.length_append]
  have := List.length_filter_le (fun k => !decide (k ∈ up)) gr
  omega
theorem aft_ints {lo hi : Int} {gr dn up : List Int} (h1 : Ints lo hi gr) (h2 : Ints lo hi dn) : Ints lo hi (aft gr dn up) := fun k hk => by
  rcases mem_aft.mp hk with ⟨h, _⟩ | h
  · exact h1 k h
  · exact h2 k h
section
variable {n o B : Nat} {g : List O} {E : X → List O → Prop}
/-- the weights on both sides -/
theorem wt_split {ws : List Int} (xs : List Int) (p : Int → Bool) : wt ws xs = wt ws (xs.filter p) + wt ws (xs.filter fun k => !p k) := by
  induction xs with
  | nil => rfl
  | cons x xs ih =>
    rw [List.filter_cons, List.filter_cons, wt_cons]
    cases hp : p x
    · simp only [Bool.not_false, if_true, Bool.false_eq_true, if_false, wt_cons]; omega
    · simp only [Bool.not_true, if_true, Bool.false_eq_true, if_false, wt_cons]; omega
theorem wt_perm {ws xs ys : List Int} (h : xs.Perm ys) : wt ws xs = wt ws ys := by
  induction h with
  | nil => rfl
  | cons x _ ih => rw [wt_cons, wt_cons, ih]
  | swap x y l => rw [wt_cons, wt_cons, wt_cons, wt_cons]; omega
  | trans _ _ i1 i2 => rw [i1, i2]
theorem filter_mem_eq {c : Int} {xs ys : List Int} (h1 : Grp c xs) (h2 : Grp c ys) : xs.filter (fun k => decide (k ∈ ys)) = ys.filter fun k => decide (k ∈ xs) := by
  refine lt_unique (h1.filter _).1 (h2.filter _).1 fun k => ?_
  rw [List.mem_filter, List.mem_filter]
  simp only [decide_eq_true_eq]
  exact And.comm
theorem wt_diff {c : Int} {ws st go : List Int} (hs : Grp c st) (hg : Grp c go) : wt ws go - wt ws st = wt ws (others go st) - wt ws (others st go) := by
  have a := wt_split (ws := ws) go fun k => decide (k ∈ st)
  have b := wt_split (ws := ws) st fun k => decide (k ∈ go)
  rw [filter_mem_eq hg hs] at a
  unfold others
  omega
theorem okMv_between {c : Int} {e : Int} {ws st go : List Int} (hs : Grp c st) (hg : Grp c go) : okMv e ws st (others go st) (others st go) = (decide (1 ≤ wt ws go - wt ws st) && decide (wt ws go - wt ws st ≤ e)) := by
  rw [wt_diff hs hg]
  simp only [okMv]
  rw [decide_eq_true (show ∀ k ∈ others go st, k ∉ st from fun k hk => (mem_others.mp hk).2), decide_eq_true (show ∀ k ∈ others st go, k ∈ st from fun k hk => (mem_others.mp hk).1)]
  rfl
end
end T
end
section
set_option Elab.async false
set_option linter.all false
set_option maxRecDepth 100000
set_option maxHeartbeats 4000000
namespace T
open PySem L2 Bk
section
variable {n o B : Nat} {g : List O} {E : X → List O → Prop}
/-- some of a few people -/
def Few (ps xs : List Int) : Prop := xs.Pairwise (· < ·) ∧ (∀ k ∈ xs, k ∈ ps) ∧ xs.length ≤ 2
theorem Few.grp {c : Int} {ps xs : List Int} (h : Few ps xs) (hp : Grp c ps) : Grp c xs := ⟨h.1, hp.2.sub h.2.1⟩
end
end T
end
section
set_option Elab.async false
set_option linter.all false
set_option maxRecDepth 100000
set_option maxHeartbeats 4000000
set_option exponentiation.threshold 3000
namespace T
open PySem L2 Bk
/-- a group, as a value -/
def GrpD (c : Int) (d : D) : Prop := ∃ xs, Grp c xs ∧ d = .tup (xs.map D.int)
theorem rg_1 {c : Nat} (h : c ≤ 1000000) : rgD (.int 0) (.int c) = some ((upto c).map D.int) := by
  simp only [rgD]
  rw [if_pos ⟨by omega, by omega, by omega, by omega⟩]
  have : ((c : Int) - 0).toNat = c := by omega
  rw [this, ← upto_D]
  simp
theorem grp_sm {c : Nat} {xs : List Int} (h : Grp c xs) (hc : c ≤ 1000) : szs (xs.map D.int) ≤ c := by
  rw [szs_ints h.2 (by decide) (by omega)]
  exact h.len
theorem rep3 {s : D} : List.replicate (upto 2).length s = [s, s] := by rw [upto_len]; rfl
theorem rep2 {s : D} : List.replicate (Int.toNat 2) s = [s, s] := rfl
section
variable {n o B : Nat} {g : List O} {E : X → List O → Prop}
end
end T
end
section
set_option Elab.async false
set_option linter.all false
set_option maxRecDepth 100000
set_option maxHeartbeats 4000000
set_option exponentiation.threshold 3000
namespace T
open PySem L2 Bk
/-! ## plans -/
/-- a move, as a value -/
def mvD (m : List Int × List Int) : D := .tup [.tup (m.1.map D.int), .tup (m.2.map D.int)]
/-- the moves are possible, one behind another -/
def Walk (e : Int) (ws : List Int) : List Int → List (List Int × List Int) → Prop
  | _, [] => True
  | gr, m :: ms => Grp ws.length m.1 ∧ Grp ws.length m.2 ∧ okMv e ws gr m.1 m.2 = true ∧ Walk e ws (aft gr m.1 m.2) ms
/-- where they lead -/
def dest : List Int → List (List Int × List Int) → List Int
  | gr, [] => gr
  | gr, m :: ms => dest (aft gr m.1 m.2) ms
theorem dest_app {gr : List Int} {ms ls : List (List Int × List Int)} : dest gr (ms ++ ls) = dest (dest gr ms) ls := by
  induction ms generalizing gr with
  | nil => rfl
  | cons m ms ih => exact ih
theorem walk_app {e : Int} {ws gr : List Int} {ms ls : List (List Int × List Int)} : Walk e ws gr (ms ++ ls) ↔ Walk e ws gr ms ∧ Walk e ws (dest gr ms) ls := by
  induction ms generalizing gr with
  | nil => simp [Walk, dest]
  | cons m ms ih =>
    simp only [List.cons_append, Walk, dest, ih, and_assoc]
theorem dest_grp {e : Int} {ws gr : List Int} {ms : List (List Int × List Int)} (h : Walk e ws gr ms) (hg : Grp ws.length gr) : Grp ws.length (dest gr ms) := by
  induction ms generalizing gr with
  | nil => exact hg
  | cons m ms ih =>
    obtain ⟨h1, h2, h3, h4⟩ := h
    exact ih h4 (aft_grp hg h1 (okMv_iff.mp h3).1)
/-- few people move -/
def Slim (ms : List (List Int × List Int)) : Prop := ∀ m ∈ ms, m.1.length ≤ 2 ∧ m.2.length ≤ 2
theorem plan_sz {c : Nat} {ms : List (List Int × List Int)} (h : ∀ m ∈ ms, Grp c m.1 ∧ Grp c m.2) (hs : Slim ms) (hc : c ≤ 1000) : szs (ms.map mvD) ≤ 7 * ms.length ∧ deps (ms.map mvD) ≤ 2 := by
  have : ∀ d ∈ ms.map mvD, Sm 2 6 d := fun d hd => by
    obtain ⟨m, hm, rfl⟩ := List.mem_map.mp hd
    obtain ⟨h1, h2⟩ := h m hm
    obtain ⟨h3, h4⟩ := hs m hm
    have c1 := szs_ints h1.2 (by decide) (by omega)
    have c2 := szs_ints h2.2 (by decide) (by omega)
    unfold mvD
    exact ⟨by (try simp (disch := omega) only [sz_lst, sz_tup, szs_cons, szs_nil, szs_app, szs_rev, sz_int, sz_bl, sz_non, dep_lst, dep_tup, deps_cons, deps_nil, deps_app, deps_rev, dep_int, dep_bl, dep_non, dep_str, deps_ints, List.length_append, List.length_cons, List.length_nil, List.length_map, List.length_reverse]); omega, by (try simp (disch := omega) only [sz_lst, sz_tup, szs_cons, szs_nil, szs_app, szs_rev, sz_int, sz_bl, sz_non, dep_lst, dep_tup, deps_cons, deps_nil, deps_app, deps_rev, dep_int, dep_bl, dep_non, dep_str, deps_ints, List.length_append, List.length_cons, List.length_nil, List.length_map, List.length_reverse]); omega⟩
  have := szs_all this
  rw [List.length_map] at this
  omega
theorem walk_grps {e : Int} {ws gr : List Int} {ms : List (List Int × List Int)} (h : Walk e ws gr ms) : ∀ m ∈ ms, Grp ws.length m.1 ∧ Grp ws.length m.2 := by
  induction ms generalizing gr with
  | nil => intro m hm; cases hm
  | cons x ms ih =>
    intro m hm
    obtain ⟨h1, h2, h3, h4⟩ := h
    rcases List.mem_cons.mp hm with q | q
    · rw [q]; exact ⟨h1, h2⟩
    · exact ih h4 m q
section
variable {n o B : Nat} {g : List O} {E : X → List O → Prop}
end
end T
end
section
set_option Elab.async false
set_option linter.all false
set_option maxRecDepth 100000
set_option maxHeartbeats 4000000
namespace T
open PySem L2 Bk
/-! ## towers -/
def okW (d : D) : Bool := isNum 1 1000000 d
def badF : List D → Nat → D
  | [], _ => .non
  | w :: ws, k => if okW w = true then badF ws (k + 1) else .tup [.int k, .str (Str.ofString "weight")]
/-- the first reason why a value is no tower -/
def terr : D → D
  | .tup [e, w] => if okW e = true then (match w with
    | .tup ws => if 24 < ws.length then .tup [.non, .str (Str.ofString "weights")] else badF ws 0
    | _ => .tup [.non, .str (Str.ofString "weights")]) else .tup [.non, .str (Str.ofString "excess")]
  | _ => .tup [.non, .str (Str.ofString "tower")]
theorem terr_good {e : Int} {ws : List Int} (he : 1 ≤ e ∧ e ≤ 1000000) (hl : ws.length ≤ 24) (hw : Ints 1 1000000 ws) : terr (.tup [.int e, .tup (ws.map D.int)]) = .non := by
  have h1 : okW (.int e) = true := by simp [okW, isNum, he]
  have h2 : ∀ (l : List Int) (k : Nat), Ints 1 1000000 l → badF (l.map D.int) k = .non := by
    intro l
    induction l with
    | nil => intro k _; rfl
    | cons x l ih =>
      intro k h
      have := h x List.mem_cons_self
      rw [List.map_cons, badF, if_pos (by simp [okW, isNum, this])]
      exact ih _ fun y hy => h y (List.mem_cons_of_mem _ hy)
  simp only [terr]
  rw [if_pos h1, if_neg (by rw [List.length_map]; omega)]
  exact h2 ws 0 hw
section
variable {n : Nat} {g : List O}
end
end T
end
section
set_option Elab.async false
set_option linter.all false
set_option maxRecDepth 100000
set_option maxHeartbeats 4000000
set_option exponentiation.threshold 3000
namespace T
open PySem L2 Bk
theorem aft_between {c : Int} {st go : List Int} (hs : Grp c st) (hg : Grp c go) : aft st (others go st) (others st go) = go := by
  refine lt_unique (aft_grp hs (hg.others st) fun k hk => (mem_others.mp hk).2).1 hg.1 fun k => ?_
  rw [mem_aft, mem_others, mem_others]
  by_cases h1 : k ∈ st <;> by_cases h2 : k ∈ go <;> simp [h1, h2]
theorem between_aft {c : Int} {gr dn up : List Int} (h : Grp c gr) (hd : Grp c dn) (hu : Grp c up) (h1 : ∀ k ∈ dn, k ∉ gr) (h2 : ∀ k ∈ up, k ∈ gr) : others (aft gr dn up) gr = dn ∧ others gr (aft gr dn up) = up := by
  have ha := aft_grp (up := up) h hd h1
  constructor
  · refine lt_unique (ha.others gr).1 hd.1 fun k => ?_
    rw [mem_others, mem_aft]
    constructor
    · rintro ⟨⟨a, _⟩ | a, b⟩
      · exact absurd a b
      · exact a
    · intro a; exact ⟨.inr a, h1 k a⟩
  · refine lt_unique (h.others _).1 hu.1 fun k => ?_
    rw [mem_others, mem_aft]
    constructor
    · rintro ⟨a, b⟩
      by_cases q : k ∈ up
      · exact q
      · exact absurd (.inl ⟨a, q⟩) b
    · intro a
      refine ⟨h2 k a, ?_⟩
      rintro (⟨_, b⟩ | b)
      · exact b a
      · exact h1 k b (h2 k a)
theorem wt_aft {c : Int} {ws gr dn up : List Int} (h : Grp c gr) (hd : Grp c dn) (hu : Grp c up) (h1 : ∀ k ∈ dn, k ∉ gr) (h2 : ∀ k ∈ up, k ∈ gr) : wt ws (aft gr dn up) - wt ws gr = wt ws dn - wt ws up := by
  rw [wt_diff h (aft_grp (up := up) h hd h1), (between_aft h hd hu h1 h2).1, (between_aft h hd hu h1 h2).2]
theorem wt_twice {ws xs : List Int} (hx : Ints 0 (ws.length - 1) xs) : wt (ws.map (· * 2)) xs = 2 * wt ws xs := by
  induction xs with
  | nil => rfl
  | cons x xs ih =>
    have hm := hx x List.mem_cons_self
    rw [wt_cons, wt_cons, ih fun k hk => hx k (List.mem_cons_of_mem _ hk)]
    have hl : x.toNat < ws.length := by omega
    have : gI (ws.map (· * 2)) x = gI ws x * 2 := by
      simp only [gI, List.getD_eq_getElem?_getD, List.getElem?_map, List.getElem?_eq_getElem hl, Option.map_some, Option.getD_some]
    rw [this]
    omega
section
variable {n o B : Nat} {g : List O} {E : X → List O → Prop}
/-- a move of the law, as a value -/
def betD (e : Int) (ws st go : List Int) : D := if okMv e ws st (others go st) (others st go) = true then .tup [.tup ((others go st).map D.int), .tup ((others st go).map D.int)] else .non
end
end T
end
section
set_option Elab.async false
set_option linter.all false
set_option maxRecDepth 100000
set_option maxHeartbeats 4000000
namespace T
open PySem L2 Bk
section
variable {n o B : Nat} {g : List O} {E : X → List O → Prop}
end
end T
end
section
set_option Elab.async false
set_option linter.all false
set_option maxRecDepth 100000
set_option maxHeartbeats 4000000
set_option exponentiation.threshold 3000
namespace T
open PySem L2 Bk
/-! ## groups_of -/
/-- the groups on the way -/
def path : List Int → List (List Int × List Int) → List (List Int)
  | gr, [] => [gr]
  | gr, m :: ms => gr :: path (aft gr m.1 m.2) ms
def grD (xs : List Int) : D := .tup (xs.map D.int)
theorem path_snoc {gr : List Int} {ms : List (List Int × List Int)} {m : List Int × List Int} : path gr (ms ++ [m]) = path gr ms ++ [aft (dest gr ms) m.1 m.2] := by
  induction ms generalizing gr with
  | nil => rfl
  | cons x ms ih => simp only [List.cons_append, path, dest, ih]
theorem path_len {gr : List Int} {ms : List (List Int × List Int)} : (path gr ms).length = ms.length + 1 := by
  induction ms generalizing gr with
  | nil => rfl
  | cons x ms ih => simp only [path, List.length_cons, ih]
theorem path_last {gr : List Int} {ms : List (List Int × List Int)} : ∃ l, path gr ms = l ++ [dest gr ms] := by
  induction ms generalizing gr with
  | nil => exact ⟨[], rfl⟩
  | cons x ms ih =>
    obtain ⟨l, e⟩ := ih (gr := aft gr x.1 x.2)
    exact ⟨gr :: l, by simp only [path, dest, e]; rfl⟩
theorem at_path {gr : List Int} {ms : List (List Int × List Int)} : atI ((path gr ms).map grD) (-1) = some (grD (dest gr ms)) := by
  obtain ⟨l, e⟩ := path_last (gr := gr) (ms := ms)
  rw [e, List.map_append]
  exact at_last
theorem walk_take {e : Int} {ws gr : List Int} {ms : List (List Int × List Int)} {j : Nat} {m : List Int × List Int} (h : Walk e ws gr ms) (hj : ms[j]? = some m) :
    Walk e ws gr (ms.take j) ∧ Grp ws.length m.1 ∧ Grp ws.length m.2 ∧ okMv e ws (dest gr (ms.take j)) m.1 m.2 = true := by
  obtain ⟨hjl, hje⟩ := List.getElem?_eq_some_iff.mp hj
  have hw1 : Walk e ws gr (ms.take j ++ ms.drop j) := by rw [List.take_append_drop]; exact h
  obtain ⟨w1, w2⟩ := walk_app.mp hw1
  rw [List.drop_eq_getElem_cons hjl, hje] at w2
  exact ⟨w1, w2.1, w2.2.1, w2.2.2.1⟩
theorem path_take {gr : List Int} {ms : List (List Int × List Int)} {j : Nat} {m : List Int × List Int} (hj : ms[j]? = some m) : path gr (ms.take (j + 1)) = path gr (ms.take j) ++ [aft (dest gr (ms.take j)) m.1 m.2] := by
  rw [List.take_succ, hj, Option.toList_some, path_snoc]
theorem path_grps {e : Int} {ws gr : List Int} {ms : List (List Int × List Int)} (h : Walk e ws gr ms) (hg : Grp ws.length gr) : ∀ x ∈ path gr ms, Grp ws.length x := by
  induction ms generalizing gr with
  | nil => intro x hx; rw [List.mem_singleton.mp hx]; exact hg
  | cons m ms ih =>
    intro x hx
    obtain ⟨h1, h2, h3, h4⟩ := h
    rcases List.mem_cons.mp hx with q | q
    · rw [q]; exact hg
    · exact ih h4 (aft_grp hg h1 (okMv_iff.mp h3).1) x q
theorem path_sz {e : Int} {ws gr : List Int} {ms : List (List Int × List Int)} (h : Walk e ws gr ms) (hg : Grp ws.length gr) (hw : ws.length ≤ 1000) : szs ((path gr ms).map grD) ≤ (ws.length + 1) * (ms.length + 1) ∧ deps ((path gr ms).map grD) ≤ 1 := by
  have : ∀ d ∈ (path gr ms).map grD, Sm 1 ws.length d := fun d hd => by
    obtain ⟨x, hx, rfl⟩ := List.mem_map.mp hd
    have hxg := path_grps h hg x hx
    have := hxg.sz hw
    unfold grD
    exact ⟨by (try simp (disch := omega) only [sz_lst, sz_tup, szs_cons, szs_nil, szs_app, szs_rev, sz_int, sz_bl, sz_non, dep_lst, dep_tup, deps_cons, deps_nil, deps_app, deps_rev, dep_int, dep_bl, dep_non, dep_str, deps_ints, List.length_append, List.length_cons, List.length_nil, List.length_map, List.length_reverse]); omega, by (try simp (disch := omega) only [sz_lst, sz_tup, szs_cons, szs_nil, szs_app, szs_rev, sz_int, sz_bl, sz_non, dep_lst, dep_tup, deps_cons, deps_nil, deps_app, deps_rev, dep_int, dep_bl, dep_non, dep_str, deps_ints, List.length_append, List.length_cons, List.length_nil, List.length_map, List.length_reverse]); omega⟩
  have := szs_all this
  rw [List.length_map, path_len] at this
  exact this
section
variable {n o B : Nat} {g : List O} {E : X → List O → Prop}
end
/-! ## counting in the figures 0 and 1 -/
def lowF : Nat → Nat → Nat → Nat
  | 0, _, l => l
  | f + 1, k, l => if k / 2 ^ l % 2 = 1 then lowF f k (l + 1) else l
def low (k : Nat) : Nat := lowF 20 k 0
def cnt (k : Nat) : List Int × List Int := ([(low k : Int)], upto (low k))
theorem low_le (k : Nat) : low k ≤ 20 := by
  have : ∀ f k l, lowF f k l ≤ l + f := by
    intro f
    induction f with
    | zero => intro k l; exact Nat.le_refl _
    | succ f ih =>
      intro k l
      unfold lowF
      split
      · have := ih k (l + 1); omega
      · omega
  exact this 20 k 0
section
variable {n o B : Nat} {g : List O} {E : X → List O → Prop}
end
end T
end
section
set_option Elab.async false
set_option linter.all false
set_option maxRecDepth 100000
set_option maxHeartbeats 4000000
set_option exponentiation.threshold 3000
namespace T
open PySem L2 Bk
/-- the moves are possible, one behind another -/
def isPl (e : Int) (ws : List Int) : List Int → List D → Bool
  | _, [] => true
  | gr, d :: ds => if isMv e ws gr d = true then (match d with
    | .tup [dn, up] => isPl e ws (aft gr (ig dn) (ig up)) ds
    | _ => false) else false
def isPlan (e : Int) (ws gr : List Int) : D → Bool
  | .tup ds => isPl e ws gr ds
  | _ => false
theorem isMv_inv {e : Int} {ws gr : List Int} {d : D} (h : isMv e ws gr d = true) : ∃ m : List Int × List Int, d = mvD m ∧ Grp ws.length m.1 ∧ Grp ws.length m.2 ∧ okMv e ws gr m.1 m.2 = true := by
  unfold isMv at h
  split at h
  · rename_i d u
    simp only [Bool.and_eq_true] at h
    obtain ⟨a, b, c⟩ := h
    obtain ⟨dn, rfl, gd⟩ := isGrp_iff.mp a
    obtain ⟨up, rfl, gu⟩ := isGrp_iff.mp b
    rw [ig_map, ig_map] at c
    exact ⟨(dn, up), rfl, gd, gu, c⟩
  · cases h
theorem isMv_mvD {e : Int} {ws gr : List Int} {m : List Int × List Int} (h1 : Grp ws.length m.1) (h2 : Grp ws.length m.2) : isMv e ws gr (mvD m) = okMv e ws gr m.1 m.2 := isMv_tup h1 h2
theorem isPl_mv {e : Int} {ws gr : List Int} {m : List Int × List Int} {ds : List D} (h : isMv e ws gr (mvD m) = true) : isPl e ws gr (mvD m :: ds) = isPl e ws (aft gr m.1 m.2) ds := by
  show (if isMv e ws gr (mvD m) = true then isPl e ws (aft gr (ig (.tup (m.1.map D.int))) (ig (.tup (m.2.map D.int)))) ds else false) = _
  rw [if_pos h, ig_map, ig_map]
theorem isPl_no {e : Int} {ws gr : List Int} {d : D} {ds : List D} (h : isMv e ws gr d = false) : isPl e ws gr (d :: ds) = false := by
  show (if isMv e ws gr d = true then _ else false) = _
  rw [h]; rfl
section
variable {n o B : Nat} {g : List O} {E : X → List O → Prop}
theorem elem_sz {v : D} {b : Nat} (h : sz v ≤ b) : ∀ ds, v = .tup ds → ∀ d ∈ ds, sz d ≤ b := fun ds e d hd => by
  subst e
  rw [sz_tup] at h
  have := szs_mem hd
  omega
theorem at_mv {ms : List (List Int × List Int)} {k : Int} (h : 0 ≤ k ∧ k < ms.length) : ∃ m ∈ ms, atI (ms.map mvD) k = some (mvD m) := by
  have hl : k.toNat < ms.length := by omega
  refine ⟨ms[k.toNat], List.getElem_mem hl, at_int h.1 ?_⟩
  rw [List.getElem?_map, List.getElem?_eq_getElem hl]; rfl
end
end T
end
section
set_option Elab.async false
set_option linter.all false
set_option maxRecDepth 100000
set_option maxHeartbeats 4000000
set_option exponentiation.threshold 3000
namespace T
open PySem L2 Bk
section
variable {n o B : Nat} {g : List O} {E : X → List O → Prop}
theorem cut_mem {α : Type} {xs : List α} {lo hi : Option Int} {x : α} (h : x ∈ cut xs lo hi) : x ∈ xs := (cut_sub xs lo hi).subset h
end
end T
end
section
set_option Elab.async false
set_option linter.all false
set_option maxRecDepth 100000
set_option maxHeartbeats 1000000


set_option exponentiation.threshold 3000
namespace T
open PySem L2 Bk
def bits (k : Nat) : List Int := (upto 10).filter fun i => decide ((k : Int) / 2 ^ i.toNat % 2 = 1)
def w10 : List Int := [1, 2, 4, 8, 16, 32, 64, 128, 256, 512]
def goodAt (k : Nat) : Bool := decide (Grp 10 (cnt k).1) && decide (Grp 10 (cnt k).2) && okMv 1 w10 (bits k) (cnt k).1 (cnt k).2 && decide (aft (bits k) (cnt k).1 (cnt k).2 = bits (k + 1))
theorem good_all : (List.range 1023).all goodAt = true := by decide +kernel
theorem cnt_walk (m : Nat) (h : m ≤ 1023) : Walk 1 w10 [] ((List.range m).map cnt) ∧ dest [] ((List.range m).map cnt) = bits m := by
  induction m with
  | zero => exact ⟨trivial, by decide⟩
  | succ m ih =>
    obtain ⟨h1, h2⟩ := ih (by omega)
    have hg := List.all_eq_true.mp good_all m (List.mem_range.mpr h)
    simp only [goodAt, Bool.and_eq_true, decide_eq_true_eq] at hg
    obtain ⟨⟨⟨q1, q2⟩, q3⟩, q4⟩ := hg
    rw [List.range_succ, List.map_append]
    refine ⟨walk_app.mpr ⟨h1, q1, q2, ?_, trivial⟩, ?_⟩
    · rw [h2]; exact q3
    · rw [dest_app, h2]; exact q4
theorem path_bits (m : Nat) (h : m ≤ 1023) : path [] ((List.range m).map cnt) = (List.range (m + 1)).map bits := by
  induction m with
  | zero => decide
  | succ m ih =>
    have h1 := ih (by omega)
    have h2 := (cnt_walk (m + 1) h).2
    have e0 : (List.range (m + 1)).map cnt = (List.range m).map cnt ++ [cnt m] := by rw [List.range_succ, List.map_append]; rfl
    rw [e0, path_snoc, h1, List.range_succ (n := m + 1), List.map_append]
    rw [e0, dest_app] at h2
    have h3 : aft (dest [] ((List.range m).map cnt)) (cnt m).1 (cnt m).2 = bits (m + 1) := h2
    rw [h3]
    rfl
section
variable {n o B : Nat} {g : List O} {E : X → List O → Prop}
end
end T
end
section
set_option Elab.async false
set_option linter.all false
set_option maxRecDepth 100000
set_option maxHeartbeats 4000000
set_option exponentiation.threshold 3000
namespace T
open PySem L2 Bk
theorem cut_to {α : Type} (xs : List α) (k : Nat) : cut xs none (some (k : Int)) = xs.take k := by
  unfold cut
  have h1 : HT.sIx xs.length 0 none = 0 := rfl
  have h2 : HT.sIx xs.length xs.length (some (k : Int)) = min xs.length k := by
    unfold HT.sIx
    simp only
    rw [if_neg (by omega)]
    omega
  rw [h1, h2, List.drop_zero, Nat.sub_zero]
  by_cases h : xs.length ≤ k
  · rw [Nat.min_eq_left h, List.take_length, List.take_of_length_le h]
  · rw [Nat.min_eq_right (by omega)]
theorem cut_from {α : Type} (xs : List α) (k : Nat) : cut xs (some (k : Int)) none = xs.drop k := by
  unfold cut
  have h1 : HT.sIx xs.length 0 (some (k : Int)) = min xs.length k := by
    unfold HT.sIx
    simp only
    rw [if_neg (by omega)]
    omega
  have h2 : HT.sIx xs.length xs.length none = xs.length := rfl
  rw [h1, h2]
  by_cases h : xs.length ≤ k
  · rw [Nat.min_eq_left h, List.drop_length, List.drop_eq_nil_of_le h, List.take_nil]
  · rw [Nat.min_eq_right (by omega), List.take_of_length_le (by rw [List.length_drop]; omega)]
theorem isPl_app {e : Int} {ws gr : List Int} {ms : List (List Int × List Int)} {ds : List D} (h : Walk e ws gr ms) : isPl e ws gr (ms.map mvD ++ ds) = isPl e ws (dest gr ms) ds := by
  induction ms generalizing gr with
  | nil => rfl
  | cons m ms ih =>
    obtain ⟨h1, h2, h3, h4⟩ := h
    rw [List.map_cons, List.cons_append, isPl_mv (by rw [isMv_mvD h1 h2]; exact h3), ih h4]
    rfl
theorem isPl_walk {e : Int} {ws gr : List Int} {ms : List (List Int × List Int)} (h : Walk e ws gr ms) : isPl e ws gr (ms.map mvD) = true := by
  have := isPl_app (ds := []) h
  rw [List.append_nil] at this
  rw [this]; rfl
section
variable {n o B : Nat} {g : List O} {E : X → List O → Prop}
end
end T
end
section
set_option Elab.async false
set_option linter.all false
set_option maxRecDepth 100000
set_option maxHeartbeats 4000000
set_option exponentiation.threshold 3000
namespace T
open PySem L2 Bk
/-! ## parts of plans -/
theorem isPl_iff {e : Int} {ws gr : List Int} {ms : List (List Int × List Int)} (hm : ∀ m ∈ ms, Grp ws.length m.1 ∧ Grp ws.length m.2) : isPl e ws gr (ms.map mvD) = true ↔ Walk e ws gr ms := by
  induction ms generalizing gr with
  | nil => simp [isPl, Walk]
  | cons m ms ih =>
    obtain ⟨h1, h2⟩ := hm m List.mem_cons_self
    have ih := fun gr => ih (gr := gr) fun x hx => hm x (List.mem_cons_of_mem _ hx)
    rw [List.map_cons, Walk]
    cases hq : okMv e ws gr m.1 m.2 with
    | true =>
      rw [isPl_mv (by rw [isMv_mvD h1 h2]; exact hq), ih]
      exact ⟨fun h => ⟨h1, h2, rfl, h⟩, fun h => h.2.2.2⟩
    | false =>
      rw [isPl_no (by rw [isMv_mvD h1 h2]; exact hq)]
      exact ⟨fun h => Bool.noConfusion h, fun ⟨_, _, h, _⟩ => Bool.noConfusion h⟩
theorem isPlan_walk {e : Int} {ws gr : List Int} {ms : List (List Int × List Int)} (h : Walk e ws gr ms) : isPlan e ws gr (.tup (ms.map mvD)) = true := (isPl_iff (walk_grps h)).mpr h
theorem path_ne {gr : List Int} {ms : List (List Int × List Int)} : path gr ms ≠ [] := by cases ms <;> simp [path]
theorem path_app {gr : List Int} {ms ls : List (List Int × List Int)} : path gr (ms ++ ls) = (path gr ms).dropLast ++ path (dest gr ms) ls := by
  induction ms generalizing gr with
  | nil => rfl
  | cons m ms ih =>
    rw [List.cons_append, path, path, dest, ih, List.dropLast_cons_of_ne_nil path_ne, List.cons_append]
theorem path_get {gr : List Int} {ms : List (List Int × List Int)} {j : Nat} (hj : j ≤ ms.length) : (path gr ms)[j]? = some (dest gr (ms.take j)) := by
  induction ms generalizing gr j with
  | nil =>
    have : j = 0 := by simpa using hj
    subst this; rfl
  | cons m ms ih =>
    cases j with
    | zero => rfl
    | succ j => rw [path, List.getElem?_cons_succ, ih (by simpa using hj), List.take_succ_cons, dest]
theorem path_more {e : Int} {ws gr : List Int} {ms : List (List Int × List Int)} (h : Walk e ws gr ms) (hg : Grp ws.length gr) : ∀ p ∈ (path gr ms).zip (path gr ms).tail, 1 ≤ wt ws p.2 - wt ws p.1 ∧ wt ws p.2 - wt ws p.1 ≤ e := by
  induction ms generalizing gr with
  | nil => intro p hp; cases hp
  | cons m ms ih =>
    obtain ⟨h1, h2, h3, h4⟩ := h
    obtain ⟨o1, o2, o3, o4⟩ := okMv_iff.mp h3
    have hw := wt_aft (ws := ws) hg h1 h2 o1 o2
    have ha := aft_grp (up := m.2) hg h1 o1
    intro p hp
    rw [path, List.tail_cons] at hp
    have hc : path (aft gr m.1 m.2) ms = aft gr m.1 m.2 :: (path (aft gr m.1 m.2) ms).tail := by cases ms <;> rfl
    rw [hc, List.zip_cons_cons] at hp
    rcases List.mem_cons.mp hp with q | q
    · subst q
      dsimp only
      omega
    · rw [← hc] at q
      exact ih h4 ha p q
theorem walk_wt {e : Int} {ws gr : List Int} {ms : List (List Int × List Int)} (h : Walk e ws gr ms) (hg : Grp ws.length gr) : wt ws gr + ms.length ≤ wt ws (dest gr ms) := by
  induction ms generalizing gr with
  | nil => simp [dest]
  | cons m ms ih =>
    obtain ⟨h1, h2, h3, h4⟩ := h
    obtain ⟨o1, o2, o3, o4⟩ := okMv_iff.mp h3
    have hw := wt_aft (ws := ws) hg h1 h2 o1 o2
    have := ih h4 (aft_grp (up := m.2) hg h1 o1)
    rw [dest, List.length_cons]
    omega
theorem walk_first {e : Int} {ws g1 g2 : List Int} {ms : List (List Int × List Int)} {p : Int} (h1 : Walk e ws g1 ms) (h2 : Walk e ws g2 ms) (hp : ∃ m ∈ ms, p ∈ m.1 ∨ p ∈ m.2) : p ∈ g1 ↔ p ∈ g2 := by
  induction ms generalizing g1 g2 with
  | nil => obtain ⟨m, hm, _⟩ := hp; cases hm
  | cons m ms ih =>
    obtain ⟨_, _, h13, h14⟩ := h1
    obtain ⟨_, _, h23, h24⟩ := h2
    obtain ⟨a1, a2, _⟩ := okMv_iff.mp h13
    obtain ⟨b1, b2, _⟩ := okMv_iff.mp h23
    by_cases q1 : p ∈ m.1
    · exact ⟨fun z => absurd z (a1 p q1), fun z => absurd z (b1 p q1)⟩
    · by_cases q2 : p ∈ m.2
      · exact ⟨fun _ => b2 p q2, fun _ => a2 p q2⟩
      · have := ih h14 h24 (by
          obtain ⟨x, hx, hq⟩ := hp
          rcases List.mem_cons.mp hx with r | r
          · subst r
            exact (hq.elim q1 q2).elim
          · exact ⟨x, r, hq⟩)
        simpa [mem_aft, q1, q2] using this
theorem walk_not {gr : List Int} {ms : List (List Int × List Int)} {p : Int} (hp : ¬ ∃ m ∈ ms, p ∈ m.1 ∨ p ∈ m.2) : p ∈ dest gr ms ↔ p ∈ gr := by
  induction ms generalizing gr with
  | nil => exact Iff.rfl
  | cons m ms ih =>
    rw [dest, ih fun ⟨x, hx, hq⟩ => hp ⟨x, List.mem_cons_of_mem _ hx, hq⟩, mem_aft]
    have q1 : p ∉ m.1 := fun z => hp ⟨m, List.mem_cons_self, .inl z⟩
    have q2 : p ∉ m.2 := fun z => hp ⟨m, List.mem_cons_self, .inr z⟩
    simp [q1, q2]
theorem walk_twice {e : Int} {ws gr : List Int} {ms : List (List Int × List Int)} (h : Walk e ws gr (ms ++ ms)) (hg : Grp ws.length gr) : ms = [] := by
  obtain ⟨h1, h2⟩ := walk_app.mp h
  have hd := dest_grp h1 hg
  have e1 : dest gr ms = gr := lt_unique hd.1 hg.1 fun p => by
    by_cases hp : ∃ m ∈ ms, p ∈ m.1 ∨ p ∈ m.2
    · exact (walk_first h1 h2 hp).symm
    · exact walk_not hp
  have := walk_wt h1 hg
  rw [e1] at this
  exact List.eq_nil_of_length_eq_zero (by omega)
/-- the same plan from a greater group, with a greater excess, more people -/
theorem walk_wide {e e2 : Int} {ws ws2 gr gr2 : List Int} {ms : List (List Int × List Int)} (h : Walk e ws gr ms) (he : e ≤ e2) (hw : ∀ xs, Ints 0 (ws.length - 1) xs → wt ws2 xs = wt ws xs) (hl : ws.length ≤ ws2.length) (hm : ∀ p : Int, p < ws.length → (p ∈ gr2 ↔ p ∈ gr)) : Walk e2 ws2 gr2 ms := by
  induction ms generalizing gr gr2 with
  | nil => trivial
  | cons m ms ih =>
    obtain ⟨h1, h2, h3, h4⟩ := h
    obtain ⟨o1, o2, o3, o4⟩ := okMv_iff.mp h3
    have up : ∀ xs : List Int, Grp ws.length xs → Grp ws2.length xs := fun xs hx => ⟨hx.1, hx.2.le (by omega) (by omega)⟩
    refine ⟨up _ h1, up _ h2, okMv_iff.mpr ⟨fun k hk z => ?_, fun k hk => ?_, ?_, ?_⟩, ih h4 fun p hp => ?_⟩
    · have := h1.2 k hk
      exact o1 k hk ((hm k (by omega)).mp z)
    · have := h2.2 k hk
      exact (hm k (by omega)).mpr (o2 k hk)
    · rw [hw _ h1.2, hw _ h2.2]; exact o3
    · rw [hw _ h1.2, hw _ h2.2]; omega
    · rw [mem_aft, mem_aft, hm p hp]
theorem wt_more {ws more xs : List Int} (hx : Ints 0 (ws.length - 1) xs) : wt (ws ++ more) xs = wt ws xs := by
  unfold wt
  congr 1
  refine List.map_congr_left fun k hk => ?_
  have := hx k hk
  simp only [gI, List.getD_eq_getElem?_getD]
  rw [List.getElem?_append_left (by omega)]
end T
end
section
set_option Elab.async false
set_option linter.all false
set_option maxRecDepth 100000
set_option maxHeartbeats 4000000
set_option exponentiation.threshold 3000
namespace T
open PySem L2 Bk
theorem cut_m1 {α : Type} (xs : List α) : cut xs none (some (-1)) = xs.dropLast := by
  unfold cut
  have h1 : HT.sIx xs.length 0 none = 0 := rfl
  have h2 : HT.sIx xs.length xs.length (some (-1)) = xs.length - 1 := by
    unfold HT.sIx
    simp only
    rw [if_pos (by omega)]
    omega
  rw [h1, h2, List.drop_zero, Nat.sub_zero, List.dropLast_eq_take]
theorem at_pathN {gr : List Int} {ms : List (List Int × List Int)} {j : Nat} (hj : j ≤ ms.length) : atI ((path gr ms).map grD) (j : Int) = some (grD (dest gr (ms.take j))) :=
  at_nat (by rw [List.getElem?_map, path_get hj]; rfl)
theorem dropLast_map' {α β : Type} (f : α → β) (l : List α) : (l.map f).dropLast = l.dropLast.map f := by simp
section
variable {n o B : Nat} {g : List O} {E : X → List O → Prop}
end
end T
end
section
set_option Elab.async false
set_option linter.all false
set_option maxRecDepth 100000
set_option maxHeartbeats 4000000
set_option exponentiation.threshold 3000
namespace T
open PySem L2 Bk
/-! ## an order of the people -/
theorem erase_perm {α : Type} : ∀ {l : List α} {i : Nat} {x : α}, l[i]? = some x → (x :: l.eraseIdx i).Perm l
  | a :: l, 0, x, h => by
    simp at h; subst h; exact .refl _
  | a :: l, i + 1, x, h => by
    rw [List.eraseIdx_cons_succ]
    exact (List.Perm.swap a x _).trans ((erase_perm (l := l) (by simpa using h)).cons a)
theorem erase_map {α β : Type} (f : α → β) : ∀ (l : List α) (i : Nat), (l.map f).eraseIdx i = (l.eraseIdx i).map f
  | [], _ => rfl
  | _ :: _, 0 => rfl
  | a :: l, i + 1 => by rw [List.map_cons, List.eraseIdx_cons_succ, List.eraseIdx_cons_succ, List.map_cons, erase_map f l i]
theorem popI_ints {l : List Int} {k : Int} (h : 0 ≤ k ∧ k < l.length) (hl : l.length < 100000) : ∃ x, l[k.toNat]? = some x ∧ popI (l.map D.int) (.int k) = some ((l.eraseIdx k.toNat).map D.int, .int x) := by
  have hk : k.toNat < l.length := by omega
  refine ⟨l[k.toNat], List.getElem?_eq_getElem hk, ?_⟩
  unfold popI ixN
  dsimp only
  rw [if_pos ⟨by omega, by omega⟩, if_pos h.1, List.length_map, if_pos h.2]
  simp only [Option.bind_some, List.getElem?_map, List.getElem?_eq_getElem hk, Option.map_some, erase_map]
section
variable {n o B : Nat} {g : List O} {E : X → List O → Prop}
/-! ## people renamed -/
/-- the place of p in the order -/
def plc (os : List Int) (p : Int) : Int := (os.idxOf p : Nat)
theorem plc_get {os : List Int} {p : Int} (h : p ∈ os) : os[(plc os p).toNat]? = some p := by
  unfold plc
  rw [Int.toNat_natCast, List.getElem?_eq_getElem (List.idxOf_lt_length_iff.mpr h), List.getElem_idxOf]
theorem plc_inj {os : List Int} {p q : Int} (hp : p ∈ os) (hq : q ∈ os) (h : plc os p = plc os q) : p = q := by
  have h1 := plc_get hp
  rw [h, plc_get hq] at h1
  exact (Option.some.inj h1).symm
theorem plc_lt {os : List Int} {p : Int} (hp : p ∈ os) : 0 ≤ plc os p ∧ plc os p < os.length := by
  have := List.idxOf_lt_length_iff.mpr hp
  unfold plc
  omega
/-- a group, renamed -/
def ren (os xs : List Int) : List Int := sortI (xs.map (plc os))
theorem mem_ren {os xs : List Int} {p : Int} (hp : p ∈ os) (hx : ∀ k ∈ xs, k ∈ os) : plc os p ∈ ren os xs ↔ p ∈ xs := by
  unfold ren
  rw [(sortI_perm _).mem_iff, List.mem_map]
  exact ⟨fun ⟨q, hq, e⟩ => by rw [← plc_inj (hx q hq) hp e]; exact hq, fun h => ⟨p, h, rfl⟩⟩
theorem ren_grp {os xs : List Int} {c : Nat} (hc : os.length = c) (hx : ∀ k ∈ xs, k ∈ os) (hd : xs.Nodup) : Grp c (ren os xs) := by
  refine sort_grp ?_ fun k hk => ?_
  · induction xs with
    | nil => exact .nil
    | cons x xs ih =>
      rw [List.map_cons, List.nodup_cons]
      rw [List.nodup_cons] at hd
      refine ⟨fun hm => ?_, ih (fun k hk => hx k (List.mem_cons_of_mem _ hk)) hd.2⟩
      obtain ⟨q, hq, e⟩ := List.mem_map.mp hm
      have := plc_inj (hx q (List.mem_cons_of_mem _ hq)) (hx x List.mem_cons_self) e
      rw [this] at hq
      exact hd.1 hq
  · obtain ⟨p, hp, rfl⟩ := List.mem_map.mp hk
    have := plc_lt (hx p hp)
    omega
theorem wt_ren {os ws xs : List Int} (hx : ∀ k ∈ xs, k ∈ os) : wt (os.map (gI ws)) (ren os xs) = wt ws xs := by
  unfold ren
  rw [wt_perm (sortI_perm _)]
  unfold wt
  rw [List.map_map]
  congr 1
  refine List.map_congr_left fun k hk => ?_
  show gI (os.map (gI ws)) (plc os k) = gI ws k
  simp only [gI, List.getD_eq_getElem?_getD, List.getElem?_map, plc_get (hx k hk), Option.map_some, Option.getD_some]
theorem walk_ren {e : Int} {os ws gr gr2 : List Int} {ms : List (List Int × List Int)} (ho : os.Perm (upto ws.length)) (h : Walk e ws gr ms) (hm : ∀ p ∈ os, (plc os p ∈ gr2 ↔ p ∈ gr)) : Walk e (os.map (gI ws)) gr2 (ms.map fun m => (ren os m.1, ren os m.2)) := by
  have hl : os.length = ws.length := by rw [ho.length_eq, upto_len]
  have hin : ∀ xs, Grp ws.length xs → ∀ k ∈ xs, k ∈ os := fun xs hx k hk => by
    have := hx.2 k hk
    exact ho.mem_iff.mpr (upto_mem.mpr ⟨by omega, by omega⟩)
  induction ms generalizing gr gr2 with
  | nil => trivial
  | cons m ms ih =>
    obtain ⟨h1, h2, h3, h4⟩ := h
    obtain ⟨o1, o2, o3, o4⟩ := okMv_iff.mp h3
    have i1 := hin _ h1
    have i2 := hin _ h2
    rw [List.map_cons, Walk]
    refine ⟨ren_grp (by rw [List.length_map]) i1 h1.nodup, ren_grp (by rw [List.length_map]) i2 h2.nodup, okMv_iff.mpr ⟨fun k hk z => ?_, fun k hk => ?_, ?_, ?_⟩, ih h4 fun p hp => ?_⟩
    · obtain ⟨p, hp, rfl⟩ := List.mem_map.mp ((sortI_perm _).mem_iff.mp hk)
      exact o1 p hp ((hm p (i1 p hp)).mp z)
    · obtain ⟨p, hp, rfl⟩ := List.mem_map.mp ((sortI_perm _).mem_iff.mp hk)
      exact (hm p (i2 p hp)).mpr (o2 p hp)
    · rw [wt_ren i1, wt_ren i2]; exact o3
    · rw [wt_ren i1, wt_ren i2]; exact o4
    · rw [mem_aft, mem_aft, hm p hp, mem_ren hp i1, mem_ren hp i2]
/-- the names: a dict -/
def nmD (os : List Int) (k : Nat) : D := .dct (.k ((os.take k).map Sum.inl)) ((upto k).map D.int)
theorem val_nm {os : List Int} {p : Int} (hp : p ∈ os) : valD (os.map (Sum.inl : Int → Key)) ((upto os.length).map D.int) (.inl p) = some (.int (plc os p)) := by
  have key : ∀ (xs : List Int) (k : Nat), p ∈ xs → ((xs.map (Sum.inl : Int → Key)).zip ((List.range' k xs.length).map fun i : Nat => D.int i)).find? (fun q => decide (q.1 = .inl p)) = some (.inl p, .int ((k + xs.idxOf p : Nat) : Int)) := by
    intro xs
    induction xs with
    | nil => intro k h; cases h
    | cons x xs ih =>
      intro k h
      rw [List.length_cons, List.range'_succ, List.map_cons, List.map_cons, List.zip_cons_cons]
      by_cases e : x = p
      · subst e
        rw [List.find?_cons_of_pos (by simp), List.idxOf_cons_self]
        rfl
      · rw [List.find?_cons_of_neg (by simpa using e), ih (k + 1) (by
          rcases List.mem_cons.mp h with q | q
          · exact absurd q.symm e
          · exact q), show (x :: xs).idxOf p = xs.idxOf p + 1 from by rw [List.idxOf_cons, show (x == p) = false from beq_false_of_ne e]; rfl]
        congr 3
        omega
  unfold valD
  have e1 : (upto os.length).map D.int = (List.range' 0 os.length).map fun i : Nat => D.int i := by
    rw [← upto_D, List.range_eq_range']
  rw [e1, key os 0 hp]
  simp [plc]
theorem put_nm {os : List Int} {k : Nat} {p : Int} (hd : os.Nodup) (hk : os[k]? = some p) (hl : os.length ≤ 1000) : putI (.k ((os.take k).map Sum.inl)) ((upto k).map D.int) (.int p) (.int k) = some (.k ((os.take (k + 1)).map Sum.inl), (upto (k + 1)).map D.int) := by
  unfold putI
  rw [if_pos (by show ((os.take k).map (Sum.inl : Int → Key)).length < LIM; rw [List.length_map, List.length_take]; simp only [LIM]; omega)]
  simp only [keyI, Option.map_some, Option.some.injEq]
  unfold putD
  have hn : p ∉ os.take k := fun hm => by
    obtain ⟨hkl, hke⟩ := List.getElem?_eq_some_iff.mp hk
    have : os = os.take k ++ p :: os.drop (k + 1) := by
      rw [← hke, ← List.drop_eq_getElem_cons hkl, List.take_append_drop]
    rw [this] at hd
    exact (List.nodup_append.mp hd).2.2 p hm p List.mem_cons_self rfl
  have ha : ¬ ((((os.take k).map (Sum.inl : Int → Key)).any fun x => decide (x = Sum.inl p)) = true) := by
    rw [List.any_eq_true]
    rintro ⟨x, hx, he⟩
    obtain ⟨q, hq, rfl⟩ := List.mem_map.mp hx
    have : q = p := by simpa using he
    rw [this] at hq
    exact hn hq
  rw [if_neg ha, List.take_succ, hk, Option.toList_some, List.map_append, upto_succ, List.map_append]
  rfl
end
end T
end
section
set_option Elab.async false
set_option linter.all false
set_option maxRecDepth 100000
set_option maxHeartbeats 4000000
namespace T
open PySem L2 Bk
/-- what is drawn from at o: at most B draws up to now -/
def DR (g : List O) (o B : Nat) : Prop := ∃ (i : Nat) (cells rests : List Int) (c : Int), o ≠ i ∧ g[o]? = some (.lst [.lst (cells.map D.int), .int c, .ref i]) ∧ g[i]? = some (.lst (rests.map D.int)) ∧ cells.length = rests.length ∧ 0 < cells.length ∧ 0 ≤ c ∧ c ≤ (B : Int)
theorem DR.le {g : List O} {o B B' : Nat} (h : DR g o B) (hb : B ≤ B') : DR g o B' := by
  obtain ⟨i, cells, rests, c, h1, h2, h3, h4, h5, h6, h7⟩ := h
  exact ⟨i, cells, rests, c, h1, h2, h3, h4, h5, h6, by omega⟩
section
variable {n o B : Nat} {g : List O} {E : X → List O → Prop}
theorem bo_p4 : binop .pow (.int 10) (.int 4) = some (.int 10000) := rfl
theorem perm_ints {lo hi : Int} {ys ws : List Int} (h : Ints lo hi ws) (p : ys.Perm ws) : Ints lo hi ys := h.sub fun k hk => p.mem_iff.mp hk
theorem last_ints {lo hi : Int} {ws : List Int} (h : Ints lo hi ws) (hne : ws ≠ []) : ∃ w, atI (ws.map D.int) (-1) = some (.int w) ∧ lo ≤ w ∧ w ≤ hi := by
  have e := List.dropLast_concat_getLast hne
  refine ⟨ws.getLast hne, ?_, h _ (List.getLast_mem hne)⟩
  have e2 : ws.map D.int = ws.dropLast.map D.int ++ [D.int (ws.getLast hne)] := by
    conv => lhs; rw [← e]
    rw [List.map_append]; rfl
  rw [e2]
  exact at_last
end
end T
end
section
set_option Elab.async false
set_option linter.all false
set_option maxRecDepth 100000
set_option maxHeartbeats 4000000
namespace T
open PySem L2 Bk
section
variable {n o B : Nat} {g : List O} {E : X → List O → Prop}
theorem draws2_ok {ns : List Int} {Q : D → List O → Prop} (q : ∀ g', DR g' 1 0 → Q (.ref 1) g') : Okx (callN gl P (n + 1) f__law_draws_2 [.scr ns] []) Q E := by
  refine okx_call P__law_draws_2 rfl ?_
  simp only [b__law_draws_2]
  have e1 : sliceD (.scr ns) none (some 63) = some (.lst ((cut ns none (some 63)).map .int)) := rfl
  have e2 : biG [] .len [.scr ns] = some (.int ns.length) := rfl
  obtain ⟨z, hz, hz1, hz2⟩ : ∃ z : List Int, binop .mul (.lst [.int 0]) (.int (if (ns.length : Int) = 0 then 1 else 0)) = some (.lst (z.map D.int)) ∧ z.length ≤ 1 ∧ (ns.length = 0 → z.length = 1) := by
    by_cases h : (ns.length : Int) = 0
    · rw [if_pos h]; exact ⟨[0], rfl, by simp, fun _ => rfl⟩
    · rw [if_neg h]; exact ⟨[], rfl, by simp, fun q => absurd (by omega) h⟩
  have hcut : (cut ns none (some 63)).length ≤ 63 ∧ (ns.length ≠ 0 → 0 < (cut ns none (some 63)).length) := by
    unfold cut
    rw [List.length_take, List.length_drop]
    have h1 : HT.sIx ns.length ns.length (some 63) = min 63 ns.length := by
      unfold HT.sIx
      simp
    have h0 : HT.sIx ns.length 0 none = 0 := rfl
    rw [h1, h0]
    omega
  (try simp only [e1, exs_c, exs_n, ex, ev, evs, evB, evIf, evS, evP, okx_bind, okx_ok, okx_exc, okx_lift, okx_asB, okx_if, okx_noX, lift_some, Res.bind_ok, Res.bind_exc, List.map_cons, List.map_nil, List.length_cons, List.length_nil, List.replicate, List.cons_append, List.nil_append, List.getElem?_cons_zero, List.getElem?_cons_succ, List.set_cons_zero, List.set_cons_succ, Nat.reduceSub, Nat.reduceAdd, if_true, Bool.false_eq_true, if_false, Option.some.injEq, exists_eq_left', exists_eq_left, bo_add, bo_sub, bo_p6, bo_p8, bo_p18, bo_p39, co_lt, co_le, co_gt, co_ge, co_eqi, co_nei, co_eqL, co_neL, co_eqT, co_neT, co_eqs, co_nes, co_neS2, beq_self_eq_true, co_isN, co_notN, co_isB, co_notB, co_memT, co_memL, co_nmemT, co_nmemL, bg_lenL, bg_lenT, bg_tupL, bg_tupT, bg_lstL, bg_lstT, bg_intB, bg_intI, bg_max, bg_min, bg_sumL, bg_sumT, bg_allL, bg_sortL, bg_sortT, ixd_l, ixd_t, de_lst, de_tup, tg_nm, tg_2, tg_3, tg_l2, tg_l3, dT_nm, dT_tp, nn_non, nn_int, nn_tup, nn_lst, bg_maxL, bg_maxT, bg_minL, bg_minP, at_0, at_1, at_2, at_3, Tg.slots, wipeR, iterD, items, op_none, op_int, sld_l, sld_t, rev_l, rev_t, D.bl.injEq, D.int.injEq, Bool.not_true, Bool.not_false, Bool.true_eq_false, and_true, true_and, mkT_0, mkL_0, mkT_1, mkL_1, mkT_2, mkL_2, mkT_3, mkL_3, mkT_4, mkL_4, mkT_5, mkL_5, mkT_6, mkL_6, mkT_7, mkL_7, mkT_8, mkL_8, mkT_9, mkL_9, mkT_10, mkL_10, mkT_11, mkL_11, mkT_12, mkL_12, mkT_13, mkL_13, mkT_14, mkL_14, mkT_15, mkL_15, mkT_16, mkL_16, mkT_17, mkL_17, mkT_18, mkL_18, mkT_19, mkL_19, mkT_20, mkL_20, par_2, par_3, parS_2, parS_3, reduceCtorEq, false_and, exists_false, Int.reduceNeg, Int.reduceAdd, Int.reduceSub, slotOf, decide_eq_true_eq, List.length_map, List.length_range, Bool.not_eq_true', decide_eq_false_iff_not, decide_not, Bool.not_not, ty_i, ty_b, ty_n, ty_s, ty_t, ty_l, ty_d, decide_true, decide_false, Int.reduceLE, Int.reduceLT, and_self, Int.reduceToNat, Int.toNat_natCast, lim_0, lim_1, lim_2, lim_3, lim_4, lim_5, lim_6, lim_7, lim_8, lim_9, lim_10, lim_11, lim_12, lim_13, lim_14, lim_15, lim_16, lim_17, lim_18, lim_19, lim_20, lim_21, lim_22, lim_23, lim_24, nc_0, nc_1, nc_2, nc_3, nc_4, nc_5, nc_6, nc_7, nc_8, nc_9, nc_10, nc_11, nc_12, Int.reduceEq, mkSeq, Option.map_some, Option.bind_some, List.getElem?_nil, or_true, or_false, true_or, false_or, not_true_eq_false, not_false_eq_true])
  refine okx_map (fun x : Int => D.int x.natAbs) (by omega) ?_ ?_
  · intro a acc _ hl
    (try simp only [bg_abs, hl, exs_c, exs_n, ex, ev, evs, evB, evIf, evS, evP, okx_bind, okx_ok, okx_exc, okx_lift, okx_asB, okx_if, okx_noX, lift_some, Res.bind_ok, Res.bind_exc, List.map_cons, List.map_nil, List.length_cons, List.length_nil, List.replicate, List.cons_append, List.nil_append, List.getElem?_cons_zero, List.getElem?_cons_succ, List.set_cons_zero, List.set_cons_succ, Nat.reduceSub, Nat.reduceAdd, if_true, Bool.false_eq_true, if_false, Option.some.injEq, exists_eq_left', exists_eq_left, bo_add, bo_sub, bo_p6, bo_p8, bo_p18, bo_p39, co_lt, co_le, co_gt, co_ge, co_eqi, co_nei, co_eqL, co_neL, co_eqT, co_neT, co_eqs, co_nes, co_neS2, beq_self_eq_true, co_isN, co_notN, co_isB, co_notB, co_memT, co_memL, co_nmemT, co_nmemL, bg_lenL, bg_lenT, bg_tupL, bg_tupT, bg_lstL, bg_lstT, bg_intB, bg_intI, bg_max, bg_min, bg_sumL, bg_sumT, bg_allL, bg_sortL, bg_sortT, ixd_l, ixd_t, de_lst, de_tup, tg_nm, tg_2, tg_3, tg_l2, tg_l3, dT_nm, dT_tp, nn_non, nn_int, nn_tup, nn_lst, bg_maxL, bg_maxT, bg_minL, bg_minP, at_0, at_1, at_2, at_3, Tg.slots, wipeR, iterD, items, op_none, op_int, sld_l, sld_t, rev_l, rev_t, D.bl.injEq, D.int.injEq, Bool.not_true, Bool.not_false, Bool.true_eq_false, and_true, true_and, mkT_0, mkL_0, mkT_1, mkL_1, mkT_2, mkL_2, mkT_3, mkL_3, mkT_4, mkL_4, mkT_5, mkL_5, mkT_6, mkL_6, mkT_7, mkL_7, mkT_8, mkL_8, mkT_9, mkL_9, mkT_10, mkL_10, mkT_11, mkL_11, mkT_12, mkL_12, mkT_13, mkL_13, mkT_14, mkL_14, mkT_15, mkL_15, mkT_16, mkL_16, mkT_17, mkL_17, mkT_18, mkL_18, mkT_19, mkL_19, mkT_20, mkL_20, par_2, par_3, parS_2, parS_3, reduceCtorEq, false_and, exists_false, Int.reduceNeg, Int.reduceAdd, Int.reduceSub, slotOf, decide_eq_true_eq, List.length_map, List.length_range, Bool.not_eq_true', decide_eq_false_iff_not, decide_not, Bool.not_not, ty_i, ty_b, ty_n, ty_s, ty_t, ty_l, ty_d, decide_true, decide_false, Int.reduceLE, Int.reduceLT, and_self, Int.reduceToNat, Int.toNat_natCast, lim_0, lim_1, lim_2, lim_3, lim_4, lim_5, lim_6, lim_7, lim_8, lim_9, lim_10, lim_11, lim_12, lim_13, lim_14, lim_15, lim_16, lim_17, lim_18, lim_19, lim_20, lim_21, lim_22, lim_23, lim_24, nc_0, nc_1, nc_2, nc_3, nc_4, nc_5, nc_6, nc_7, nc_8, nc_9, nc_10, nc_11, nc_12, Int.reduceEq, mkSeq, Option.map_some, Option.bind_some, List.getElem?_nil, or_true, or_false, true_or, false_or, not_true_eq_false, not_false_eq_true])
  obtain ⟨cells, hc, hl0, hl⟩ : ∃ cells : List Int, ((cut ns none (some 63)).map fun x : Int => D.int x.natAbs) ++ z.map D.int = cells.map D.int ∧ 0 < cells.length ∧ cells.length ≤ 64 := by
    refine ⟨(cut ns none (some 63)).map (fun x : Int => (x.natAbs : Int)) ++ z, by rw [List.map_append, List.map_map]; rfl, ?_, ?_⟩
    · rw [List.length_append, List.length_map]
      by_cases h : ns.length = 0
      · rw [hz2 h]; omega
      · have := hcut.2 h; omega
    · rw [List.length_append, List.length_map]
      omega
  have hlen : ((cut ns none (some 63)).map fun x : Int => D.int x.natAbs).length + (z.map D.int).length ≤ LIM := by
    have h1 := congrArg List.length hc
    rw [List.length_append] at h1
    rw [h1, List.length_map]
    unfold LIM; omega
  (try simp only [e2, hz, bo_lst hlen, hc, exs_c, exs_n, ex, ev, evs, evB, evIf, evS, evP, okx_bind, okx_ok, okx_exc, okx_lift, okx_asB, okx_if, okx_noX, lift_some, Res.bind_ok, Res.bind_exc, List.map_cons, List.map_nil, List.length_cons, List.length_nil, List.replicate, List.cons_append, List.nil_append, List.getElem?_cons_zero, List.getElem?_cons_succ, List.set_cons_zero, List.set_cons_succ, Nat.reduceSub, Nat.reduceAdd, if_true, Bool.false_eq_true, if_false, Option.some.injEq, exists_eq_left', exists_eq_left, bo_add, bo_sub, bo_p6, bo_p8, bo_p18, bo_p39, co_lt, co_le, co_gt, co_ge, co_eqi, co_nei, co_eqL, co_neL, co_eqT, co_neT, co_eqs, co_nes, co_neS2, beq_self_eq_true, co_isN, co_notN, co_isB, co_notB, co_memT, co_memL, co_nmemT, co_nmemL, bg_lenL, bg_lenT, bg_tupL, bg_tupT, bg_lstL, bg_lstT, bg_intB, bg_intI, bg_max, bg_min, bg_sumL, bg_sumT, bg_allL, bg_sortL, bg_sortT, ixd_l, ixd_t, de_lst, de_tup, tg_nm, tg_2, tg_3, tg_l2, tg_l3, dT_nm, dT_tp, nn_non, nn_int, nn_tup, nn_lst, bg_maxL, bg_maxT, bg_minL, bg_minP, at_0, at_1, at_2, at_3, Tg.slots, wipeR, iterD, items, op_none, op_int, sld_l, sld_t, rev_l, rev_t, D.bl.injEq, D.int.injEq, Bool.not_true, Bool.not_false, Bool.true_eq_false, and_true, true_and, mkT_0, mkL_0, mkT_1, mkL_1, mkT_2, mkL_2, mkT_3, mkL_3, mkT_4, mkL_4, mkT_5, mkL_5, mkT_6, mkL_6, mkT_7, mkL_7, mkT_8, mkL_8, mkT_9, mkL_9, mkT_10, mkL_10, mkT_11, mkL_11, mkT_12, mkL_12, mkT_13, mkL_13, mkT_14, mkL_14, mkT_15, mkL_15, mkT_16, mkL_16, mkT_17, mkL_17, mkT_18, mkL_18, mkT_19, mkL_19, mkT_20, mkL_20, par_2, par_3, parS_2, parS_3, reduceCtorEq, false_and, exists_false, Int.reduceNeg, Int.reduceAdd, Int.reduceSub, slotOf, decide_eq_true_eq, List.length_map, List.length_range, Bool.not_eq_true', decide_eq_false_iff_not, decide_not, Bool.not_not, ty_i, ty_b, ty_n, ty_s, ty_t, ty_l, ty_d, decide_true, decide_false, Int.reduceLE, Int.reduceLT, and_self, Int.reduceToNat, Int.toNat_natCast, lim_0, lim_1, lim_2, lim_3, lim_4, lim_5, lim_6, lim_7, lim_8, lim_9, lim_10, lim_11, lim_12, lim_13, lim_14, lim_15, lim_16, lim_17, lim_18, lim_19, lim_20, lim_21, lim_22, lim_23, lim_24, nc_0, nc_1, nc_2, nc_3, nc_4, nc_5, nc_6, nc_7, nc_8, nc_9, nc_10, nc_11, nc_12, Int.reduceEq, mkSeq, Option.map_some, Option.bind_some, List.getElem?_nil, or_true, or_false, true_or, false_or, not_true_eq_false, not_false_eq_true])
  refine okx_map (fun x => D.int (x * (if 1000000000000000000 ≤ x then 1 else 0))) (by omega) ?_ ?_
  · intro a acc _ hl
    (try simp only [bo_mul (i := a) (j := if 1000000000000000000 ≤ a then 1 else 0) (.inr (by split <;> decide)), hl, exs_c, exs_n, ex, ev, evs, evB, evIf, evS, evP, okx_bind, okx_ok, okx_exc, okx_lift, okx_asB, okx_if, okx_noX, lift_some, Res.bind_ok, Res.bind_exc, List.map_cons, List.map_nil, List.length_cons, List.length_nil, List.replicate, List.cons_append, List.nil_append, List.getElem?_cons_zero, List.getElem?_cons_succ, List.set_cons_zero, List.set_cons_succ, Nat.reduceSub, Nat.reduceAdd, if_true, Bool.false_eq_true, if_false, Option.some.injEq, exists_eq_left', exists_eq_left, bo_add, bo_sub, bo_p6, bo_p8, bo_p18, bo_p39, co_lt, co_le, co_gt, co_ge, co_eqi, co_nei, co_eqL, co_neL, co_eqT, co_neT, co_eqs, co_nes, co_neS2, beq_self_eq_true, co_isN, co_notN, co_isB, co_notB, co_memT, co_memL, co_nmemT, co_nmemL, bg_lenL, bg_lenT, bg_tupL, bg_tupT, bg_lstL, bg_lstT, bg_intB, bg_intI, bg_max, bg_min, bg_sumL, bg_sumT, bg_allL, bg_sortL, bg_sortT, ixd_l, ixd_t, de_lst, de_tup, tg_nm, tg_2, tg_3, tg_l2, tg_l3, dT_nm, dT_tp, nn_non, nn_int, nn_tup, nn_lst, bg_maxL, bg_maxT, bg_minL, bg_minP, at_0, at_1, at_2, at_3, Tg.slots, wipeR, iterD, items, op_none, op_int, sld_l, sld_t, rev_l, rev_t, D.bl.injEq, D.int.injEq, Bool.not_true, Bool.not_false, Bool.true_eq_false, and_true, true_and, mkT_0, mkL_0, mkT_1, mkL_1, mkT_2, mkL_2, mkT_3, mkL_3, mkT_4, mkL_4, mkT_5, mkL_5, mkT_6, mkL_6, mkT_7, mkL_7, mkT_8, mkL_8, mkT_9, mkL_9, mkT_10, mkL_10, mkT_11, mkL_11, mkT_12, mkL_12, mkT_13, mkL_13, mkT_14, mkL_14, mkT_15, mkL_15, mkT_16, mkL_16, mkT_17, mkL_17, mkT_18, mkL_18, mkT_19, mkL_19, mkT_20, mkL_20, par_2, par_3, parS_2, parS_3, reduceCtorEq, false_and, exists_false, Int.reduceNeg, Int.reduceAdd, Int.reduceSub, slotOf, decide_eq_true_eq, List.length_map, List.length_range, Bool.not_eq_true', decide_eq_false_iff_not, decide_not, Bool.not_not, ty_i, ty_b, ty_n, ty_s, ty_t, ty_l, ty_d, decide_true, decide_false, Int.reduceLE, Int.reduceLT, and_self, Int.reduceToNat, Int.toNat_natCast, lim_0, lim_1, lim_2, lim_3, lim_4, lim_5, lim_6, lim_7, lim_8, lim_9, lim_10, lim_11, lim_12, lim_13, lim_14, lim_15, lim_16, lim_17, lim_18, lim_19, lim_20, lim_21, lim_22, lim_23, lim_24, nc_0, nc_1, nc_2, nc_3, nc_4, nc_5, nc_6, nc_7, nc_8, nc_9, nc_10, nc_11, nc_12, Int.reduceEq, mkSeq, Option.map_some, Option.bind_some, List.getElem?_nil, or_true, or_false, true_or, false_or, not_true_eq_false, not_false_eq_true])
  (try simp only [exs_c, exs_n, ex, ev, evs, evB, evIf, evS, evP, okx_bind, okx_ok, okx_exc, okx_lift, okx_asB, okx_if, okx_noX, lift_some, Res.bind_ok, Res.bind_exc, List.map_cons, List.map_nil, List.length_cons, List.length_nil, List.replicate, List.cons_append, List.nil_append, List.getElem?_cons_zero, List.getElem?_cons_succ, List.set_cons_zero, List.set_cons_succ, Nat.reduceSub, Nat.reduceAdd, if_true, Bool.false_eq_true, if_false, Option.some.injEq, exists_eq_left', exists_eq_left, bo_add, bo_sub, bo_p6, bo_p8, bo_p18, bo_p39, co_lt, co_le, co_gt, co_ge, co_eqi, co_nei, co_eqL, co_neL, co_eqT, co_neT, co_eqs, co_nes, co_neS2, beq_self_eq_true, co_isN, co_notN, co_isB, co_notB, co_memT, co_memL, co_nmemT, co_nmemL, bg_lenL, bg_lenT, bg_tupL, bg_tupT, bg_lstL, bg_lstT, bg_intB, bg_intI, bg_max, bg_min, bg_sumL, bg_sumT, bg_allL, bg_sortL, bg_sortT, ixd_l, ixd_t, de_lst, de_tup, tg_nm, tg_2, tg_3, tg_l2, tg_l3, dT_nm, dT_tp, nn_non, nn_int, nn_tup, nn_lst, bg_maxL, bg_maxT, bg_minL, bg_minP, at_0, at_1, at_2, at_3, Tg.slots, wipeR, iterD, items, op_none, op_int, sld_l, sld_t, rev_l, rev_t, D.bl.injEq, D.int.injEq, Bool.not_true, Bool.not_false, Bool.true_eq_false, and_true, true_and, mkT_0, mkL_0, mkT_1, mkL_1, mkT_2, mkL_2, mkT_3, mkL_3, mkT_4, mkL_4, mkT_5, mkL_5, mkT_6, mkL_6, mkT_7, mkL_7, mkT_8, mkL_8, mkT_9, mkL_9, mkT_10, mkL_10, mkT_11, mkL_11, mkT_12, mkL_12, mkT_13, mkL_13, mkT_14, mkL_14, mkT_15, mkL_15, mkT_16, mkL_16, mkT_17, mkL_17, mkT_18, mkL_18, mkT_19, mkL_19, mkT_20, mkL_20, par_2, par_3, parS_2, parS_3, reduceCtorEq, false_and, exists_false, Int.reduceNeg, Int.reduceAdd, Int.reduceSub, slotOf, decide_eq_true_eq, List.length_map, List.length_range, Bool.not_eq_true', decide_eq_false_iff_not, decide_not, Bool.not_not, ty_i, ty_b, ty_n, ty_s, ty_t, ty_l, ty_d, decide_true, decide_false, Int.reduceLE, Int.reduceLT, and_self, Int.reduceToNat, Int.toNat_natCast, lim_0, lim_1, lim_2, lim_3, lim_4, lim_5, lim_6, lim_7, lim_8, lim_9, lim_10, lim_11, lim_12, lim_13, lim_14, lim_15, lim_16, lim_17, lim_18, lim_19, lim_20, lim_21, lim_22, lim_23, lim_24, nc_0, nc_1, nc_2, nc_3, nc_4, nc_5, nc_6, nc_7, nc_8, nc_9, nc_10, nc_11, nc_12, Int.reduceEq, mkSeq, Option.map_some, Option.bind_some, List.getElem?_nil, or_true, or_false, true_or, false_or, not_true_eq_false, not_false_eq_true])
  refine q _ ⟨0, cells, cells.map fun x => x * (if 1000000000000000000 ≤ x then 1 else 0), 0, by decide, rfl, ?_, by rw [List.length_map], hl0, by decide, by decide⟩
  rw [List.map_map]; rfl
theorem next2_ok {k : Int} {Q : D → List O → Prop} (h : DR g o B) (hk : 0 < k) (hk2 : k < 2 ^ 60) (hB : B < 2 ^ 22) (q : ∀ v g', 0 ≤ v → v < k → DR g' o (B + 1) → Q (.int v) g') : Okx (callN gl P (n + 1) f__law_next_2 [.ref o, .int k] g) Q E := by
  suffices Okx (callN gl P (n + 1) f__law_next_2 [.ref o, .int k] g) (fun d g' => ∃ v, d = .int v ∧ 0 ≤ v ∧ v < k ∧ DR g' o (B + 1)) NoX from this.to fun a g' ⟨v, e, h1, h2, h3⟩ => by rw [e]; exact q v g' h1 h2 h3
  obtain ⟨i, cells, rests, c, h1, h2, h3, h4, h5, h6, h7⟩ := h
  refine okx_call P__law_next_2 rfl ?_
  simp only [b__law_next_2]
  have hset : ∀ z : D, setAt [D.lst (cells.map D.int), D.int c, D.ref i] 1 z = some [.lst (cells.map D.int), z, .ref i] := fun _ => rfl
  have ho : o < g.length := (List.getElem?_eq_some_iff.mp h2).1
  have g1 : (g.set o (.lst [.lst (cells.map D.int), .int (c + 1), .ref i]))[o]? = some (.lst [.lst (cells.map D.int), .int (c + 1), .ref i]) := by simp [ho]
  have g2 : (g.set o (.lst [.lst (cells.map D.int), .int (c + 1), .ref i]))[i]? = some (.lst (rests.map D.int)) := by rw [List.getElem?_set_ne h1]; exact h3
  have i1 := Int.emod_nonneg c (show ((cells.length : Nat) : Int) ≠ 0 by omega)
  have i2 := Int.emod_lt_of_pos c (show (0 : Int) < ((cells.length : Nat) : Int) by omega)
  generalize hq : c % ((cells.length : Nat) : Int) = p at i1 i2
  simp only [de_ref h2, h2, hset, de_ref g1, de_ref g2, bg_lenR g2, List.length_map, bo_mod (show (0 : Int) < ((cells.length : Nat) : Int) by omega), hq, at_gI (l := rests) (k := p) ⟨i1, by omega⟩, at_gI (l := cells) (k := p) ⟨i1, i2⟩, exs_c, exs_n, ex, ev, evs, evB, evIf, evS, evP, okx_bind, okx_ok, okx_exc, okx_lift, okx_asB, okx_if, okx_noX, lift_some, Res.bind_ok, Res.bind_exc, List.map_cons, List.map_nil, List.length_cons, List.length_nil, List.replicate, List.cons_append, List.nil_append, List.getElem?_cons_zero, List.getElem?_cons_succ, List.set_cons_zero, List.set_cons_succ, Nat.reduceSub, Nat.reduceAdd, if_true, Bool.false_eq_true, if_false, Option.some.injEq, exists_eq_left', exists_eq_left, bo_add, bo_sub, bo_p6, bo_p8, bo_p18, bo_p39, co_lt, co_le, co_gt, co_ge, co_eqi, co_nei, co_eqL, co_neL, co_eqT, co_neT, co_eqs, co_nes, co_neS2, beq_self_eq_true, co_isN, co_notN, co_isB, co_notB, co_memT, co_memL, co_nmemT, co_nmemL, bg_lenL, bg_lenT, bg_tupL, bg_tupT, bg_lstL, bg_lstT, bg_intB, bg_intI, bg_max, bg_min, bg_sumL, bg_sumT, bg_allL, bg_sortL, bg_sortT, ixd_l, ixd_t, de_lst, de_tup, tg_nm, tg_2, tg_3, tg_l2, tg_l3, dT_nm, dT_tp, nn_non, nn_int, nn_tup, nn_lst, bg_maxL, bg_maxT, bg_minL, bg_minP, at_0, at_1, at_2, at_3, Tg.slots, wipeR, iterD, items, op_none, op_int, sld_l, sld_t, rev_l, rev_t, D.bl.injEq, D.int.injEq, Bool.not_true, Bool.not_false, Bool.true_eq_false, and_true, true_and, mkT_0, mkL_0, mkT_1, mkL_1, mkT_2, mkL_2, mkT_3, mkL_3, mkT_4, mkL_4, mkT_5, mkL_5, mkT_6, mkL_6, mkT_7, mkL_7, mkT_8, mkL_8, mkT_9, mkL_9, mkT_10, mkL_10, mkT_11, mkL_11, mkT_12, mkL_12, mkT_13, mkL_13, mkT_14, mkL_14, mkT_15, mkL_15, mkT_16, mkL_16, mkT_17, mkL_17, mkT_18, mkL_18, mkT_19, mkL_19, mkT_20, mkL_20, par_2, par_3, parS_2, parS_3, reduceCtorEq, false_and, exists_false, Int.reduceNeg, Int.reduceAdd, Int.reduceSub, slotOf, decide_eq_true_eq, List.length_map, List.length_range, Bool.not_eq_true', decide_eq_false_iff_not, decide_not, Bool.not_not, ty_i, ty_b, ty_n, ty_s, ty_t, ty_l, ty_d, decide_true, decide_false, Int.reduceLE, Int.reduceLT, and_self, Int.reduceToNat, Int.toNat_natCast, lim_0, lim_1, lim_2, lim_3, lim_4, lim_5, lim_6, lim_7, lim_8, lim_9, lim_10, lim_11, lim_12, lim_13, lim_14, lim_15, lim_16, lim_17, lim_18, lim_19, lim_20, lim_21, lim_22, lim_23, lim_24, nc_0, nc_1, nc_2, nc_3, nc_4, nc_5, nc_6, nc_7, nc_8, nc_9, nc_10, nc_11, nc_12, Int.reduceEq, mkSeq, Option.map_some, Option.bind_some, List.getElem?_nil, or_true, or_false, true_or, false_or, not_true_eq_false, not_false_eq_true]
  by_cases hb : 0 < gI rests p
  · rw [if_pos (by simpa using hb)]
    have hs : setAt (rests.map D.int) p (D.int (gI rests p / k)) = some ((rests.set p.toNat (gI rests p / k)).map D.int) := by
      rw [set_int i1 (by rw [List.length_map]; omega), List.map_set]
    have hi2 : i < g.length := (List.getElem?_eq_some_iff.mp h3).1
    (try simp only [bo_mod hk, bo_fdiv ⟨hk, by omega⟩, g2, hs, at_gI (l := rests) (k := p) ⟨i1, by omega⟩, de_ref g2, exs_c, exs_n, ex, ev, evs, evB, evIf, evS, evP, okx_bind, okx_ok, okx_exc, okx_lift, okx_asB, okx_if, okx_noX, lift_some, Res.bind_ok, Res.bind_exc, List.map_cons, List.map_nil, List.length_cons, List.length_nil, List.replicate, List.cons_append, List.nil_append, List.getElem?_cons_zero, List.getElem?_cons_succ, List.set_cons_zero, List.set_cons_succ, Nat.reduceSub, Nat.reduceAdd, if_true, Bool.false_eq_true, if_false, Option.some.injEq, exists_eq_left', exists_eq_left, bo_add, bo_sub, bo_p6, bo_p8, bo_p18, bo_p39, co_lt, co_le, co_gt, co_ge, co_eqi, co_nei, co_eqL, co_neL, co_eqT, co_neT, co_eqs, co_nes, co_neS2, beq_self_eq_true, co_isN, co_notN, co_isB, co_notB, co_memT, co_memL, co_nmemT, co_nmemL, bg_lenL, bg_lenT, bg_tupL, bg_tupT, bg_lstL, bg_lstT, bg_intB, bg_intI, bg_max, bg_min, bg_sumL, bg_sumT, bg_allL, bg_sortL, bg_sortT, ixd_l, ixd_t, de_lst, de_tup, tg_nm, tg_2, tg_3, tg_l2, tg_l3, dT_nm, dT_tp, nn_non, nn_int, nn_tup, nn_lst, bg_maxL, bg_maxT, bg_minL, bg_minP, at_0, at_1, at_2, at_3, Tg.slots, wipeR, iterD, items, op_none, op_int, sld_l, sld_t, rev_l, rev_t, D.bl.injEq, D.int.injEq, Bool.not_true, Bool.not_false, Bool.true_eq_false, and_true, true_and, mkT_0, mkL_0, mkT_1, mkL_1, mkT_2, mkL_2, mkT_3, mkL_3, mkT_4, mkL_4, mkT_5, mkL_5, mkT_6, mkL_6, mkT_7, mkL_7, mkT_8, mkL_8, mkT_9, mkL_9, mkT_10, mkL_10, mkT_11, mkL_11, mkT_12, mkL_12, mkT_13, mkL_13, mkT_14, mkL_14, mkT_15, mkL_15, mkT_16, mkL_16, mkT_17, mkL_17, mkT_18, mkL_18, mkT_19, mkL_19, mkT_20, mkL_20, par_2, par_3, parS_2, parS_3, reduceCtorEq, false_and, exists_false, Int.reduceNeg, Int.reduceAdd, Int.reduceSub, slotOf, decide_eq_true_eq, List.length_map, List.length_range, Bool.not_eq_true', decide_eq_false_iff_not, decide_not, Bool.not_not, ty_i, ty_b, ty_n, ty_s, ty_t, ty_l, ty_d, decide_true, decide_false, Int.reduceLE, Int.reduceLT, and_self, Int.reduceToNat, Int.toNat_natCast, lim_0, lim_1, lim_2, lim_3, lim_4, lim_5, lim_6, lim_7, lim_8, lim_9, lim_10, lim_11, lim_12, lim_13, lim_14, lim_15, lim_16, lim_17, lim_18, lim_19, lim_20, lim_21, lim_22, lim_23, lim_24, nc_0, nc_1, nc_2, nc_3, nc_4, nc_5, nc_6, nc_7, nc_8, nc_9, nc_10, nc_11, nc_12, Int.reduceEq, mkSeq, Option.map_some, Option.bind_some, List.getElem?_nil, or_true, or_false, true_or, false_or, not_true_eq_false, not_false_eq_true])
    refine ⟨Int.emod_nonneg _ (by omega), Int.emod_lt_of_pos _ hk, i, cells, rests.set p.toNat (gI rests p / k), c + 1, h1, ?_, ?_, by rw [List.length_set]; exact h4, h5, by omega, by omega⟩
    · rw [List.getElem?_set_ne (Ne.symm h1)]; exact g1
    · rw [List.getElem?_set_self (by rw [List.length_set]; exact hi2)]
  · rw [if_neg (by simpa using hb)]
    have m1 := Int.emod_nonneg (gI cells p) (show (2147483629 : Int) ≠ 0 by decide)
    have m2 := Int.emod_lt_of_pos (gI cells p) (show (0 : Int) < 2147483629 by decide)
    have c2 : 0 ≤ c * c ∧ c * c < 2 ^ 44 := by
      have hc : c ≤ 2 ^ 22 := by omega
      exact ⟨Int.mul_nonneg h6 h6, by
        have := Int.mul_le_mul (show c ≤ 2 ^ 22 - 1 by omega) (show c ≤ 2 ^ 22 - 1 by omega) h6 (by omega)
        omega⟩
    (try simp only [bo_mod (i := gI cells p) (show (0 : Int) < 2147483629 by decide), bo_mul (i := 40037) (j := c) (.inl (by decide)), exs_c, exs_n, ex, ev, evs, evB, evIf, evS, evP, okx_bind, okx_ok, okx_exc, okx_lift, okx_asB, okx_if, okx_noX, lift_some, Res.bind_ok, Res.bind_exc, List.map_cons, List.map_nil, List.length_cons, List.length_nil, List.replicate, List.cons_append, List.nil_append, List.getElem?_cons_zero, List.getElem?_cons_succ, List.set_cons_zero, List.set_cons_succ, Nat.reduceSub, Nat.reduceAdd, if_true, Bool.false_eq_true, if_false, Option.some.injEq, exists_eq_left', exists_eq_left, bo_add, bo_sub, bo_p6, bo_p8, bo_p18, bo_p39, co_lt, co_le, co_gt, co_ge, co_eqi, co_nei, co_eqL, co_neL, co_eqT, co_neT, co_eqs, co_nes, co_neS2, beq_self_eq_true, co_isN, co_notN, co_isB, co_notB, co_memT, co_memL, co_nmemT, co_nmemL, bg_lenL, bg_lenT, bg_tupL, bg_tupT, bg_lstL, bg_lstT, bg_intB, bg_intI, bg_max, bg_min, bg_sumL, bg_sumT, bg_allL, bg_sortL, bg_sortT, ixd_l, ixd_t, de_lst, de_tup, tg_nm, tg_2, tg_3, tg_l2, tg_l3, dT_nm, dT_tp, nn_non, nn_int, nn_tup, nn_lst, bg_maxL, bg_maxT, bg_minL, bg_minP, at_0, at_1, at_2, at_3, Tg.slots, wipeR, iterD, items, op_none, op_int, sld_l, sld_t, rev_l, rev_t, D.bl.injEq, D.int.injEq, Bool.not_true, Bool.not_false, Bool.true_eq_false, and_true, true_and, mkT_0, mkL_0, mkT_1, mkL_1, mkT_2, mkL_2, mkT_3, mkL_3, mkT_4, mkL_4, mkT_5, mkL_5, mkT_6, mkL_6, mkT_7, mkL_7, mkT_8, mkL_8, mkT_9, mkL_9, mkT_10, mkL_10, mkT_11, mkL_11, mkT_12, mkL_12, mkT_13, mkL_13, mkT_14, mkL_14, mkT_15, mkL_15, mkT_16, mkL_16, mkT_17, mkL_17, mkT_18, mkL_18, mkT_19, mkL_19, mkT_20, mkL_20, par_2, par_3, parS_2, parS_3, reduceCtorEq, false_and, exists_false, Int.reduceNeg, Int.reduceAdd, Int.reduceSub, slotOf, decide_eq_true_eq, List.length_map, List.length_range, Bool.not_eq_true', decide_eq_false_iff_not, decide_not, Bool.not_not, ty_i, ty_b, ty_n, ty_s, ty_t, ty_l, ty_d, decide_true, decide_false, Int.reduceLE, Int.reduceLT, and_self, Int.reduceToNat, Int.toNat_natCast, lim_0, lim_1, lim_2, lim_3, lim_4, lim_5, lim_6, lim_7, lim_8, lim_9, lim_10, lim_11, lim_12, lim_13, lim_14, lim_15, lim_16, lim_17, lim_18, lim_19, lim_20, lim_21, lim_22, lim_23, lim_24, nc_0, nc_1, nc_2, nc_3, nc_4, nc_5, nc_6, nc_7, nc_8, nc_9, nc_10, nc_11, nc_12, Int.reduceEq, mkSeq, Option.map_some, Option.bind_some, List.getElem?_nil, or_true, or_false, true_or, false_or, not_true_eq_false, not_false_eq_true])
    rw [bo_pow (i := gI cells p % 2147483629 + 40037 * c + 9203) (j := 3) ⟨by decide, by decide, by omega⟩]
    (try simp only [exs_c, exs_n, ex, ev, evs, evB, evIf, evS, evP, okx_bind, okx_ok, okx_exc, okx_lift, okx_asB, okx_if, okx_noX, lift_some, Res.bind_ok, Res.bind_exc, List.map_cons, List.map_nil, List.length_cons, List.length_nil, List.replicate, List.cons_append, List.nil_append, List.getElem?_cons_zero, List.getElem?_cons_succ, List.set_cons_zero, List.set_cons_succ, Nat.reduceSub, Nat.reduceAdd, if_true, Bool.false_eq_true, if_false, Option.some.injEq, exists_eq_left', exists_eq_left, bo_add, bo_sub, bo_p6, bo_p8, bo_p18, bo_p39, co_lt, co_le, co_gt, co_ge, co_eqi, co_nei, co_eqL, co_neL, co_eqT, co_neT, co_eqs, co_nes, co_neS2, beq_self_eq_true, co_isN, co_notN, co_isB, co_notB, co_memT, co_memL, co_nmemT, co_nmemL, bg_lenL, bg_lenT, bg_tupL, bg_tupT, bg_lstL, bg_lstT, bg_intB, bg_intI, bg_max, bg_min, bg_sumL, bg_sumT, bg_allL, bg_sortL, bg_sortT, ixd_l, ixd_t, de_lst, de_tup, tg_nm, tg_2, tg_3, tg_l2, tg_l3, dT_nm, dT_tp, nn_non, nn_int, nn_tup, nn_lst, bg_maxL, bg_maxT, bg_minL, bg_minP, at_0, at_1, at_2, at_3, Tg.slots, wipeR, iterD, items, op_none, op_int, sld_l, sld_t, rev_l, rev_t, D.bl.injEq, D.int.injEq, Bool.not_true, Bool.not_false, Bool.true_eq_false, and_true, true_and, mkT_0, mkL_0, mkT_1, mkL_1, mkT_2, mkL_2, mkT_3, mkL_3, mkT_4, mkL_4, mkT_5, mkL_5, mkT_6, mkL_6, mkT_7, mkL_7, mkT_8, mkL_8, mkT_9, mkL_9, mkT_10, mkL_10, mkT_11, mkL_11, mkT_12, mkL_12, mkT_13, mkL_13, mkT_14, mkL_14, mkT_15, mkL_15, mkT_16, mkL_16, mkT_17, mkL_17, mkT_18, mkL_18, mkT_19, mkL_19, mkT_20, mkL_20, par_2, par_3, parS_2, parS_3, reduceCtorEq, false_and, exists_false, Int.reduceNeg, Int.reduceAdd, Int.reduceSub, slotOf, decide_eq_true_eq, List.length_map, List.length_range, Bool.not_eq_true', decide_eq_false_iff_not, decide_not, Bool.not_not, ty_i, ty_b, ty_n, ty_s, ty_t, ty_l, ty_d, decide_true, decide_false, Int.reduceLE, Int.reduceLT, and_self, Int.reduceToNat, Int.toNat_natCast, lim_0, lim_1, lim_2, lim_3, lim_4, lim_5, lim_6, lim_7, lim_8, lim_9, lim_10, lim_11, lim_12, lim_13, lim_14, lim_15, lim_16, lim_17, lim_18, lim_19, lim_20, lim_21, lim_22, lim_23, lim_24, nc_0, nc_1, nc_2, nc_3, nc_4, nc_5, nc_6, nc_7, nc_8, nc_9, nc_10, nc_11, nc_12, Int.reduceEq, mkSeq, Option.map_some, Option.bind_some, List.getElem?_nil, or_true, or_false, true_or, false_or, not_true_eq_false, not_false_eq_true])
    refine ⟨_, bo_mod (by decide), _, bo_mul (.inl (by decide)), _, bo_mul (.inr (by omega)), _, bo_add, _, bo_add, ?_⟩
    have n1 := Int.emod_nonneg ((gI cells p % 2147483629 + 40037 * c + 9203) ^ 3) (show (2147483587 : Int) ≠ 0 by decide)
    have n2 := Int.emod_lt_of_pos ((gI cells p % 2147483629 + 40037 * c + 9203) ^ 3) (show (0 : Int) < 2147483587 by decide)
    generalize (gI cells p % 2147483629 + 40037 * c + 9203) ^ 3 % 2147483587 = x at n1 n2
    rw [Int.mul_assoc 5039 c c]
    generalize c * c = cc at c2
    refine ⟨_, bo_pow ⟨by decide, by decide, by omega⟩, _, bo_mod (by decide), _, bo_mul (.inr (by decide)), _, bo_mod (by decide), _, bo_fdiv ⟨by decide, by decide⟩, _, bo_mod hk, _, rfl, Int.emod_nonneg _ (by omega), Int.emod_lt_of_pos _ hk, i, cells, rests, c + 1, h1, g1, g2, h4, h5, by omega, by omega⟩
theorem one2_ok {xs : List D} {R : D → Prop} {Q : D → List O → Prop} (h : DR g o B) (h0 : 0 < xs.length) (h1 : xs.length < 2 ^ 60) (hB : B < 2 ^ 22) (hx : ∀ d ∈ xs, R d) (q : ∀ d g', R d → DR g' o (B + 1) → Q d g') : Okx (callN gl P (n + 2) f__law_one_2 [.ref o, .lst xs] g) Q E := by
  refine okx_call P__law_one_2 rfl ?_
  simp only [b__law_one_2]
  (try simp only [exs_c, exs_n, ex, ev, evs, evB, evIf, evS, evP, okx_bind, okx_ok, okx_exc, okx_lift, okx_asB, okx_if, okx_noX, lift_some, Res.bind_ok, Res.bind_exc, List.map_cons, List.map_nil, List.length_cons, List.length_nil, List.replicate, List.cons_append, List.nil_append, List.getElem?_cons_zero, List.getElem?_cons_succ, List.set_cons_zero, List.set_cons_succ, Nat.reduceSub, Nat.reduceAdd, if_true, Bool.false_eq_true, if_false, Option.some.injEq, exists_eq_left', exists_eq_left, bo_add, bo_sub, bo_p6, bo_p8, bo_p18, bo_p39, co_lt, co_le, co_gt, co_ge, co_eqi, co_nei, co_eqL, co_neL, co_eqT, co_neT, co_eqs, co_nes, co_neS2, beq_self_eq_true, co_isN, co_notN, co_isB, co_notB, co_memT, co_memL, co_nmemT, co_nmemL, bg_lenL, bg_lenT, bg_tupL, bg_tupT, bg_lstL, bg_lstT, bg_intB, bg_intI, bg_max, bg_min, bg_sumL, bg_sumT, bg_allL, bg_sortL, bg_sortT, ixd_l, ixd_t, de_lst, de_tup, tg_nm, tg_2, tg_3, tg_l2, tg_l3, dT_nm, dT_tp, nn_non, nn_int, nn_tup, nn_lst, bg_maxL, bg_maxT, bg_minL, bg_minP, at_0, at_1, at_2, at_3, Tg.slots, wipeR, iterD, items, op_none, op_int, sld_l, sld_t, rev_l, rev_t, D.bl.injEq, D.int.injEq, Bool.not_true, Bool.not_false, Bool.true_eq_false, and_true, true_and, mkT_0, mkL_0, mkT_1, mkL_1, mkT_2, mkL_2, mkT_3, mkL_3, mkT_4, mkL_4, mkT_5, mkL_5, mkT_6, mkL_6, mkT_7, mkL_7, mkT_8, mkL_8, mkT_9, mkL_9, mkT_10, mkL_10, mkT_11, mkL_11, mkT_12, mkL_12, mkT_13, mkL_13, mkT_14, mkL_14, mkT_15, mkL_15, mkT_16, mkL_16, mkT_17, mkL_17, mkT_18, mkL_18, mkT_19, mkL_19, mkT_20, mkL_20, par_2, par_3, parS_2, parS_3, reduceCtorEq, false_and, exists_false, Int.reduceNeg, Int.reduceAdd, Int.reduceSub, slotOf, decide_eq_true_eq, List.length_map, List.length_range, Bool.not_eq_true', decide_eq_false_iff_not, decide_not, Bool.not_not, ty_i, ty_b, ty_n, ty_s, ty_t, ty_l, ty_d, decide_true, decide_false, Int.reduceLE, Int.reduceLT, and_self, Int.reduceToNat, Int.toNat_natCast, lim_0, lim_1, lim_2, lim_3, lim_4, lim_5, lim_6, lim_7, lim_8, lim_9, lim_10, lim_11, lim_12, lim_13, lim_14, lim_15, lim_16, lim_17, lim_18, lim_19, lim_20, lim_21, lim_22, lim_23, lim_24, nc_0, nc_1, nc_2, nc_3, nc_4, nc_5, nc_6, nc_7, nc_8, nc_9, nc_10, nc_11, nc_12, Int.reduceEq, mkSeq, Option.map_some, Option.bind_some, List.getElem?_nil, or_true, or_false, true_or, false_or, not_true_eq_false, not_false_eq_true])
  refine next2_ok h (by omega) (by omega) hB fun v g1 a1 b1 h1 => ?_
  exact pickG R a1 b1 hx fun d hd => q d g1 hd h1
theorem weight4_ok {Q : D → List O → Prop} (h : DR g o B) (hB : B < 2 ^ 21) (q : ∀ w g', 1 ≤ w → w ≤ 1000000 → DR g' o (B + 3) → Q (.int w) g') : Okx (callN gl P (n + 2) f__law_weight_4 [.ref o] g) Q E := by
  refine okx_call P__law_weight_4 rfl ?_
  simp only [b__law_weight_4]
  (try simp only [exs_c, exs_n, ex, ev, evs, evB, evIf, evS, evP, okx_bind, okx_ok, okx_exc, okx_lift, okx_asB, okx_if, okx_noX, lift_some, Res.bind_ok, Res.bind_exc, List.map_cons, List.map_nil, List.length_cons, List.length_nil, List.replicate, List.cons_append, List.nil_append, List.getElem?_cons_zero, List.getElem?_cons_succ, List.set_cons_zero, List.set_cons_succ, Nat.reduceSub, Nat.reduceAdd, if_true, Bool.false_eq_true, if_false, Option.some.injEq, exists_eq_left', exists_eq_left, bo_add, bo_sub, bo_p6, bo_p8, bo_p18, bo_p39, co_lt, co_le, co_gt, co_ge, co_eqi, co_nei, co_eqL, co_neL, co_eqT, co_neT, co_eqs, co_nes, co_neS2, beq_self_eq_true, co_isN, co_notN, co_isB, co_notB, co_memT, co_memL, co_nmemT, co_nmemL, bg_lenL, bg_lenT, bg_tupL, bg_tupT, bg_lstL, bg_lstT, bg_intB, bg_intI, bg_max, bg_min, bg_sumL, bg_sumT, bg_allL, bg_sortL, bg_sortT, ixd_l, ixd_t, de_lst, de_tup, tg_nm, tg_2, tg_3, tg_l2, tg_l3, dT_nm, dT_tp, nn_non, nn_int, nn_tup, nn_lst, bg_maxL, bg_maxT, bg_minL, bg_minP, at_0, at_1, at_2, at_3, Tg.slots, wipeR, iterD, items, op_none, op_int, sld_l, sld_t, rev_l, rev_t, D.bl.injEq, D.int.injEq, Bool.not_true, Bool.not_false, Bool.true_eq_false, and_true, true_and, mkT_0, mkL_0, mkT_1, mkL_1, mkT_2, mkL_2, mkT_3, mkL_3, mkT_4, mkL_4, mkT_5, mkL_5, mkT_6, mkL_6, mkT_7, mkL_7, mkT_8, mkL_8, mkT_9, mkL_9, mkT_10, mkL_10, mkT_11, mkL_11, mkT_12, mkL_12, mkT_13, mkL_13, mkT_14, mkL_14, mkT_15, mkL_15, mkT_16, mkL_16, mkT_17, mkL_17, mkT_18, mkL_18, mkT_19, mkL_19, mkT_20, mkL_20, par_2, par_3, parS_2, parS_3, reduceCtorEq, false_and, exists_false, Int.reduceNeg, Int.reduceAdd, Int.reduceSub, slotOf, decide_eq_true_eq, List.length_map, List.length_range, Bool.not_eq_true', decide_eq_false_iff_not, decide_not, Bool.not_not, ty_i, ty_b, ty_n, ty_s, ty_t, ty_l, ty_d, decide_true, decide_false, Int.reduceLE, Int.reduceLT, and_self, Int.reduceToNat, Int.toNat_natCast, lim_0, lim_1, lim_2, lim_3, lim_4, lim_5, lim_6, lim_7, lim_8, lim_9, lim_10, lim_11, lim_12, lim_13, lim_14, lim_15, lim_16, lim_17, lim_18, lim_19, lim_20, lim_21, lim_22, lim_23, lim_24, nc_0, nc_1, nc_2, nc_3, nc_4, nc_5, nc_6, nc_7, nc_8, nc_9, nc_10, nc_11, nc_12, Int.reduceEq, mkSeq, Option.map_some, Option.bind_some, List.getElem?_nil, or_true, or_false, true_or, false_or, not_true_eq_false, not_false_eq_true])
  refine next2_ok h (by omega) (by omega) (by omega) fun v1 g1 a1 b1 h1 => ?_
  (try simp only [exs_c, exs_n, ex, ev, evs, evB, evIf, evS, evP, okx_bind, okx_ok, okx_exc, okx_lift, okx_asB, okx_if, okx_noX, lift_some, Res.bind_ok, Res.bind_exc, List.map_cons, List.map_nil, List.length_cons, List.length_nil, List.replicate, List.cons_append, List.nil_append, List.getElem?_cons_zero, List.getElem?_cons_succ, List.set_cons_zero, List.set_cons_succ, Nat.reduceSub, Nat.reduceAdd, if_true, Bool.false_eq_true, if_false, Option.some.injEq, exists_eq_left', exists_eq_left, bo_add, bo_sub, bo_p6, bo_p8, bo_p18, bo_p39, co_lt, co_le, co_gt, co_ge, co_eqi, co_nei, co_eqL, co_neL, co_eqT, co_neT, co_eqs, co_nes, co_neS2, beq_self_eq_true, co_isN, co_notN, co_isB, co_notB, co_memT, co_memL, co_nmemT, co_nmemL, bg_lenL, bg_lenT, bg_tupL, bg_tupT, bg_lstL, bg_lstT, bg_intB, bg_intI, bg_max, bg_min, bg_sumL, bg_sumT, bg_allL, bg_sortL, bg_sortT, ixd_l, ixd_t, de_lst, de_tup, tg_nm, tg_2, tg_3, tg_l2, tg_l3, dT_nm, dT_tp, nn_non, nn_int, nn_tup, nn_lst, bg_maxL, bg_maxT, bg_minL, bg_minP, at_0, at_1, at_2, at_3, Tg.slots, wipeR, iterD, items, op_none, op_int, sld_l, sld_t, rev_l, rev_t, D.bl.injEq, D.int.injEq, Bool.not_true, Bool.not_false, Bool.true_eq_false, and_true, true_and, mkT_0, mkL_0, mkT_1, mkL_1, mkT_2, mkL_2, mkT_3, mkL_3, mkT_4, mkL_4, mkT_5, mkL_5, mkT_6, mkL_6, mkT_7, mkL_7, mkT_8, mkL_8, mkT_9, mkL_9, mkT_10, mkL_10, mkT_11, mkL_11, mkT_12, mkL_12, mkT_13, mkL_13, mkT_14, mkL_14, mkT_15, mkL_15, mkT_16, mkL_16, mkT_17, mkL_17, mkT_18, mkL_18, mkT_19, mkL_19, mkT_20, mkL_20, par_2, par_3, parS_2, parS_3, reduceCtorEq, false_and, exists_false, Int.reduceNeg, Int.reduceAdd, Int.reduceSub, slotOf, decide_eq_true_eq, List.length_map, List.length_range, Bool.not_eq_true', decide_eq_false_iff_not, decide_not, Bool.not_not, ty_i, ty_b, ty_n, ty_s, ty_t, ty_l, ty_d, decide_true, decide_false, Int.reduceLE, Int.reduceLT, and_self, Int.reduceToNat, Int.toNat_natCast, lim_0, lim_1, lim_2, lim_3, lim_4, lim_5, lim_6, lim_7, lim_8, lim_9, lim_10, lim_11, lim_12, lim_13, lim_14, lim_15, lim_16, lim_17, lim_18, lim_19, lim_20, lim_21, lim_22, lim_23, lim_24, nc_0, nc_1, nc_2, nc_3, nc_4, nc_5, nc_6, nc_7, nc_8, nc_9, nc_10, nc_11, nc_12, Int.reduceEq, mkSeq, Option.map_some, Option.bind_some, List.getElem?_nil, or_true, or_false, true_or, false_or, not_true_eq_false, not_false_eq_true])
  refine next2_ok h1 (by omega) (by omega) (by omega) fun v2 g2 a2 b2 h2 => ?_
  (try simp only [exs_c, exs_n, ex, ev, evs, evB, evIf, evS, evP, okx_bind, okx_ok, okx_exc, okx_lift, okx_asB, okx_if, okx_noX, lift_some, Res.bind_ok, Res.bind_exc, List.map_cons, List.map_nil, List.length_cons, List.length_nil, List.replicate, List.cons_append, List.nil_append, List.getElem?_cons_zero, List.getElem?_cons_succ, List.set_cons_zero, List.set_cons_succ, Nat.reduceSub, Nat.reduceAdd, if_true, Bool.false_eq_true, if_false, Option.some.injEq, exists_eq_left', exists_eq_left, bo_add, bo_sub, bo_p6, bo_p8, bo_p18, bo_p39, co_lt, co_le, co_gt, co_ge, co_eqi, co_nei, co_eqL, co_neL, co_eqT, co_neT, co_eqs, co_nes, co_neS2, beq_self_eq_true, co_isN, co_notN, co_isB, co_notB, co_memT, co_memL, co_nmemT, co_nmemL, bg_lenL, bg_lenT, bg_tupL, bg_tupT, bg_lstL, bg_lstT, bg_intB, bg_intI, bg_max, bg_min, bg_sumL, bg_sumT, bg_allL, bg_sortL, bg_sortT, ixd_l, ixd_t, de_lst, de_tup, tg_nm, tg_2, tg_3, tg_l2, tg_l3, dT_nm, dT_tp, nn_non, nn_int, nn_tup, nn_lst, bg_maxL, bg_maxT, bg_minL, bg_minP, at_0, at_1, at_2, at_3, Tg.slots, wipeR, iterD, items, op_none, op_int, sld_l, sld_t, rev_l, rev_t, D.bl.injEq, D.int.injEq, Bool.not_true, Bool.not_false, Bool.true_eq_false, and_true, true_and, mkT_0, mkL_0, mkT_1, mkL_1, mkT_2, mkL_2, mkT_3, mkL_3, mkT_4, mkL_4, mkT_5, mkL_5, mkT_6, mkL_6, mkT_7, mkL_7, mkT_8, mkL_8, mkT_9, mkL_9, mkT_10, mkL_10, mkT_11, mkL_11, mkT_12, mkL_12, mkT_13, mkL_13, mkT_14, mkL_14, mkT_15, mkL_15, mkT_16, mkL_16, mkT_17, mkL_17, mkT_18, mkL_18, mkT_19, mkL_19, mkT_20, mkL_20, par_2, par_3, parS_2, parS_3, reduceCtorEq, false_and, exists_false, Int.reduceNeg, Int.reduceAdd, Int.reduceSub, slotOf, decide_eq_true_eq, List.length_map, List.length_range, Bool.not_eq_true', decide_eq_false_iff_not, decide_not, Bool.not_not, ty_i, ty_b, ty_n, ty_s, ty_t, ty_l, ty_d, decide_true, decide_false, Int.reduceLE, Int.reduceLT, and_self, Int.reduceToNat, Int.toNat_natCast, lim_0, lim_1, lim_2, lim_3, lim_4, lim_5, lim_6, lim_7, lim_8, lim_9, lim_10, lim_11, lim_12, lim_13, lim_14, lim_15, lim_16, lim_17, lim_18, lim_19, lim_20, lim_21, lim_22, lim_23, lim_24, nc_0, nc_1, nc_2, nc_3, nc_4, nc_5, nc_6, nc_7, nc_8, nc_9, nc_10, nc_11, nc_12, Int.reduceEq, mkSeq, Option.map_some, Option.bind_some, List.getElem?_nil, or_true, or_false, true_or, false_or, not_true_eq_false, not_false_eq_true])
  refine next2_ok h2 (by omega) (by omega) (by omega) fun v3 g3 a3 b3 h3 => ?_
  (try simp only [exs_c, exs_n, ex, ev, evs, evB, evIf, evS, evP, okx_bind, okx_ok, okx_exc, okx_lift, okx_asB, okx_if, okx_noX, lift_some, Res.bind_ok, Res.bind_exc, List.map_cons, List.map_nil, List.length_cons, List.length_nil, List.replicate, List.cons_append, List.nil_append, List.getElem?_cons_zero, List.getElem?_cons_succ, List.set_cons_zero, List.set_cons_succ, Nat.reduceSub, Nat.reduceAdd, if_true, Bool.false_eq_true, if_false, Option.some.injEq, exists_eq_left', exists_eq_left, bo_add, bo_sub, bo_p6, bo_p8, bo_p18, bo_p39, co_lt, co_le, co_gt, co_ge, co_eqi, co_nei, co_eqL, co_neL, co_eqT, co_neT, co_eqs, co_nes, co_neS2, beq_self_eq_true, co_isN, co_notN, co_isB, co_notB, co_memT, co_memL, co_nmemT, co_nmemL, bg_lenL, bg_lenT, bg_tupL, bg_tupT, bg_lstL, bg_lstT, bg_intB, bg_intI, bg_max, bg_min, bg_sumL, bg_sumT, bg_allL, bg_sortL, bg_sortT, ixd_l, ixd_t, de_lst, de_tup, tg_nm, tg_2, tg_3, tg_l2, tg_l3, dT_nm, dT_tp, nn_non, nn_int, nn_tup, nn_lst, bg_maxL, bg_maxT, bg_minL, bg_minP, at_0, at_1, at_2, at_3, Tg.slots, wipeR, iterD, items, op_none, op_int, sld_l, sld_t, rev_l, rev_t, D.bl.injEq, D.int.injEq, Bool.not_true, Bool.not_false, Bool.true_eq_false, and_true, true_and, mkT_0, mkL_0, mkT_1, mkL_1, mkT_2, mkL_2, mkT_3, mkL_3, mkT_4, mkL_4, mkT_5, mkL_5, mkT_6, mkL_6, mkT_7, mkL_7, mkT_8, mkL_8, mkT_9, mkL_9, mkT_10, mkL_10, mkT_11, mkL_11, mkT_12, mkL_12, mkT_13, mkL_13, mkT_14, mkL_14, mkT_15, mkL_15, mkT_16, mkL_16, mkT_17, mkL_17, mkT_18, mkL_18, mkT_19, mkL_19, mkT_20, mkL_20, par_2, par_3, parS_2, parS_3, reduceCtorEq, false_and, exists_false, Int.reduceNeg, Int.reduceAdd, Int.reduceSub, slotOf, decide_eq_true_eq, List.length_map, List.length_range, Bool.not_eq_true', decide_eq_false_iff_not, decide_not, Bool.not_not, ty_i, ty_b, ty_n, ty_s, ty_t, ty_l, ty_d, decide_true, decide_false, Int.reduceLE, Int.reduceLT, and_self, Int.reduceToNat, Int.toNat_natCast, lim_0, lim_1, lim_2, lim_3, lim_4, lim_5, lim_6, lim_7, lim_8, lim_9, lim_10, lim_11, lim_12, lim_13, lim_14, lim_15, lim_16, lim_17, lim_18, lim_19, lim_20, lim_21, lim_22, lim_23, lim_24, nc_0, nc_1, nc_2, nc_3, nc_4, nc_5, nc_6, nc_7, nc_8, nc_9, nc_10, nc_11, nc_12, Int.reduceEq, mkSeq, Option.map_some, Option.bind_some, List.getElem?_nil, or_true, or_false, true_or, false_or, not_true_eq_false, not_false_eq_true])
  refine pickI 0 3 a3 (by simpa using b3) (allc (isI (by omega)) (allc (isI (by omega)) (allc (isI (by omega)) (allc (isI (by omega)) (all1 (isI (by omega))))))) fun c c1 c2 => ?_
  (try simp only [exs_c, exs_n, ex, ev, evs, evB, evIf, evS, evP, okx_bind, okx_ok, okx_exc, okx_lift, okx_asB, okx_if, okx_noX, lift_some, Res.bind_ok, Res.bind_exc, List.map_cons, List.map_nil, List.length_cons, List.length_nil, List.replicate, List.cons_append, List.nil_append, List.getElem?_cons_zero, List.getElem?_cons_succ, List.set_cons_zero, List.set_cons_succ, Nat.reduceSub, Nat.reduceAdd, if_true, Bool.false_eq_true, if_false, Option.some.injEq, exists_eq_left', exists_eq_left, bo_add, bo_sub, bo_p6, bo_p8, bo_p18, bo_p39, co_lt, co_le, co_gt, co_ge, co_eqi, co_nei, co_eqL, co_neL, co_eqT, co_neT, co_eqs, co_nes, co_neS2, beq_self_eq_true, co_isN, co_notN, co_isB, co_notB, co_memT, co_memL, co_nmemT, co_nmemL, bg_lenL, bg_lenT, bg_tupL, bg_tupT, bg_lstL, bg_lstT, bg_intB, bg_intI, bg_max, bg_min, bg_sumL, bg_sumT, bg_allL, bg_sortL, bg_sortT, ixd_l, ixd_t, de_lst, de_tup, tg_nm, tg_2, tg_3, tg_l2, tg_l3, dT_nm, dT_tp, nn_non, nn_int, nn_tup, nn_lst, bg_maxL, bg_maxT, bg_minL, bg_minP, at_0, at_1, at_2, at_3, Tg.slots, wipeR, iterD, items, op_none, op_int, sld_l, sld_t, rev_l, rev_t, D.bl.injEq, D.int.injEq, Bool.not_true, Bool.not_false, Bool.true_eq_false, and_true, true_and, mkT_0, mkL_0, mkT_1, mkL_1, mkT_2, mkL_2, mkT_3, mkL_3, mkT_4, mkL_4, mkT_5, mkL_5, mkT_6, mkL_6, mkT_7, mkL_7, mkT_8, mkL_8, mkT_9, mkL_9, mkT_10, mkL_10, mkT_11, mkL_11, mkT_12, mkL_12, mkT_13, mkL_13, mkT_14, mkL_14, mkT_15, mkL_15, mkT_16, mkL_16, mkT_17, mkL_17, mkT_18, mkL_18, mkT_19, mkL_19, mkT_20, mkL_20, par_2, par_3, parS_2, parS_3, reduceCtorEq, false_and, exists_false, Int.reduceNeg, Int.reduceAdd, Int.reduceSub, slotOf, decide_eq_true_eq, List.length_map, List.length_range, Bool.not_eq_true', decide_eq_false_iff_not, decide_not, Bool.not_not, ty_i, ty_b, ty_n, ty_s, ty_t, ty_l, ty_d, decide_true, decide_false, Int.reduceLE, Int.reduceLT, and_self, Int.reduceToNat, Int.toNat_natCast, lim_0, lim_1, lim_2, lim_3, lim_4, lim_5, lim_6, lim_7, lim_8, lim_9, lim_10, lim_11, lim_12, lim_13, lim_14, lim_15, lim_16, lim_17, lim_18, lim_19, lim_20, lim_21, lim_22, lim_23, lim_24, nc_0, nc_1, nc_2, nc_3, nc_4, nc_5, nc_6, nc_7, nc_8, nc_9, nc_10, nc_11, nc_12, Int.reduceEq, mkSeq, Option.map_some, Option.bind_some, List.getElem?_nil, or_true, or_false, true_or, false_or, not_true_eq_false, not_false_eq_true])
  refine pickI 1 1000000 c1 (by simp; omega) (allc (isI (by omega)) (allc (isI (by omega)) (allc (isI (by omega)) (all1 (isI (by omega)))))) fun w w1 w2 => ?_
  exact q w g3 w1 w2 (h3.le (by omega))
theorem cut_ints {xs : List Int} {lo hi : Option Int} : cut (xs.map D.int) lo hi = (cut xs lo hi).map D.int := by
  unfold cut
  rw [← List.map_drop, ← List.map_take, List.length_map]
theorem cut_in {xs : List Int} {lo hi : Option Int} : (∀ k ∈ cut xs lo hi, k ∈ xs) ∧ (cut xs lo hi).length ≤ xs.length := ⟨fun k hk => (cut_sub xs lo hi).subset hk, (cut_sub xs lo hi).length_le⟩
theorem weights2_ok {Q : D → List O → Prop} (h : DR g o B) (hB : B < 2 ^ 20) (q : ∀ (ws : List Int) g', ws.length ≤ 26 → Ints 1 1000000 ws → DR g' o (B + 100) → Q (.tup (ws.map D.int)) g') : Okx (callN gl P (n + 3) f__law_weights_2 [.ref o, .int 24] g) Q E := by
  refine okx_call P__law_weights_2 rfl ?_
  simp only [b__law_weights_2]
  (try simp only [exs_c, exs_n, ex, ev, evs, evB, evIf, evS, evP, okx_bind, okx_ok, okx_exc, okx_lift, okx_asB, okx_if, okx_noX, lift_some, Res.bind_ok, Res.bind_exc, List.map_cons, List.map_nil, List.length_cons, List.length_nil, List.replicate, List.cons_append, List.nil_append, List.getElem?_cons_zero, List.getElem?_cons_succ, List.set_cons_zero, List.set_cons_succ, Nat.reduceSub, Nat.reduceAdd, if_true, Bool.false_eq_true, if_false, Option.some.injEq, exists_eq_left', exists_eq_left, bo_add, bo_sub, bo_p6, bo_p8, bo_p18, bo_p39, co_lt, co_le, co_gt, co_ge, co_eqi, co_nei, co_eqL, co_neL, co_eqT, co_neT, co_eqs, co_nes, co_neS2, beq_self_eq_true, co_isN, co_notN, co_isB, co_notB, co_memT, co_memL, co_nmemT, co_nmemL, bg_lenL, bg_lenT, bg_tupL, bg_tupT, bg_lstL, bg_lstT, bg_intB, bg_intI, bg_max, bg_min, bg_sumL, bg_sumT, bg_allL, bg_sortL, bg_sortT, ixd_l, ixd_t, de_lst, de_tup, tg_nm, tg_2, tg_3, tg_l2, tg_l3, dT_nm, dT_tp, nn_non, nn_int, nn_tup, nn_lst, bg_maxL, bg_maxT, bg_minL, bg_minP, at_0, at_1, at_2, at_3, Tg.slots, wipeR, iterD, items, op_none, op_int, sld_l, sld_t, rev_l, rev_t, D.bl.injEq, D.int.injEq, Bool.not_true, Bool.not_false, Bool.true_eq_false, and_true, true_and, mkT_0, mkL_0, mkT_1, mkL_1, mkT_2, mkL_2, mkT_3, mkL_3, mkT_4, mkL_4, mkT_5, mkL_5, mkT_6, mkL_6, mkT_7, mkL_7, mkT_8, mkL_8, mkT_9, mkL_9, mkT_10, mkL_10, mkT_11, mkL_11, mkT_12, mkL_12, mkT_13, mkL_13, mkT_14, mkL_14, mkT_15, mkL_15, mkT_16, mkL_16, mkT_17, mkL_17, mkT_18, mkL_18, mkT_19, mkL_19, mkT_20, mkL_20, par_2, par_3, parS_2, parS_3, reduceCtorEq, false_and, exists_false, Int.reduceNeg, Int.reduceAdd, Int.reduceSub, slotOf, decide_eq_true_eq, List.length_map, List.length_range, Bool.not_eq_true', decide_eq_false_iff_not, decide_not, Bool.not_not, ty_i, ty_b, ty_n, ty_s, ty_t, ty_l, ty_d, decide_true, decide_false, Int.reduceLE, Int.reduceLT, and_self, Int.reduceToNat, Int.toNat_natCast, lim_0, lim_1, lim_2, lim_3, lim_4, lim_5, lim_6, lim_7, lim_8, lim_9, lim_10, lim_11, lim_12, lim_13, lim_14, lim_15, lim_16, lim_17, lim_18, lim_19, lim_20, lim_21, lim_22, lim_23, lim_24, nc_0, nc_1, nc_2, nc_3, nc_4, nc_5, nc_6, nc_7, nc_8, nc_9, nc_10, nc_11, nc_12, Int.reduceEq, mkSeq, Option.map_some, Option.bind_some, List.getElem?_nil, or_true, or_false, true_or, false_or, not_true_eq_false, not_false_eq_true])
  refine next2_ok h (by omega) (by omega) (by omega) fun v g1 v0 v1 h1 => ?_
  (try simp only [if_pos (show -1000000 ≤ v ∧ v ≤ 1000000 from ⟨by omega, by omega⟩), exs_c, exs_n, ex, ev, evs, evB, evIf, evS, evP, okx_bind, okx_ok, okx_exc, okx_lift, okx_asB, okx_if, okx_noX, lift_some, Res.bind_ok, Res.bind_exc, List.map_cons, List.map_nil, List.length_cons, List.length_nil, List.replicate, List.cons_append, List.nil_append, List.getElem?_cons_zero, List.getElem?_cons_succ, List.set_cons_zero, List.set_cons_succ, Nat.reduceSub, Nat.reduceAdd, if_true, Bool.false_eq_true, if_false, Option.some.injEq, exists_eq_left', exists_eq_left, bo_add, bo_sub, bo_p6, bo_p8, bo_p18, bo_p39, co_lt, co_le, co_gt, co_ge, co_eqi, co_nei, co_eqL, co_neL, co_eqT, co_neT, co_eqs, co_nes, co_neS2, beq_self_eq_true, co_isN, co_notN, co_isB, co_notB, co_memT, co_memL, co_nmemT, co_nmemL, bg_lenL, bg_lenT, bg_tupL, bg_tupT, bg_lstL, bg_lstT, bg_intB, bg_intI, bg_max, bg_min, bg_sumL, bg_sumT, bg_allL, bg_sortL, bg_sortT, ixd_l, ixd_t, de_lst, de_tup, tg_nm, tg_2, tg_3, tg_l2, tg_l3, dT_nm, dT_tp, nn_non, nn_int, nn_tup, nn_lst, bg_maxL, bg_maxT, bg_minL, bg_minP, at_0, at_1, at_2, at_3, Tg.slots, wipeR, iterD, items, op_none, op_int, sld_l, sld_t, rev_l, rev_t, D.bl.injEq, D.int.injEq, Bool.not_true, Bool.not_false, Bool.true_eq_false, and_true, true_and, mkT_0, mkL_0, mkT_1, mkL_1, mkT_2, mkL_2, mkT_3, mkL_3, mkT_4, mkL_4, mkT_5, mkL_5, mkT_6, mkL_6, mkT_7, mkL_7, mkT_8, mkL_8, mkT_9, mkL_9, mkT_10, mkL_10, mkT_11, mkL_11, mkT_12, mkL_12, mkT_13, mkL_13, mkT_14, mkL_14, mkT_15, mkL_15, mkT_16, mkL_16, mkT_17, mkL_17, mkT_18, mkL_18, mkT_19, mkL_19, mkT_20, mkL_20, par_2, par_3, parS_2, parS_3, reduceCtorEq, false_and, exists_false, Int.reduceNeg, Int.reduceAdd, Int.reduceSub, slotOf, decide_eq_true_eq, List.length_map, List.length_range, Bool.not_eq_true', decide_eq_false_iff_not, decide_not, Bool.not_not, ty_i, ty_b, ty_n, ty_s, ty_t, ty_l, ty_d, decide_true, decide_false, Int.reduceLE, Int.reduceLT, and_self, Int.reduceToNat, Int.toNat_natCast, lim_0, lim_1, lim_2, lim_3, lim_4, lim_5, lim_6, lim_7, lim_8, lim_9, lim_10, lim_11, lim_12, lim_13, lim_14, lim_15, lim_16, lim_17, lim_18, lim_19, lim_20, lim_21, lim_22, lim_23, lim_24, nc_0, nc_1, nc_2, nc_3, nc_4, nc_5, nc_6, nc_7, nc_8, nc_9, nc_10, nc_11, nc_12, Int.reduceEq, mkSeq, Option.map_some, Option.bind_some, List.getElem?_nil, or_true, or_false, true_or, false_or, not_true_eq_false, not_false_eq_true])
  refine okx_compE (fun i g => DR g o (B + 1 + 3 * i)) (IsI 1 1000000) (by rw [List.length_range]; omega) (h1.le (by omega)) ?_ ?_
  · intro i a acc g9 hq hk hl
    have hi' : i < v.toNat := by simpa using (List.getElem?_eq_some_iff.mp hq).1
    (try simp only [exs_c, exs_n, ex, ev, evs, evB, evIf, evS, evP, okx_bind, okx_ok, okx_exc, okx_lift, okx_asB, okx_if, okx_noX, lift_some, Res.bind_ok, Res.bind_exc, List.map_cons, List.map_nil, List.length_cons, List.length_nil, List.replicate, List.cons_append, List.nil_append, List.getElem?_cons_zero, List.getElem?_cons_succ, List.set_cons_zero, List.set_cons_succ, Nat.reduceSub, Nat.reduceAdd, if_true, Bool.false_eq_true, if_false, Option.some.injEq, exists_eq_left', exists_eq_left, bo_add, bo_sub, bo_p6, bo_p8, bo_p18, bo_p39, co_lt, co_le, co_gt, co_ge, co_eqi, co_nei, co_eqL, co_neL, co_eqT, co_neT, co_eqs, co_nes, co_neS2, beq_self_eq_true, co_isN, co_notN, co_isB, co_notB, co_memT, co_memL, co_nmemT, co_nmemL, bg_lenL, bg_lenT, bg_tupL, bg_tupT, bg_lstL, bg_lstT, bg_intB, bg_intI, bg_max, bg_min, bg_sumL, bg_sumT, bg_allL, bg_sortL, bg_sortT, ixd_l, ixd_t, de_lst, de_tup, tg_nm, tg_2, tg_3, tg_l2, tg_l3, dT_nm, dT_tp, nn_non, nn_int, nn_tup, nn_lst, bg_maxL, bg_maxT, bg_minL, bg_minP, at_0, at_1, at_2, at_3, Tg.slots, wipeR, iterD, items, op_none, op_int, sld_l, sld_t, rev_l, rev_t, D.bl.injEq, D.int.injEq, Bool.not_true, Bool.not_false, Bool.true_eq_false, and_true, true_and, mkT_0, mkL_0, mkT_1, mkL_1, mkT_2, mkL_2, mkT_3, mkL_3, mkT_4, mkL_4, mkT_5, mkL_5, mkT_6, mkL_6, mkT_7, mkL_7, mkT_8, mkL_8, mkT_9, mkL_9, mkT_10, mkL_10, mkT_11, mkL_11, mkT_12, mkL_12, mkT_13, mkL_13, mkT_14, mkL_14, mkT_15, mkL_15, mkT_16, mkL_16, mkT_17, mkL_17, mkT_18, mkL_18, mkT_19, mkL_19, mkT_20, mkL_20, par_2, par_3, parS_2, parS_3, reduceCtorEq, false_and, exists_false, Int.reduceNeg, Int.reduceAdd, Int.reduceSub, slotOf, decide_eq_true_eq, List.length_map, List.length_range, Bool.not_eq_true', decide_eq_false_iff_not, decide_not, Bool.not_not, ty_i, ty_b, ty_n, ty_s, ty_t, ty_l, ty_d, decide_true, decide_false, Int.reduceLE, Int.reduceLT, and_self, Int.reduceToNat, Int.toNat_natCast, lim_0, lim_1, lim_2, lim_3, lim_4, lim_5, lim_6, lim_7, lim_8, lim_9, lim_10, lim_11, lim_12, lim_13, lim_14, lim_15, lim_16, lim_17, lim_18, lim_19, lim_20, lim_21, lim_22, lim_23, lim_24, nc_0, nc_1, nc_2, nc_3, nc_4, nc_5, nc_6, nc_7, nc_8, nc_9, nc_10, nc_11, nc_12, Int.reduceEq, mkSeq, Option.map_some, Option.bind_some, List.getElem?_nil, or_true, or_false, true_or, false_or, not_true_eq_false, not_false_eq_true])
    refine weight4_ok hk (by omega) fun w g10 a9 b9 h9 => ?_
    (try simp only [hl, exs_c, exs_n, ex, ev, evs, evB, evIf, evS, evP, okx_bind, okx_ok, okx_exc, okx_lift, okx_asB, okx_if, okx_noX, lift_some, Res.bind_ok, Res.bind_exc, List.map_cons, List.map_nil, List.length_cons, List.length_nil, List.replicate, List.cons_append, List.nil_append, List.getElem?_cons_zero, List.getElem?_cons_succ, List.set_cons_zero, List.set_cons_succ, Nat.reduceSub, Nat.reduceAdd, if_true, Bool.false_eq_true, if_false, Option.some.injEq, exists_eq_left', exists_eq_left, bo_add, bo_sub, bo_p6, bo_p8, bo_p18, bo_p39, co_lt, co_le, co_gt, co_ge, co_eqi, co_nei, co_eqL, co_neL, co_eqT, co_neT, co_eqs, co_nes, co_neS2, beq_self_eq_true, co_isN, co_notN, co_isB, co_notB, co_memT, co_memL, co_nmemT, co_nmemL, bg_lenL, bg_lenT, bg_tupL, bg_tupT, bg_lstL, bg_lstT, bg_intB, bg_intI, bg_max, bg_min, bg_sumL, bg_sumT, bg_allL, bg_sortL, bg_sortT, ixd_l, ixd_t, de_lst, de_tup, tg_nm, tg_2, tg_3, tg_l2, tg_l3, dT_nm, dT_tp, nn_non, nn_int, nn_tup, nn_lst, bg_maxL, bg_maxT, bg_minL, bg_minP, at_0, at_1, at_2, at_3, Tg.slots, wipeR, iterD, items, op_none, op_int, sld_l, sld_t, rev_l, rev_t, D.bl.injEq, D.int.injEq, Bool.not_true, Bool.not_false, Bool.true_eq_false, and_true, true_and, mkT_0, mkL_0, mkT_1, mkL_1, mkT_2, mkL_2, mkT_3, mkL_3, mkT_4, mkL_4, mkT_5, mkL_5, mkT_6, mkL_6, mkT_7, mkL_7, mkT_8, mkL_8, mkT_9, mkL_9, mkT_10, mkL_10, mkT_11, mkL_11, mkT_12, mkL_12, mkT_13, mkL_13, mkT_14, mkL_14, mkT_15, mkL_15, mkT_16, mkL_16, mkT_17, mkL_17, mkT_18, mkL_18, mkT_19, mkL_19, mkT_20, mkL_20, par_2, par_3, parS_2, parS_3, reduceCtorEq, false_and, exists_false, Int.reduceNeg, Int.reduceAdd, Int.reduceSub, slotOf, decide_eq_true_eq, List.length_map, List.length_range, Bool.not_eq_true', decide_eq_false_iff_not, decide_not, Bool.not_not, ty_i, ty_b, ty_n, ty_s, ty_t, ty_l, ty_d, decide_true, decide_false, Int.reduceLE, Int.reduceLT, and_self, Int.reduceToNat, Int.toNat_natCast, lim_0, lim_1, lim_2, lim_3, lim_4, lim_5, lim_6, lim_7, lim_8, lim_9, lim_10, lim_11, lim_12, lim_13, lim_14, lim_15, lim_16, lim_17, lim_18, lim_19, lim_20, lim_21, lim_22, lim_23, lim_24, nc_0, nc_1, nc_2, nc_3, nc_4, nc_5, nc_6, nc_7, nc_8, nc_9, nc_10, nc_11, nc_12, Int.reduceEq, mkSeq, Option.map_some, Option.bind_some, List.getElem?_nil, or_true, or_false, true_or, false_or, not_true_eq_false, not_false_eq_true])
    exact ⟨h9.le (by omega), _, rfl, isI (by omega)⟩
  · intro ds g3 h3 hlen hd
    obtain ⟨ws, rfl, hwl, hw⟩ := ints_of hd
    rw [List.length_range] at h3 hlen
    (try simp only [exs_c, exs_n, ex, ev, evs, evB, evIf, evS, evP, okx_bind, okx_ok, okx_exc, okx_lift, okx_asB, okx_if, okx_noX, lift_some, Res.bind_ok, Res.bind_exc, List.map_cons, List.map_nil, List.length_cons, List.length_nil, List.replicate, List.cons_append, List.nil_append, List.getElem?_cons_zero, List.getElem?_cons_succ, List.set_cons_zero, List.set_cons_succ, Nat.reduceSub, Nat.reduceAdd, if_true, Bool.false_eq_true, if_false, Option.some.injEq, exists_eq_left', exists_eq_left, bo_add, bo_sub, bo_p6, bo_p8, bo_p18, bo_p39, co_lt, co_le, co_gt, co_ge, co_eqi, co_nei, co_eqL, co_neL, co_eqT, co_neT, co_eqs, co_nes, co_neS2, beq_self_eq_true, co_isN, co_notN, co_isB, co_notB, co_memT, co_memL, co_nmemT, co_nmemL, bg_lenL, bg_lenT, bg_tupL, bg_tupT, bg_lstL, bg_lstT, bg_intB, bg_intI, bg_max, bg_min, bg_sumL, bg_sumT, bg_allL, bg_sortL, bg_sortT, ixd_l, ixd_t, de_lst, de_tup, tg_nm, tg_2, tg_3, tg_l2, tg_l3, dT_nm, dT_tp, nn_non, nn_int, nn_tup, nn_lst, bg_maxL, bg_maxT, bg_minL, bg_minP, at_0, at_1, at_2, at_3, Tg.slots, wipeR, iterD, items, op_none, op_int, sld_l, sld_t, rev_l, rev_t, D.bl.injEq, D.int.injEq, Bool.not_true, Bool.not_false, Bool.true_eq_false, and_true, true_and, mkT_0, mkL_0, mkT_1, mkL_1, mkT_2, mkL_2, mkT_3, mkL_3, mkT_4, mkL_4, mkT_5, mkL_5, mkT_6, mkL_6, mkT_7, mkL_7, mkT_8, mkL_8, mkT_9, mkL_9, mkT_10, mkL_10, mkT_11, mkL_11, mkT_12, mkL_12, mkT_13, mkL_13, mkT_14, mkL_14, mkT_15, mkL_15, mkT_16, mkL_16, mkT_17, mkL_17, mkT_18, mkL_18, mkT_19, mkL_19, mkT_20, mkL_20, par_2, par_3, parS_2, parS_3, reduceCtorEq, false_and, exists_false, Int.reduceNeg, Int.reduceAdd, Int.reduceSub, slotOf, decide_eq_true_eq, List.length_map, List.length_range, Bool.not_eq_true', decide_eq_false_iff_not, decide_not, Bool.not_not, ty_i, ty_b, ty_n, ty_s, ty_t, ty_l, ty_d, decide_true, decide_false, Int.reduceLE, Int.reduceLT, and_self, Int.reduceToNat, Int.toNat_natCast, lim_0, lim_1, lim_2, lim_3, lim_4, lim_5, lim_6, lim_7, lim_8, lim_9, lim_10, lim_11, lim_12, lim_13, lim_14, lim_15, lim_16, lim_17, lim_18, lim_19, lim_20, lim_21, lim_22, lim_23, lim_24, nc_0, nc_1, nc_2, nc_3, nc_4, nc_5, nc_6, nc_7, nc_8, nc_9, nc_10, nc_11, nc_12, Int.reduceEq, mkSeq, Option.map_some, Option.bind_some, List.getElem?_nil, or_true, or_false, true_or, false_or, not_true_eq_false, not_false_eq_true])
    cases hws : ws with
    | nil =>
      subst hws
      (try simp only [List.isEmpty_nil, exs_c, exs_n, ex, ev, evs, evB, evIf, evS, evP, okx_bind, okx_ok, okx_exc, okx_lift, okx_asB, okx_if, okx_noX, lift_some, Res.bind_ok, Res.bind_exc, List.map_cons, List.map_nil, List.length_cons, List.length_nil, List.replicate, List.cons_append, List.nil_append, List.getElem?_cons_zero, List.getElem?_cons_succ, List.set_cons_zero, List.set_cons_succ, Nat.reduceSub, Nat.reduceAdd, if_true, Bool.false_eq_true, if_false, Option.some.injEq, exists_eq_left', exists_eq_left, bo_add, bo_sub, bo_p6, bo_p8, bo_p18, bo_p39, co_lt, co_le, co_gt, co_ge, co_eqi, co_nei, co_eqL, co_neL, co_eqT, co_neT, co_eqs, co_nes, co_neS2, beq_self_eq_true, co_isN, co_notN, co_isB, co_notB, co_memT, co_memL, co_nmemT, co_nmemL, bg_lenL, bg_lenT, bg_tupL, bg_tupT, bg_lstL, bg_lstT, bg_intB, bg_intI, bg_max, bg_min, bg_sumL, bg_sumT, bg_allL, bg_sortL, bg_sortT, ixd_l, ixd_t, de_lst, de_tup, tg_nm, tg_2, tg_3, tg_l2, tg_l3, dT_nm, dT_tp, nn_non, nn_int, nn_tup, nn_lst, bg_maxL, bg_maxT, bg_minL, bg_minP, at_0, at_1, at_2, at_3, Tg.slots, wipeR, iterD, items, op_none, op_int, sld_l, sld_t, rev_l, rev_t, D.bl.injEq, D.int.injEq, Bool.not_true, Bool.not_false, Bool.true_eq_false, and_true, true_and, mkT_0, mkL_0, mkT_1, mkL_1, mkT_2, mkL_2, mkT_3, mkL_3, mkT_4, mkL_4, mkT_5, mkL_5, mkT_6, mkL_6, mkT_7, mkL_7, mkT_8, mkL_8, mkT_9, mkL_9, mkT_10, mkL_10, mkT_11, mkL_11, mkT_12, mkL_12, mkT_13, mkL_13, mkT_14, mkL_14, mkT_15, mkL_15, mkT_16, mkL_16, mkT_17, mkL_17, mkT_18, mkL_18, mkT_19, mkL_19, mkT_20, mkL_20, par_2, par_3, parS_2, parS_3, reduceCtorEq, false_and, exists_false, Int.reduceNeg, Int.reduceAdd, Int.reduceSub, slotOf, decide_eq_true_eq, List.length_map, List.length_range, Bool.not_eq_true', decide_eq_false_iff_not, decide_not, Bool.not_not, ty_i, ty_b, ty_n, ty_s, ty_t, ty_l, ty_d, decide_true, decide_false, Int.reduceLE, Int.reduceLT, and_self, Int.reduceToNat, Int.toNat_natCast, lim_0, lim_1, lim_2, lim_3, lim_4, lim_5, lim_6, lim_7, lim_8, lim_9, lim_10, lim_11, lim_12, lim_13, lim_14, lim_15, lim_16, lim_17, lim_18, lim_19, lim_20, lim_21, lim_22, lim_23, lim_24, nc_0, nc_1, nc_2, nc_3, nc_4, nc_5, nc_6, nc_7, nc_8, nc_9, nc_10, nc_11, nc_12, Int.reduceEq, mkSeq, Option.map_some, Option.bind_some, List.getElem?_nil, or_true, or_false, true_or, false_or, not_true_eq_false, not_false_eq_true])
      exact q [] g3 (by simp) Ints.nil (h3.le (by omega))
    | cons w0 wt =>
      rw [← hws]
      have hne : (ws.map D.int).isEmpty = false := by rw [hws]; rfl
      have hpos : 0 < (ws.map D.int).length := by rw [hws]; simp
      have hsm : (ws.map D.int).length < 2 ^ 60 := by rw [List.length_map]; omega
      have hdi : ∀ d ∈ ws.map D.int, IsI 1 1000000 d := hd
      have hlm : (ws.map D.int).length = ws.length := by rw [List.length_map]
      (try simp only [hne, exs_c, exs_n, ex, ev, evs, evB, evIf, evS, evP, okx_bind, okx_ok, okx_exc, okx_lift, okx_asB, okx_if, okx_noX, lift_some, Res.bind_ok, Res.bind_exc, List.map_cons, List.map_nil, List.length_cons, List.length_nil, List.replicate, List.cons_append, List.nil_append, List.getElem?_cons_zero, List.getElem?_cons_succ, List.set_cons_zero, List.set_cons_succ, Nat.reduceSub, Nat.reduceAdd, if_true, Bool.false_eq_true, if_false, Option.some.injEq, exists_eq_left', exists_eq_left, bo_add, bo_sub, bo_p6, bo_p8, bo_p18, bo_p39, co_lt, co_le, co_gt, co_ge, co_eqi, co_nei, co_eqL, co_neL, co_eqT, co_neT, co_eqs, co_nes, co_neS2, beq_self_eq_true, co_isN, co_notN, co_isB, co_notB, co_memT, co_memL, co_nmemT, co_nmemL, bg_lenL, bg_lenT, bg_tupL, bg_tupT, bg_lstL, bg_lstT, bg_intB, bg_intI, bg_max, bg_min, bg_sumL, bg_sumT, bg_allL, bg_sortL, bg_sortT, ixd_l, ixd_t, de_lst, de_tup, tg_nm, tg_2, tg_3, tg_l2, tg_l3, dT_nm, dT_tp, nn_non, nn_int, nn_tup, nn_lst, bg_maxL, bg_maxT, bg_minL, bg_minP, at_0, at_1, at_2, at_3, Tg.slots, wipeR, iterD, items, op_none, op_int, sld_l, sld_t, rev_l, rev_t, D.bl.injEq, D.int.injEq, Bool.not_true, Bool.not_false, Bool.true_eq_false, and_true, true_and, mkT_0, mkL_0, mkT_1, mkL_1, mkT_2, mkL_2, mkT_3, mkL_3, mkT_4, mkL_4, mkT_5, mkL_5, mkT_6, mkL_6, mkT_7, mkL_7, mkT_8, mkL_8, mkT_9, mkL_9, mkT_10, mkL_10, mkT_11, mkL_11, mkT_12, mkL_12, mkT_13, mkL_13, mkT_14, mkL_14, mkT_15, mkL_15, mkT_16, mkL_16, mkT_17, mkL_17, mkT_18, mkL_18, mkT_19, mkL_19, mkT_20, mkL_20, par_2, par_3, parS_2, parS_3, reduceCtorEq, false_and, exists_false, Int.reduceNeg, Int.reduceAdd, Int.reduceSub, slotOf, decide_eq_true_eq, List.length_map, List.length_range, Bool.not_eq_true', decide_eq_false_iff_not, decide_not, Bool.not_not, ty_i, ty_b, ty_n, ty_s, ty_t, ty_l, ty_d, decide_true, decide_false, Int.reduceLE, Int.reduceLT, and_self, Int.reduceToNat, Int.toNat_natCast, lim_0, lim_1, lim_2, lim_3, lim_4, lim_5, lim_6, lim_7, lim_8, lim_9, lim_10, lim_11, lim_12, lim_13, lim_14, lim_15, lim_16, lim_17, lim_18, lim_19, lim_20, lim_21, lim_22, lim_23, lim_24, nc_0, nc_1, nc_2, nc_3, nc_4, nc_5, nc_6, nc_7, nc_8, nc_9, nc_10, nc_11, nc_12, Int.reduceEq, mkSeq, Option.map_some, Option.bind_some, List.getElem?_nil, or_true, or_false, true_or, false_or, not_true_eq_false, not_false_eq_true])
      refine next2_ok h3 (by omega) (by omega) (by omega) fun v8 g4 a8 b8 h4 => ?_
      by_cases h0 : v8 = 0
      · (try simp only [h0, exs_c, exs_n, ex, ev, evs, evB, evIf, evS, evP, okx_bind, okx_ok, okx_exc, okx_lift, okx_asB, okx_if, okx_noX, lift_some, Res.bind_ok, Res.bind_exc, List.map_cons, List.map_nil, List.length_cons, List.length_nil, List.replicate, List.cons_append, List.nil_append, List.getElem?_cons_zero, List.getElem?_cons_succ, List.set_cons_zero, List.set_cons_succ, Nat.reduceSub, Nat.reduceAdd, if_true, Bool.false_eq_true, if_false, Option.some.injEq, exists_eq_left', exists_eq_left, bo_add, bo_sub, bo_p6, bo_p8, bo_p18, bo_p39, co_lt, co_le, co_gt, co_ge, co_eqi, co_nei, co_eqL, co_neL, co_eqT, co_neT, co_eqs, co_nes, co_neS2, beq_self_eq_true, co_isN, co_notN, co_isB, co_notB, co_memT, co_memL, co_nmemT, co_nmemL, bg_lenL, bg_lenT, bg_tupL, bg_tupT, bg_lstL, bg_lstT, bg_intB, bg_intI, bg_max, bg_min, bg_sumL, bg_sumT, bg_allL, bg_sortL, bg_sortT, ixd_l, ixd_t, de_lst, de_tup, tg_nm, tg_2, tg_3, tg_l2, tg_l3, dT_nm, dT_tp, nn_non, nn_int, nn_tup, nn_lst, bg_maxL, bg_maxT, bg_minL, bg_minP, at_0, at_1, at_2, at_3, Tg.slots, wipeR, iterD, items, op_none, op_int, sld_l, sld_t, rev_l, rev_t, D.bl.injEq, D.int.injEq, Bool.not_true, Bool.not_false, Bool.true_eq_false, and_true, true_and, mkT_0, mkL_0, mkT_1, mkL_1, mkT_2, mkL_2, mkT_3, mkL_3, mkT_4, mkL_4, mkT_5, mkL_5, mkT_6, mkL_6, mkT_7, mkL_7, mkT_8, mkL_8, mkT_9, mkL_9, mkT_10, mkL_10, mkT_11, mkL_11, mkT_12, mkL_12, mkT_13, mkL_13, mkT_14, mkL_14, mkT_15, mkL_15, mkT_16, mkL_16, mkT_17, mkL_17, mkT_18, mkL_18, mkT_19, mkL_19, mkT_20, mkL_20, par_2, par_3, parS_2, parS_3, reduceCtorEq, false_and, exists_false, Int.reduceNeg, Int.reduceAdd, Int.reduceSub, slotOf, decide_eq_true_eq, List.length_map, List.length_range, Bool.not_eq_true', decide_eq_false_iff_not, decide_not, Bool.not_not, ty_i, ty_b, ty_n, ty_s, ty_t, ty_l, ty_d, decide_true, decide_false, Int.reduceLE, Int.reduceLT, and_self, Int.reduceToNat, Int.toNat_natCast, lim_0, lim_1, lim_2, lim_3, lim_4, lim_5, lim_6, lim_7, lim_8, lim_9, lim_10, lim_11, lim_12, lim_13, lim_14, lim_15, lim_16, lim_17, lim_18, lim_19, lim_20, lim_21, lim_22, lim_23, lim_24, nc_0, nc_1, nc_2, nc_3, nc_4, nc_5, nc_6, nc_7, nc_8, nc_9, nc_10, nc_11, nc_12, Int.reduceEq, mkSeq, Option.map_some, Option.bind_some, List.getElem?_nil, or_true, or_false, true_or, false_or, not_true_eq_false, not_false_eq_true])
        refine one2_ok (R := IsI 1 1000000) h4 hpos hsm (by omega) hdi ?_
        rintro _ g5 ⟨x, rfl, x1, x2⟩ h5
        (try simp only [exs_c, exs_n, ex, ev, evs, evB, evIf, evS, evP, okx_bind, okx_ok, okx_exc, okx_lift, okx_asB, okx_if, okx_noX, lift_some, Res.bind_ok, Res.bind_exc, List.map_cons, List.map_nil, List.length_cons, List.length_nil, List.replicate, List.cons_append, List.nil_append, List.getElem?_cons_zero, List.getElem?_cons_succ, List.set_cons_zero, List.set_cons_succ, Nat.reduceSub, Nat.reduceAdd, if_true, Bool.false_eq_true, if_false, Option.some.injEq, exists_eq_left', exists_eq_left, bo_add, bo_sub, bo_p6, bo_p8, bo_p18, bo_p39, co_lt, co_le, co_gt, co_ge, co_eqi, co_nei, co_eqL, co_neL, co_eqT, co_neT, co_eqs, co_nes, co_neS2, beq_self_eq_true, co_isN, co_notN, co_isB, co_notB, co_memT, co_memL, co_nmemT, co_nmemL, bg_lenL, bg_lenT, bg_tupL, bg_tupT, bg_lstL, bg_lstT, bg_intB, bg_intI, bg_max, bg_min, bg_sumL, bg_sumT, bg_allL, bg_sortL, bg_sortT, ixd_l, ixd_t, de_lst, de_tup, tg_nm, tg_2, tg_3, tg_l2, tg_l3, dT_nm, dT_tp, nn_non, nn_int, nn_tup, nn_lst, bg_maxL, bg_maxT, bg_minL, bg_minP, at_0, at_1, at_2, at_3, Tg.slots, wipeR, iterD, items, op_none, op_int, sld_l, sld_t, rev_l, rev_t, D.bl.injEq, D.int.injEq, Bool.not_true, Bool.not_false, Bool.true_eq_false, and_true, true_and, mkT_0, mkL_0, mkT_1, mkL_1, mkT_2, mkL_2, mkT_3, mkL_3, mkT_4, mkL_4, mkT_5, mkL_5, mkT_6, mkL_6, mkT_7, mkL_7, mkT_8, mkL_8, mkT_9, mkL_9, mkT_10, mkL_10, mkT_11, mkL_11, mkT_12, mkL_12, mkT_13, mkL_13, mkT_14, mkL_14, mkT_15, mkL_15, mkT_16, mkL_16, mkT_17, mkL_17, mkT_18, mkL_18, mkT_19, mkL_19, mkT_20, mkL_20, par_2, par_3, parS_2, parS_3, reduceCtorEq, false_and, exists_false, Int.reduceNeg, Int.reduceAdd, Int.reduceSub, slotOf, decide_eq_true_eq, List.length_map, List.length_range, Bool.not_eq_true', decide_eq_false_iff_not, decide_not, Bool.not_not, ty_i, ty_b, ty_n, ty_s, ty_t, ty_l, ty_d, decide_true, decide_false, Int.reduceLE, Int.reduceLT, and_self, Int.reduceToNat, Int.toNat_natCast, lim_0, lim_1, lim_2, lim_3, lim_4, lim_5, lim_6, lim_7, lim_8, lim_9, lim_10, lim_11, lim_12, lim_13, lim_14, lim_15, lim_16, lim_17, lim_18, lim_19, lim_20, lim_21, lim_22, lim_23, lim_24, nc_0, nc_1, nc_2, nc_3, nc_4, nc_5, nc_6, nc_7, nc_8, nc_9, nc_10, nc_11, nc_12, Int.reduceEq, mkSeq, Option.map_some, Option.bind_some, List.getElem?_nil, or_true, or_false, true_or, false_or, not_true_eq_false, not_false_eq_true])
        refine one2_ok (R := IsI 1 1000000) h5 hpos hsm (by omega) hdi ?_
        rintro _ g6 ⟨y, rfl, y1, y2⟩ h6
        have hb : binop .add (.lst (ws.map D.int)) (.lst [.int x, .int y]) = some (.lst ((ws ++ [x, y]).map D.int)) := by rw [bo_lst (by simp only [List.length_cons, List.length_nil, List.length_append, List.length_map, List.length_reverse, LIM]; omega), List.map_append]; rfl
        (try simp only [hb, cut_ints, exs_c, exs_n, ex, ev, evs, evB, evIf, evS, evP, okx_bind, okx_ok, okx_exc, okx_lift, okx_asB, okx_if, okx_noX, lift_some, Res.bind_ok, Res.bind_exc, List.map_cons, List.map_nil, List.length_cons, List.length_nil, List.replicate, List.cons_append, List.nil_append, List.getElem?_cons_zero, List.getElem?_cons_succ, List.set_cons_zero, List.set_cons_succ, Nat.reduceSub, Nat.reduceAdd, if_true, Bool.false_eq_true, if_false, Option.some.injEq, exists_eq_left', exists_eq_left, bo_add, bo_sub, bo_p6, bo_p8, bo_p18, bo_p39, co_lt, co_le, co_gt, co_ge, co_eqi, co_nei, co_eqL, co_neL, co_eqT, co_neT, co_eqs, co_nes, co_neS2, beq_self_eq_true, co_isN, co_notN, co_isB, co_notB, co_memT, co_memL, co_nmemT, co_nmemL, bg_lenL, bg_lenT, bg_tupL, bg_tupT, bg_lstL, bg_lstT, bg_intB, bg_intI, bg_max, bg_min, bg_sumL, bg_sumT, bg_allL, bg_sortL, bg_sortT, ixd_l, ixd_t, de_lst, de_tup, tg_nm, tg_2, tg_3, tg_l2, tg_l3, dT_nm, dT_tp, nn_non, nn_int, nn_tup, nn_lst, bg_maxL, bg_maxT, bg_minL, bg_minP, at_0, at_1, at_2, at_3, Tg.slots, wipeR, iterD, items, op_none, op_int, sld_l, sld_t, rev_l, rev_t, D.bl.injEq, D.int.injEq, Bool.not_true, Bool.not_false, Bool.true_eq_false, and_true, true_and, mkT_0, mkL_0, mkT_1, mkL_1, mkT_2, mkL_2, mkT_3, mkL_3, mkT_4, mkL_4, mkT_5, mkL_5, mkT_6, mkL_6, mkT_7, mkL_7, mkT_8, mkL_8, mkT_9, mkL_9, mkT_10, mkL_10, mkT_11, mkL_11, mkT_12, mkL_12, mkT_13, mkL_13, mkT_14, mkL_14, mkT_15, mkL_15, mkT_16, mkL_16, mkT_17, mkL_17, mkT_18, mkL_18, mkT_19, mkL_19, mkT_20, mkL_20, par_2, par_3, parS_2, parS_3, reduceCtorEq, false_and, exists_false, Int.reduceNeg, Int.reduceAdd, Int.reduceSub, slotOf, decide_eq_true_eq, List.length_map, List.length_range, Bool.not_eq_true', decide_eq_false_iff_not, decide_not, Bool.not_not, ty_i, ty_b, ty_n, ty_s, ty_t, ty_l, ty_d, decide_true, decide_false, Int.reduceLE, Int.reduceLT, and_self, Int.reduceToNat, Int.toNat_natCast, lim_0, lim_1, lim_2, lim_3, lim_4, lim_5, lim_6, lim_7, lim_8, lim_9, lim_10, lim_11, lim_12, lim_13, lim_14, lim_15, lim_16, lim_17, lim_18, lim_19, lim_20, lim_21, lim_22, lim_23, lim_24, nc_0, nc_1, nc_2, nc_3, nc_4, nc_5, nc_6, nc_7, nc_8, nc_9, nc_10, nc_11, nc_12, Int.reduceEq, mkSeq, Option.map_some, Option.bind_some, List.getElem?_nil, or_true, or_false, true_or, false_or, not_true_eq_false, not_false_eq_true])
        have hc := cut_in (xs := ws ++ [x, y]) (lo := none) (hi := some 24)
        refine q _ g6 (Nat.le_trans hc.2 ?_) (Ints.sub (hw.app (.cons ⟨x1, x2⟩ (.cons ⟨y1, y2⟩ .nil))) hc.1) (h6.le (by omega))
        rw [List.length_append]; simp; omega
      · (try simp only [h0, exs_c, exs_n, ex, ev, evs, evB, evIf, evS, evP, okx_bind, okx_ok, okx_exc, okx_lift, okx_asB, okx_if, okx_noX, lift_some, Res.bind_ok, Res.bind_exc, List.map_cons, List.map_nil, List.length_cons, List.length_nil, List.replicate, List.cons_append, List.nil_append, List.getElem?_cons_zero, List.getElem?_cons_succ, List.set_cons_zero, List.set_cons_succ, Nat.reduceSub, Nat.reduceAdd, if_true, Bool.false_eq_true, if_false, Option.some.injEq, exists_eq_left', exists_eq_left, bo_add, bo_sub, bo_p6, bo_p8, bo_p18, bo_p39, co_lt, co_le, co_gt, co_ge, co_eqi, co_nei, co_eqL, co_neL, co_eqT, co_neT, co_eqs, co_nes, co_neS2, beq_self_eq_true, co_isN, co_notN, co_isB, co_notB, co_memT, co_memL, co_nmemT, co_nmemL, bg_lenL, bg_lenT, bg_tupL, bg_tupT, bg_lstL, bg_lstT, bg_intB, bg_intI, bg_max, bg_min, bg_sumL, bg_sumT, bg_allL, bg_sortL, bg_sortT, ixd_l, ixd_t, de_lst, de_tup, tg_nm, tg_2, tg_3, tg_l2, tg_l3, dT_nm, dT_tp, nn_non, nn_int, nn_tup, nn_lst, bg_maxL, bg_maxT, bg_minL, bg_minP, at_0, at_1, at_2, at_3, Tg.slots, wipeR, iterD, items, op_none, op_int, sld_l, sld_t, rev_l, rev_t, D.bl.injEq, D.int.injEq, Bool.not_true, Bool.not_false, Bool.true_eq_false, and_true, true_and, mkT_0, mkL_0, mkT_1, mkL_1, mkT_2, mkL_2, mkT_3, mkL_3, mkT_4, mkL_4, mkT_5, mkL_5, mkT_6, mkL_6, mkT_7, mkL_7, mkT_8, mkL_8, mkT_9, mkL_9, mkT_10, mkL_10, mkT_11, mkL_11, mkT_12, mkL_12, mkT_13, mkL_13, mkT_14, mkL_14, mkT_15, mkL_15, mkT_16, mkL_16, mkT_17, mkL_17, mkT_18, mkL_18, mkT_19, mkL_19, mkT_20, mkL_20, par_2, par_3, parS_2, parS_3, reduceCtorEq, false_and, exists_false, Int.reduceNeg, Int.reduceAdd, Int.reduceSub, slotOf, decide_eq_true_eq, List.length_map, List.length_range, Bool.not_eq_true', decide_eq_false_iff_not, decide_not, Bool.not_not, ty_i, ty_b, ty_n, ty_s, ty_t, ty_l, ty_d, decide_true, decide_false, Int.reduceLE, Int.reduceLT, and_self, Int.reduceToNat, Int.toNat_natCast, lim_0, lim_1, lim_2, lim_3, lim_4, lim_5, lim_6, lim_7, lim_8, lim_9, lim_10, lim_11, lim_12, lim_13, lim_14, lim_15, lim_16, lim_17, lim_18, lim_19, lim_20, lim_21, lim_22, lim_23, lim_24, nc_0, nc_1, nc_2, nc_3, nc_4, nc_5, nc_6, nc_7, nc_8, nc_9, nc_10, nc_11, nc_12, Int.reduceEq, mkSeq, Option.map_some, Option.bind_some, List.getElem?_nil, or_true, or_false, true_or, false_or, not_true_eq_false, not_false_eq_true])
        exact q ws g4 (by omega) hw (h4.le (by omega))
theorem tower5_ok {Q : D → List O → Prop} (h : DR g o B) (hB : B < 2 ^ 20)
    (q : ∀ (e : Int) (ws : List Int) g', 1 ≤ e → e ≤ 1000000 → ws.length ≤ 24 → Ints 1 1000000 ws → DR g' o (B + 100) → Q (.tup [.int e, .tup (ws.map D.int)]) g') : Okx (callN gl P (n + 3) f__law_tower_5 [.ref o, .int 24] g) Q E := by
  refine okx_call P__law_tower_5 rfl ?_
  simp only [b__law_tower_5]
  (try simp only [exs_c, exs_n, ex, ev, evs, evB, evIf, evS, evP, okx_bind, okx_ok, okx_exc, okx_lift, okx_asB, okx_if, okx_noX, lift_some, Res.bind_ok, Res.bind_exc, List.map_cons, List.map_nil, List.length_cons, List.length_nil, List.replicate, List.cons_append, List.nil_append, List.getElem?_cons_zero, List.getElem?_cons_succ, List.set_cons_zero, List.set_cons_succ, Nat.reduceSub, Nat.reduceAdd, if_true, Bool.false_eq_true, if_false, Option.some.injEq, exists_eq_left', exists_eq_left, bo_add, bo_sub, bo_p6, bo_p8, bo_p18, bo_p39, co_lt, co_le, co_gt, co_ge, co_eqi, co_nei, co_eqL, co_neL, co_eqT, co_neT, co_eqs, co_nes, co_neS2, beq_self_eq_true, co_isN, co_notN, co_isB, co_notB, co_memT, co_memL, co_nmemT, co_nmemL, bg_lenL, bg_lenT, bg_tupL, bg_tupT, bg_lstL, bg_lstT, bg_intB, bg_intI, bg_max, bg_min, bg_sumL, bg_sumT, bg_allL, bg_sortL, bg_sortT, ixd_l, ixd_t, de_lst, de_tup, tg_nm, tg_2, tg_3, tg_l2, tg_l3, dT_nm, dT_tp, nn_non, nn_int, nn_tup, nn_lst, bg_maxL, bg_maxT, bg_minL, bg_minP, at_0, at_1, at_2, at_3, Tg.slots, wipeR, iterD, items, op_none, op_int, sld_l, sld_t, rev_l, rev_t, D.bl.injEq, D.int.injEq, Bool.not_true, Bool.not_false, Bool.true_eq_false, and_true, true_and, mkT_0, mkL_0, mkT_1, mkL_1, mkT_2, mkL_2, mkT_3, mkL_3, mkT_4, mkL_4, mkT_5, mkL_5, mkT_6, mkL_6, mkT_7, mkL_7, mkT_8, mkL_8, mkT_9, mkL_9, mkT_10, mkL_10, mkT_11, mkL_11, mkT_12, mkL_12, mkT_13, mkL_13, mkT_14, mkL_14, mkT_15, mkL_15, mkT_16, mkL_16, mkT_17, mkL_17, mkT_18, mkL_18, mkT_19, mkL_19, mkT_20, mkL_20, par_2, par_3, parS_2, parS_3, reduceCtorEq, false_and, exists_false, Int.reduceNeg, Int.reduceAdd, Int.reduceSub, slotOf, decide_eq_true_eq, List.length_map, List.length_range, Bool.not_eq_true', decide_eq_false_iff_not, decide_not, Bool.not_not, ty_i, ty_b, ty_n, ty_s, ty_t, ty_l, ty_d, decide_true, decide_false, Int.reduceLE, Int.reduceLT, and_self, Int.reduceToNat, Int.toNat_natCast, lim_0, lim_1, lim_2, lim_3, lim_4, lim_5, lim_6, lim_7, lim_8, lim_9, lim_10, lim_11, lim_12, lim_13, lim_14, lim_15, lim_16, lim_17, lim_18, lim_19, lim_20, lim_21, lim_22, lim_23, lim_24, nc_0, nc_1, nc_2, nc_3, nc_4, nc_5, nc_6, nc_7, nc_8, nc_9, nc_10, nc_11, nc_12, Int.reduceEq, mkSeq, Option.map_some, Option.bind_some, List.getElem?_nil, or_true, or_false, true_or, false_or, not_true_eq_false, not_false_eq_true])
  refine next2_ok h (by omega) (by omega) (by omega) fun way g1 a1 b1 h1 => ?_
  (try simp only [exs_c, exs_n, ex, ev, evs, evB, evIf, evS, evP, okx_bind, okx_ok, okx_exc, okx_lift, okx_asB, okx_if, okx_noX, lift_some, Res.bind_ok, Res.bind_exc, List.map_cons, List.map_nil, List.length_cons, List.length_nil, List.replicate, List.cons_append, List.nil_append, List.getElem?_cons_zero, List.getElem?_cons_succ, List.set_cons_zero, List.set_cons_succ, Nat.reduceSub, Nat.reduceAdd, if_true, Bool.false_eq_true, if_false, Option.some.injEq, exists_eq_left', exists_eq_left, bo_add, bo_sub, bo_p6, bo_p8, bo_p18, bo_p39, co_lt, co_le, co_gt, co_ge, co_eqi, co_nei, co_eqL, co_neL, co_eqT, co_neT, co_eqs, co_nes, co_neS2, beq_self_eq_true, co_isN, co_notN, co_isB, co_notB, co_memT, co_memL, co_nmemT, co_nmemL, bg_lenL, bg_lenT, bg_tupL, bg_tupT, bg_lstL, bg_lstT, bg_intB, bg_intI, bg_max, bg_min, bg_sumL, bg_sumT, bg_allL, bg_sortL, bg_sortT, ixd_l, ixd_t, de_lst, de_tup, tg_nm, tg_2, tg_3, tg_l2, tg_l3, dT_nm, dT_tp, nn_non, nn_int, nn_tup, nn_lst, bg_maxL, bg_maxT, bg_minL, bg_minP, at_0, at_1, at_2, at_3, Tg.slots, wipeR, iterD, items, op_none, op_int, sld_l, sld_t, rev_l, rev_t, D.bl.injEq, D.int.injEq, Bool.not_true, Bool.not_false, Bool.true_eq_false, and_true, true_and, mkT_0, mkL_0, mkT_1, mkL_1, mkT_2, mkL_2, mkT_3, mkL_3, mkT_4, mkL_4, mkT_5, mkL_5, mkT_6, mkL_6, mkT_7, mkL_7, mkT_8, mkL_8, mkT_9, mkL_9, mkT_10, mkL_10, mkT_11, mkL_11, mkT_12, mkL_12, mkT_13, mkL_13, mkT_14, mkL_14, mkT_15, mkL_15, mkT_16, mkL_16, mkT_17, mkL_17, mkT_18, mkL_18, mkT_19, mkL_19, mkT_20, mkL_20, par_2, par_3, parS_2, parS_3, reduceCtorEq, false_and, exists_false, Int.reduceNeg, Int.reduceAdd, Int.reduceSub, slotOf, decide_eq_true_eq, List.length_map, List.length_range, Bool.not_eq_true', decide_eq_false_iff_not, decide_not, Bool.not_not, ty_i, ty_b, ty_n, ty_s, ty_t, ty_l, ty_d, decide_true, decide_false, Int.reduceLE, Int.reduceLT, and_self, Int.reduceToNat, Int.toNat_natCast, lim_0, lim_1, lim_2, lim_3, lim_4, lim_5, lim_6, lim_7, lim_8, lim_9, lim_10, lim_11, lim_12, lim_13, lim_14, lim_15, lim_16, lim_17, lim_18, lim_19, lim_20, lim_21, lim_22, lim_23, lim_24, nc_0, nc_1, nc_2, nc_3, nc_4, nc_5, nc_6, nc_7, nc_8, nc_9, nc_10, nc_11, nc_12, Int.reduceEq, mkSeq, Option.map_some, Option.bind_some, List.getElem?_nil, or_true, or_false, true_or, false_or, not_true_eq_false, not_false_eq_true])
  refine next2_ok h1 (by omega) (by omega) (by omega) fun v2 g2 a2 b2 h2 => ?_
  (try simp only [exs_c, exs_n, ex, ev, evs, evB, evIf, evS, evP, okx_bind, okx_ok, okx_exc, okx_lift, okx_asB, okx_if, okx_noX, lift_some, Res.bind_ok, Res.bind_exc, List.map_cons, List.map_nil, List.length_cons, List.length_nil, List.replicate, List.cons_append, List.nil_append, List.getElem?_cons_zero, List.getElem?_cons_succ, List.set_cons_zero, List.set_cons_succ, Nat.reduceSub, Nat.reduceAdd, if_true, Bool.false_eq_true, if_false, Option.some.injEq, exists_eq_left', exists_eq_left, bo_add, bo_sub, bo_p6, bo_p8, bo_p18, bo_p39, co_lt, co_le, co_gt, co_ge, co_eqi, co_nei, co_eqL, co_neL, co_eqT, co_neT, co_eqs, co_nes, co_neS2, beq_self_eq_true, co_isN, co_notN, co_isB, co_notB, co_memT, co_memL, co_nmemT, co_nmemL, bg_lenL, bg_lenT, bg_tupL, bg_tupT, bg_lstL, bg_lstT, bg_intB, bg_intI, bg_max, bg_min, bg_sumL, bg_sumT, bg_allL, bg_sortL, bg_sortT, ixd_l, ixd_t, de_lst, de_tup, tg_nm, tg_2, tg_3, tg_l2, tg_l3, dT_nm, dT_tp, nn_non, nn_int, nn_tup, nn_lst, bg_maxL, bg_maxT, bg_minL, bg_minP, at_0, at_1, at_2, at_3, Tg.slots, wipeR, iterD, items, op_none, op_int, sld_l, sld_t, rev_l, rev_t, D.bl.injEq, D.int.injEq, Bool.not_true, Bool.not_false, Bool.true_eq_false, and_true, true_and, mkT_0, mkL_0, mkT_1, mkL_1, mkT_2, mkL_2, mkT_3, mkL_3, mkT_4, mkL_4, mkT_5, mkL_5, mkT_6, mkL_6, mkT_7, mkL_7, mkT_8, mkL_8, mkT_9, mkL_9, mkT_10, mkL_10, mkT_11, mkL_11, mkT_12, mkL_12, mkT_13, mkL_13, mkT_14, mkL_14, mkT_15, mkL_15, mkT_16, mkL_16, mkT_17, mkL_17, mkT_18, mkL_18, mkT_19, mkL_19, mkT_20, mkL_20, par_2, par_3, parS_2, parS_3, reduceCtorEq, false_and, exists_false, Int.reduceNeg, Int.reduceAdd, Int.reduceSub, slotOf, decide_eq_true_eq, List.length_map, List.length_range, Bool.not_eq_true', decide_eq_false_iff_not, decide_not, Bool.not_not, ty_i, ty_b, ty_n, ty_s, ty_t, ty_l, ty_d, decide_true, decide_false, Int.reduceLE, Int.reduceLT, and_self, Int.reduceToNat, Int.toNat_natCast, lim_0, lim_1, lim_2, lim_3, lim_4, lim_5, lim_6, lim_7, lim_8, lim_9, lim_10, lim_11, lim_12, lim_13, lim_14, lim_15, lim_16, lim_17, lim_18, lim_19, lim_20, lim_21, lim_22, lim_23, lim_24, nc_0, nc_1, nc_2, nc_3, nc_4, nc_5, nc_6, nc_7, nc_8, nc_9, nc_10, nc_11, nc_12, Int.reduceEq, mkSeq, Option.map_some, Option.bind_some, List.getElem?_nil, or_true, or_false, true_or, false_or, not_true_eq_false, not_false_eq_true])
  refine next2_ok h2 (by omega) (by omega) (by omega) fun v3 g3 a3 b3 h3 => ?_
  (try simp only [exs_c, exs_n, ex, ev, evs, evB, evIf, evS, evP, okx_bind, okx_ok, okx_exc, okx_lift, okx_asB, okx_if, okx_noX, lift_some, Res.bind_ok, Res.bind_exc, List.map_cons, List.map_nil, List.length_cons, List.length_nil, List.replicate, List.cons_append, List.nil_append, List.getElem?_cons_zero, List.getElem?_cons_succ, List.set_cons_zero, List.set_cons_succ, Nat.reduceSub, Nat.reduceAdd, if_true, Bool.false_eq_true, if_false, Option.some.injEq, exists_eq_left', exists_eq_left, bo_add, bo_sub, bo_p6, bo_p8, bo_p18, bo_p39, co_lt, co_le, co_gt, co_ge, co_eqi, co_nei, co_eqL, co_neL, co_eqT, co_neT, co_eqs, co_nes, co_neS2, beq_self_eq_true, co_isN, co_notN, co_isB, co_notB, co_memT, co_memL, co_nmemT, co_nmemL, bg_lenL, bg_lenT, bg_tupL, bg_tupT, bg_lstL, bg_lstT, bg_intB, bg_intI, bg_max, bg_min, bg_sumL, bg_sumT, bg_allL, bg_sortL, bg_sortT, ixd_l, ixd_t, de_lst, de_tup, tg_nm, tg_2, tg_3, tg_l2, tg_l3, dT_nm, dT_tp, nn_non, nn_int, nn_tup, nn_lst, bg_maxL, bg_maxT, bg_minL, bg_minP, at_0, at_1, at_2, at_3, Tg.slots, wipeR, iterD, items, op_none, op_int, sld_l, sld_t, rev_l, rev_t, D.bl.injEq, D.int.injEq, Bool.not_true, Bool.not_false, Bool.true_eq_false, and_true, true_and, mkT_0, mkL_0, mkT_1, mkL_1, mkT_2, mkL_2, mkT_3, mkL_3, mkT_4, mkL_4, mkT_5, mkL_5, mkT_6, mkL_6, mkT_7, mkL_7, mkT_8, mkL_8, mkT_9, mkL_9, mkT_10, mkL_10, mkT_11, mkL_11, mkT_12, mkL_12, mkT_13, mkL_13, mkT_14, mkL_14, mkT_15, mkL_15, mkT_16, mkL_16, mkT_17, mkL_17, mkT_18, mkL_18, mkT_19, mkL_19, mkT_20, mkL_20, par_2, par_3, parS_2, parS_3, reduceCtorEq, false_and, exists_false, Int.reduceNeg, Int.reduceAdd, Int.reduceSub, slotOf, decide_eq_true_eq, List.length_map, List.length_range, Bool.not_eq_true', decide_eq_false_iff_not, decide_not, Bool.not_not, ty_i, ty_b, ty_n, ty_s, ty_t, ty_l, ty_d, decide_true, decide_false, Int.reduceLE, Int.reduceLT, and_self, Int.reduceToNat, Int.toNat_natCast, lim_0, lim_1, lim_2, lim_3, lim_4, lim_5, lim_6, lim_7, lim_8, lim_9, lim_10, lim_11, lim_12, lim_13, lim_14, lim_15, lim_16, lim_17, lim_18, lim_19, lim_20, lim_21, lim_22, lim_23, lim_24, nc_0, nc_1, nc_2, nc_3, nc_4, nc_5, nc_6, nc_7, nc_8, nc_9, nc_10, nc_11, nc_12, Int.reduceEq, mkSeq, Option.map_some, Option.bind_some, List.getElem?_nil, or_true, or_false, true_or, false_or, not_true_eq_false, not_false_eq_true])
  refine next2_ok h3 (by omega) (by omega) (by omega) fun v4 g4 a4 b4 h4 => ?_
  (try simp only [exs_c, exs_n, ex, ev, evs, evB, evIf, evS, evP, okx_bind, okx_ok, okx_exc, okx_lift, okx_asB, okx_if, okx_noX, lift_some, Res.bind_ok, Res.bind_exc, List.map_cons, List.map_nil, List.length_cons, List.length_nil, List.replicate, List.cons_append, List.nil_append, List.getElem?_cons_zero, List.getElem?_cons_succ, List.set_cons_zero, List.set_cons_succ, Nat.reduceSub, Nat.reduceAdd, if_true, Bool.false_eq_true, if_false, Option.some.injEq, exists_eq_left', exists_eq_left, bo_add, bo_sub, bo_p6, bo_p8, bo_p18, bo_p39, co_lt, co_le, co_gt, co_ge, co_eqi, co_nei, co_eqL, co_neL, co_eqT, co_neT, co_eqs, co_nes, co_neS2, beq_self_eq_true, co_isN, co_notN, co_isB, co_notB, co_memT, co_memL, co_nmemT, co_nmemL, bg_lenL, bg_lenT, bg_tupL, bg_tupT, bg_lstL, bg_lstT, bg_intB, bg_intI, bg_max, bg_min, bg_sumL, bg_sumT, bg_allL, bg_sortL, bg_sortT, ixd_l, ixd_t, de_lst, de_tup, tg_nm, tg_2, tg_3, tg_l2, tg_l3, dT_nm, dT_tp, nn_non, nn_int, nn_tup, nn_lst, bg_maxL, bg_maxT, bg_minL, bg_minP, at_0, at_1, at_2, at_3, Tg.slots, wipeR, iterD, items, op_none, op_int, sld_l, sld_t, rev_l, rev_t, D.bl.injEq, D.int.injEq, Bool.not_true, Bool.not_false, Bool.true_eq_false, and_true, true_and, mkT_0, mkL_0, mkT_1, mkL_1, mkT_2, mkL_2, mkT_3, mkL_3, mkT_4, mkL_4, mkT_5, mkL_5, mkT_6, mkL_6, mkT_7, mkL_7, mkT_8, mkL_8, mkT_9, mkL_9, mkT_10, mkL_10, mkT_11, mkL_11, mkT_12, mkL_12, mkT_13, mkL_13, mkT_14, mkL_14, mkT_15, mkL_15, mkT_16, mkL_16, mkT_17, mkL_17, mkT_18, mkL_18, mkT_19, mkL_19, mkT_20, mkL_20, par_2, par_3, parS_2, parS_3, reduceCtorEq, false_and, exists_false, Int.reduceNeg, Int.reduceAdd, Int.reduceSub, slotOf, decide_eq_true_eq, List.length_map, List.length_range, Bool.not_eq_true', decide_eq_false_iff_not, decide_not, Bool.not_not, ty_i, ty_b, ty_n, ty_s, ty_t, ty_l, ty_d, decide_true, decide_false, Int.reduceLE, Int.reduceLT, and_self, Int.reduceToNat, Int.toNat_natCast, lim_0, lim_1, lim_2, lim_3, lim_4, lim_5, lim_6, lim_7, lim_8, lim_9, lim_10, lim_11, lim_12, lim_13, lim_14, lim_15, lim_16, lim_17, lim_18, lim_19, lim_20, lim_21, lim_22, lim_23, lim_24, nc_0, nc_1, nc_2, nc_3, nc_4, nc_5, nc_6, nc_7, nc_8, nc_9, nc_10, nc_11, nc_12, Int.reduceEq, mkSeq, Option.map_some, Option.bind_some, List.getElem?_nil, or_true, or_false, true_or, false_or, not_true_eq_false, not_false_eq_true])
  refine pickI 1 1000000 a4 (by simpa using b4) (allc (isI (by omega)) (all1 (isI (by omega)))) fun e e1 e2 => ?_
  (try simp only [exs_c, exs_n, ex, ev, evs, evB, evIf, evS, evP, okx_bind, okx_ok, okx_exc, okx_lift, okx_asB, okx_if, okx_noX, lift_some, Res.bind_ok, Res.bind_exc, List.map_cons, List.map_nil, List.length_cons, List.length_nil, List.replicate, List.cons_append, List.nil_append, List.getElem?_cons_zero, List.getElem?_cons_succ, List.set_cons_zero, List.set_cons_succ, Nat.reduceSub, Nat.reduceAdd, if_true, Bool.false_eq_true, if_false, Option.some.injEq, exists_eq_left', exists_eq_left, bo_add, bo_sub, bo_p6, bo_p8, bo_p18, bo_p39, co_lt, co_le, co_gt, co_ge, co_eqi, co_nei, co_eqL, co_neL, co_eqT, co_neT, co_eqs, co_nes, co_neS2, beq_self_eq_true, co_isN, co_notN, co_isB, co_notB, co_memT, co_memL, co_nmemT, co_nmemL, bg_lenL, bg_lenT, bg_tupL, bg_tupT, bg_lstL, bg_lstT, bg_intB, bg_intI, bg_max, bg_min, bg_sumL, bg_sumT, bg_allL, bg_sortL, bg_sortT, ixd_l, ixd_t, de_lst, de_tup, tg_nm, tg_2, tg_3, tg_l2, tg_l3, dT_nm, dT_tp, nn_non, nn_int, nn_tup, nn_lst, bg_maxL, bg_maxT, bg_minL, bg_minP, at_0, at_1, at_2, at_3, Tg.slots, wipeR, iterD, items, op_none, op_int, sld_l, sld_t, rev_l, rev_t, D.bl.injEq, D.int.injEq, Bool.not_true, Bool.not_false, Bool.true_eq_false, and_true, true_and, mkT_0, mkL_0, mkT_1, mkL_1, mkT_2, mkL_2, mkT_3, mkL_3, mkT_4, mkL_4, mkT_5, mkL_5, mkT_6, mkL_6, mkT_7, mkL_7, mkT_8, mkL_8, mkT_9, mkL_9, mkT_10, mkL_10, mkT_11, mkL_11, mkT_12, mkL_12, mkT_13, mkL_13, mkT_14, mkL_14, mkT_15, mkL_15, mkT_16, mkL_16, mkT_17, mkL_17, mkT_18, mkL_18, mkT_19, mkL_19, mkT_20, mkL_20, par_2, par_3, parS_2, parS_3, reduceCtorEq, false_and, exists_false, Int.reduceNeg, Int.reduceAdd, Int.reduceSub, slotOf, decide_eq_true_eq, List.length_map, List.length_range, Bool.not_eq_true', decide_eq_false_iff_not, decide_not, Bool.not_not, ty_i, ty_b, ty_n, ty_s, ty_t, ty_l, ty_d, decide_true, decide_false, Int.reduceLE, Int.reduceLT, and_self, Int.reduceToNat, Int.toNat_natCast, lim_0, lim_1, lim_2, lim_3, lim_4, lim_5, lim_6, lim_7, lim_8, lim_9, lim_10, lim_11, lim_12, lim_13, lim_14, lim_15, lim_16, lim_17, lim_18, lim_19, lim_20, lim_21, lim_22, lim_23, lim_24, nc_0, nc_1, nc_2, nc_3, nc_4, nc_5, nc_6, nc_7, nc_8, nc_9, nc_10, nc_11, nc_12, Int.reduceEq, mkSeq, Option.map_some, Option.bind_some, List.getElem?_nil, or_true, or_false, true_or, false_or, not_true_eq_false, not_false_eq_true])
  refine next2_ok h4 (by omega) (by omega) (by omega) fun v5 g5 a5 b5 h5 => ?_
  (try simp only [if_pos (show -1000000 ≤ v5 ∧ v5 ≤ 1000000 from ⟨by omega, by omega⟩), exs_c, exs_n, ex, ev, evs, evB, evIf, evS, evP, okx_bind, okx_ok, okx_exc, okx_lift, okx_asB, okx_if, okx_noX, lift_some, Res.bind_ok, Res.bind_exc, List.map_cons, List.map_nil, List.length_cons, List.length_nil, List.replicate, List.cons_append, List.nil_append, List.getElem?_cons_zero, List.getElem?_cons_succ, List.set_cons_zero, List.set_cons_succ, Nat.reduceSub, Nat.reduceAdd, if_true, Bool.false_eq_true, if_false, Option.some.injEq, exists_eq_left', exists_eq_left, bo_add, bo_sub, bo_p6, bo_p8, bo_p18, bo_p39, co_lt, co_le, co_gt, co_ge, co_eqi, co_nei, co_eqL, co_neL, co_eqT, co_neT, co_eqs, co_nes, co_neS2, beq_self_eq_true, co_isN, co_notN, co_isB, co_notB, co_memT, co_memL, co_nmemT, co_nmemL, bg_lenL, bg_lenT, bg_tupL, bg_tupT, bg_lstL, bg_lstT, bg_intB, bg_intI, bg_max, bg_min, bg_sumL, bg_sumT, bg_allL, bg_sortL, bg_sortT, ixd_l, ixd_t, de_lst, de_tup, tg_nm, tg_2, tg_3, tg_l2, tg_l3, dT_nm, dT_tp, nn_non, nn_int, nn_tup, nn_lst, bg_maxL, bg_maxT, bg_minL, bg_minP, at_0, at_1, at_2, at_3, Tg.slots, wipeR, iterD, items, op_none, op_int, sld_l, sld_t, rev_l, rev_t, D.bl.injEq, D.int.injEq, Bool.not_true, Bool.not_false, Bool.true_eq_false, and_true, true_and, mkT_0, mkL_0, mkT_1, mkL_1, mkT_2, mkL_2, mkT_3, mkL_3, mkT_4, mkL_4, mkT_5, mkL_5, mkT_6, mkL_6, mkT_7, mkL_7, mkT_8, mkL_8, mkT_9, mkL_9, mkT_10, mkL_10, mkT_11, mkL_11, mkT_12, mkL_12, mkT_13, mkL_13, mkT_14, mkL_14, mkT_15, mkL_15, mkT_16, mkL_16, mkT_17, mkL_17, mkT_18, mkL_18, mkT_19, mkL_19, mkT_20, mkL_20, par_2, par_3, parS_2, parS_3, reduceCtorEq, false_and, exists_false, Int.reduceNeg, Int.reduceAdd, Int.reduceSub, slotOf, decide_eq_true_eq, List.length_map, List.length_range, Bool.not_eq_true', decide_eq_false_iff_not, decide_not, Bool.not_not, ty_i, ty_b, ty_n, ty_s, ty_t, ty_l, ty_d, decide_true, decide_false, Int.reduceLE, Int.reduceLT, and_self, Int.reduceToNat, Int.toNat_natCast, lim_0, lim_1, lim_2, lim_3, lim_4, lim_5, lim_6, lim_7, lim_8, lim_9, lim_10, lim_11, lim_12, lim_13, lim_14, lim_15, lim_16, lim_17, lim_18, lim_19, lim_20, lim_21, lim_22, lim_23, lim_24, nc_0, nc_1, nc_2, nc_3, nc_4, nc_5, nc_6, nc_7, nc_8, nc_9, nc_10, nc_11, nc_12, Int.reduceEq, mkSeq, Option.map_some, Option.bind_some, List.getElem?_nil, or_true, or_false, true_or, false_or, not_true_eq_false, not_false_eq_true])
  refine okx_for (fun i r g' => DR g' o (B + 5 + 3 * i) ∧ ∃ s2 s7 t ws, r = [.fz (.ref o), .fz (.int 24), s2, .fz (.int way), .fz (.int e), .own (ws.map D.int), .fz (.int t), s7] ∧ ws.length ≤ i ∧ Ints 1 1000000 ws) ⟨h5.le (by omega), _, _, _, [], rfl, Nat.le_refl _, Ints.nil⟩ ?_ ?_
  · rintro i a r g6 hi ⟨h6, s2, s7, t, ws, rfl, hl, hw⟩
    have hi2 : i < v5.toNat := by simpa using (List.getElem?_eq_some_iff.mp hi).1
    (try simp only [exs_c, exs_n, ex, ev, evs, evB, evIf, evS, evP, okx_bind, okx_ok, okx_exc, okx_lift, okx_asB, okx_if, okx_noX, lift_some, Res.bind_ok, Res.bind_exc, List.map_cons, List.map_nil, List.length_cons, List.length_nil, List.replicate, List.cons_append, List.nil_append, List.getElem?_cons_zero, List.getElem?_cons_succ, List.set_cons_zero, List.set_cons_succ, Nat.reduceSub, Nat.reduceAdd, if_true, Bool.false_eq_true, if_false, Option.some.injEq, exists_eq_left', exists_eq_left, bo_add, bo_sub, bo_p6, bo_p8, bo_p18, bo_p39, co_lt, co_le, co_gt, co_ge, co_eqi, co_nei, co_eqL, co_neL, co_eqT, co_neT, co_eqs, co_nes, co_neS2, beq_self_eq_true, co_isN, co_notN, co_isB, co_notB, co_memT, co_memL, co_nmemT, co_nmemL, bg_lenL, bg_lenT, bg_tupL, bg_tupT, bg_lstL, bg_lstT, bg_intB, bg_intI, bg_max, bg_min, bg_sumL, bg_sumT, bg_allL, bg_sortL, bg_sortT, ixd_l, ixd_t, de_lst, de_tup, tg_nm, tg_2, tg_3, tg_l2, tg_l3, dT_nm, dT_tp, nn_non, nn_int, nn_tup, nn_lst, bg_maxL, bg_maxT, bg_minL, bg_minP, at_0, at_1, at_2, at_3, Tg.slots, wipeR, iterD, items, op_none, op_int, sld_l, sld_t, rev_l, rev_t, D.bl.injEq, D.int.injEq, Bool.not_true, Bool.not_false, Bool.true_eq_false, and_true, true_and, mkT_0, mkL_0, mkT_1, mkL_1, mkT_2, mkL_2, mkT_3, mkL_3, mkT_4, mkL_4, mkT_5, mkL_5, mkT_6, mkL_6, mkT_7, mkL_7, mkT_8, mkL_8, mkT_9, mkL_9, mkT_10, mkL_10, mkT_11, mkL_11, mkT_12, mkL_12, mkT_13, mkL_13, mkT_14, mkL_14, mkT_15, mkL_15, mkT_16, mkL_16, mkT_17, mkL_17, mkT_18, mkL_18, mkT_19, mkL_19, mkT_20, mkL_20, par_2, par_3, parS_2, parS_3, reduceCtorEq, false_and, exists_false, Int.reduceNeg, Int.reduceAdd, Int.reduceSub, slotOf, decide_eq_true_eq, List.length_map, List.length_range, Bool.not_eq_true', decide_eq_false_iff_not, decide_not, Bool.not_not, ty_i, ty_b, ty_n, ty_s, ty_t, ty_l, ty_d, decide_true, decide_false, Int.reduceLE, Int.reduceLT, and_self, Int.reduceToNat, Int.toNat_natCast, lim_0, lim_1, lim_2, lim_3, lim_4, lim_5, lim_6, lim_7, lim_8, lim_9, lim_10, lim_11, lim_12, lim_13, lim_14, lim_15, lim_16, lim_17, lim_18, lim_19, lim_20, lim_21, lim_22, lim_23, lim_24, nc_0, nc_1, nc_2, nc_3, nc_4, nc_5, nc_6, nc_7, nc_8, nc_9, nc_10, nc_11, nc_12, Int.reduceEq, mkSeq, Option.map_some, Option.bind_some, List.getElem?_nil, or_true, or_false, true_or, false_or, not_true_eq_false, not_false_eq_true])
    refine next2_ok h6 (by omega) (by omega) (by omega) fun v7 g7 a7 b7 h7 => ?_
    (try simp only [exs_c, exs_n, ex, ev, evs, evB, evIf, evS, evP, okx_bind, okx_ok, okx_exc, okx_lift, okx_asB, okx_if, okx_noX, lift_some, Res.bind_ok, Res.bind_exc, List.map_cons, List.map_nil, List.length_cons, List.length_nil, List.replicate, List.cons_append, List.nil_append, List.getElem?_cons_zero, List.getElem?_cons_succ, List.set_cons_zero, List.set_cons_succ, Nat.reduceSub, Nat.reduceAdd, if_true, Bool.false_eq_true, if_false, Option.some.injEq, exists_eq_left', exists_eq_left, bo_add, bo_sub, bo_p6, bo_p8, bo_p18, bo_p39, co_lt, co_le, co_gt, co_ge, co_eqi, co_nei, co_eqL, co_neL, co_eqT, co_neT, co_eqs, co_nes, co_neS2, beq_self_eq_true, co_isN, co_notN, co_isB, co_notB, co_memT, co_memL, co_nmemT, co_nmemL, bg_lenL, bg_lenT, bg_tupL, bg_tupT, bg_lstL, bg_lstT, bg_intB, bg_intI, bg_max, bg_min, bg_sumL, bg_sumT, bg_allL, bg_sortL, bg_sortT, ixd_l, ixd_t, de_lst, de_tup, tg_nm, tg_2, tg_3, tg_l2, tg_l3, dT_nm, dT_tp, nn_non, nn_int, nn_tup, nn_lst, bg_maxL, bg_maxT, bg_minL, bg_minP, at_0, at_1, at_2, at_3, Tg.slots, wipeR, iterD, items, op_none, op_int, sld_l, sld_t, rev_l, rev_t, D.bl.injEq, D.int.injEq, Bool.not_true, Bool.not_false, Bool.true_eq_false, and_true, true_and, mkT_0, mkL_0, mkT_1, mkL_1, mkT_2, mkL_2, mkT_3, mkL_3, mkT_4, mkL_4, mkT_5, mkL_5, mkT_6, mkL_6, mkT_7, mkL_7, mkT_8, mkL_8, mkT_9, mkL_9, mkT_10, mkL_10, mkT_11, mkL_11, mkT_12, mkL_12, mkT_13, mkL_13, mkT_14, mkL_14, mkT_15, mkL_15, mkT_16, mkL_16, mkT_17, mkL_17, mkT_18, mkL_18, mkT_19, mkL_19, mkT_20, mkL_20, par_2, par_3, parS_2, parS_3, reduceCtorEq, false_and, exists_false, Int.reduceNeg, Int.reduceAdd, Int.reduceSub, slotOf, decide_eq_true_eq, List.length_map, List.length_range, Bool.not_eq_true', decide_eq_false_iff_not, decide_not, Bool.not_not, ty_i, ty_b, ty_n, ty_s, ty_t, ty_l, ty_d, decide_true, decide_false, Int.reduceLE, Int.reduceLT, and_self, Int.reduceToNat, Int.toNat_natCast, lim_0, lim_1, lim_2, lim_3, lim_4, lim_5, lim_6, lim_7, lim_8, lim_9, lim_10, lim_11, lim_12, lim_13, lim_14, lim_15, lim_16, lim_17, lim_18, lim_19, lim_20, lim_21, lim_22, lim_23, lim_24, nc_0, nc_1, nc_2, nc_3, nc_4, nc_5, nc_6, nc_7, nc_8, nc_9, nc_10, nc_11, nc_12, Int.reduceEq, mkSeq, Option.map_some, Option.bind_some, List.getElem?_nil, or_true, or_false, true_or, false_or, not_true_eq_false, not_false_eq_true])
    refine next2_ok h7 (by omega) (by omega) (by omega) fun v8 g8 a8 b8 h8 => ?_
    (try simp only [exs_c, exs_n, ex, ev, evs, evB, evIf, evS, evP, okx_bind, okx_ok, okx_exc, okx_lift, okx_asB, okx_if, okx_noX, lift_some, Res.bind_ok, Res.bind_exc, List.map_cons, List.map_nil, List.length_cons, List.length_nil, List.replicate, List.cons_append, List.nil_append, List.getElem?_cons_zero, List.getElem?_cons_succ, List.set_cons_zero, List.set_cons_succ, Nat.reduceSub, Nat.reduceAdd, if_true, Bool.false_eq_true, if_false, Option.some.injEq, exists_eq_left', exists_eq_left, bo_add, bo_sub, bo_p6, bo_p8, bo_p18, bo_p39, co_lt, co_le, co_gt, co_ge, co_eqi, co_nei, co_eqL, co_neL, co_eqT, co_neT, co_eqs, co_nes, co_neS2, beq_self_eq_true, co_isN, co_notN, co_isB, co_notB, co_memT, co_memL, co_nmemT, co_nmemL, bg_lenL, bg_lenT, bg_tupL, bg_tupT, bg_lstL, bg_lstT, bg_intB, bg_intI, bg_max, bg_min, bg_sumL, bg_sumT, bg_allL, bg_sortL, bg_sortT, ixd_l, ixd_t, de_lst, de_tup, tg_nm, tg_2, tg_3, tg_l2, tg_l3, dT_nm, dT_tp, nn_non, nn_int, nn_tup, nn_lst, bg_maxL, bg_maxT, bg_minL, bg_minP, at_0, at_1, at_2, at_3, Tg.slots, wipeR, iterD, items, op_none, op_int, sld_l, sld_t, rev_l, rev_t, D.bl.injEq, D.int.injEq, Bool.not_true, Bool.not_false, Bool.true_eq_false, and_true, true_and, mkT_0, mkL_0, mkT_1, mkL_1, mkT_2, mkL_2, mkT_3, mkL_3, mkT_4, mkL_4, mkT_5, mkL_5, mkT_6, mkL_6, mkT_7, mkL_7, mkT_8, mkL_8, mkT_9, mkL_9, mkT_10, mkL_10, mkT_11, mkL_11, mkT_12, mkL_12, mkT_13, mkL_13, mkT_14, mkL_14, mkT_15, mkL_15, mkT_16, mkL_16, mkT_17, mkL_17, mkT_18, mkL_18, mkT_19, mkL_19, mkT_20, mkL_20, par_2, par_3, parS_2, parS_3, reduceCtorEq, false_and, exists_false, Int.reduceNeg, Int.reduceAdd, Int.reduceSub, slotOf, decide_eq_true_eq, List.length_map, List.length_range, Bool.not_eq_true', decide_eq_false_iff_not, decide_not, Bool.not_not, ty_i, ty_b, ty_n, ty_s, ty_t, ty_l, ty_d, decide_true, decide_false, Int.reduceLE, Int.reduceLT, and_self, Int.reduceToNat, Int.toNat_natCast, lim_0, lim_1, lim_2, lim_3, lim_4, lim_5, lim_6, lim_7, lim_8, lim_9, lim_10, lim_11, lim_12, lim_13, lim_14, lim_15, lim_16, lim_17, lim_18, lim_19, lim_20, lim_21, lim_22, lim_23, lim_24, nc_0, nc_1, nc_2, nc_3, nc_4, nc_5, nc_6, nc_7, nc_8, nc_9, nc_10, nc_11, nc_12, Int.reduceEq, mkSeq, Option.map_some, Option.bind_some, List.getElem?_nil, or_true, or_false, true_or, false_or, not_true_eq_false, not_false_eq_true])
    refine next2_ok h8 (by omega) (by omega) (by omega) fun v9 g9 a9 b9 h9 => ?_
    (try simp only [exs_c, exs_n, ex, ev, evs, evB, evIf, evS, evP, okx_bind, okx_ok, okx_exc, okx_lift, okx_asB, okx_if, okx_noX, lift_some, Res.bind_ok, Res.bind_exc, List.map_cons, List.map_nil, List.length_cons, List.length_nil, List.replicate, List.cons_append, List.nil_append, List.getElem?_cons_zero, List.getElem?_cons_succ, List.set_cons_zero, List.set_cons_succ, Nat.reduceSub, Nat.reduceAdd, if_true, Bool.false_eq_true, if_false, Option.some.injEq, exists_eq_left', exists_eq_left, bo_add, bo_sub, bo_p6, bo_p8, bo_p18, bo_p39, co_lt, co_le, co_gt, co_ge, co_eqi, co_nei, co_eqL, co_neL, co_eqT, co_neT, co_eqs, co_nes, co_neS2, beq_self_eq_true, co_isN, co_notN, co_isB, co_notB, co_memT, co_memL, co_nmemT, co_nmemL, bg_lenL, bg_lenT, bg_tupL, bg_tupT, bg_lstL, bg_lstT, bg_intB, bg_intI, bg_max, bg_min, bg_sumL, bg_sumT, bg_allL, bg_sortL, bg_sortT, ixd_l, ixd_t, de_lst, de_tup, tg_nm, tg_2, tg_3, tg_l2, tg_l3, dT_nm, dT_tp, nn_non, nn_int, nn_tup, nn_lst, bg_maxL, bg_maxT, bg_minL, bg_minP, at_0, at_1, at_2, at_3, Tg.slots, wipeR, iterD, items, op_none, op_int, sld_l, sld_t, rev_l, rev_t, D.bl.injEq, D.int.injEq, Bool.not_true, Bool.not_false, Bool.true_eq_false, and_true, true_and, mkT_0, mkL_0, mkT_1, mkL_1, mkT_2, mkL_2, mkT_3, mkL_3, mkT_4, mkL_4, mkT_5, mkL_5, mkT_6, mkL_6, mkT_7, mkL_7, mkT_8, mkL_8, mkT_9, mkL_9, mkT_10, mkL_10, mkT_11, mkL_11, mkT_12, mkL_12, mkT_13, mkL_13, mkT_14, mkL_14, mkT_15, mkL_15, mkT_16, mkL_16, mkT_17, mkL_17, mkT_18, mkL_18, mkT_19, mkL_19, mkT_20, mkL_20, par_2, par_3, parS_2, parS_3, reduceCtorEq, false_and, exists_false, Int.reduceNeg, Int.reduceAdd, Int.reduceSub, slotOf, decide_eq_true_eq, List.length_map, List.length_range, Bool.not_eq_true', decide_eq_false_iff_not, decide_not, Bool.not_not, ty_i, ty_b, ty_n, ty_s, ty_t, ty_l, ty_d, decide_true, decide_false, Int.reduceLE, Int.reduceLT, and_self, Int.reduceToNat, Int.toNat_natCast, lim_0, lim_1, lim_2, lim_3, lim_4, lim_5, lim_6, lim_7, lim_8, lim_9, lim_10, lim_11, lim_12, lim_13, lim_14, lim_15, lim_16, lim_17, lim_18, lim_19, lim_20, lim_21, lim_22, lim_23, lim_24, nc_0, nc_1, nc_2, nc_3, nc_4, nc_5, nc_6, nc_7, nc_8, nc_9, nc_10, nc_11, nc_12, Int.reduceEq, mkSeq, Option.map_some, Option.bind_some, List.getElem?_nil, or_true, or_false, true_or, false_or, not_true_eq_false, not_false_eq_true])
    refine pickI 1 1000000 a1 (by simpa using b1) (allc (isI (by omega)) (allc (isI (by omega)) (all1 (isI (by omega))))) fun w w1 w2 => ?_
    have hlim : ws.length < LIM := by simp only [LIM]; omega
    (try simp only [hlim, at_last, exs_c, exs_n, ex, ev, evs, evB, evIf, evS, evP, okx_bind, okx_ok, okx_exc, okx_lift, okx_asB, okx_if, okx_noX, lift_some, Res.bind_ok, Res.bind_exc, List.map_cons, List.map_nil, List.length_cons, List.length_nil, List.replicate, List.cons_append, List.nil_append, List.getElem?_cons_zero, List.getElem?_cons_succ, List.set_cons_zero, List.set_cons_succ, Nat.reduceSub, Nat.reduceAdd, if_true, Bool.false_eq_true, if_false, Option.some.injEq, exists_eq_left', exists_eq_left, bo_add, bo_sub, bo_p6, bo_p8, bo_p18, bo_p39, co_lt, co_le, co_gt, co_ge, co_eqi, co_nei, co_eqL, co_neL, co_eqT, co_neT, co_eqs, co_nes, co_neS2, beq_self_eq_true, co_isN, co_notN, co_isB, co_notB, co_memT, co_memL, co_nmemT, co_nmemL, bg_lenL, bg_lenT, bg_tupL, bg_tupT, bg_lstL, bg_lstT, bg_intB, bg_intI, bg_max, bg_min, bg_sumL, bg_sumT, bg_allL, bg_sortL, bg_sortT, ixd_l, ixd_t, de_lst, de_tup, tg_nm, tg_2, tg_3, tg_l2, tg_l3, dT_nm, dT_tp, nn_non, nn_int, nn_tup, nn_lst, bg_maxL, bg_maxT, bg_minL, bg_minP, at_0, at_1, at_2, at_3, Tg.slots, wipeR, iterD, items, op_none, op_int, sld_l, sld_t, rev_l, rev_t, D.bl.injEq, D.int.injEq, Bool.not_true, Bool.not_false, Bool.true_eq_false, and_true, true_and, mkT_0, mkL_0, mkT_1, mkL_1, mkT_2, mkL_2, mkT_3, mkL_3, mkT_4, mkL_4, mkT_5, mkL_5, mkT_6, mkL_6, mkT_7, mkL_7, mkT_8, mkL_8, mkT_9, mkL_9, mkT_10, mkL_10, mkT_11, mkL_11, mkT_12, mkL_12, mkT_13, mkL_13, mkT_14, mkL_14, mkT_15, mkL_15, mkT_16, mkL_16, mkT_17, mkL_17, mkT_18, mkL_18, mkT_19, mkL_19, mkT_20, mkL_20, par_2, par_3, parS_2, parS_3, reduceCtorEq, false_and, exists_false, Int.reduceNeg, Int.reduceAdd, Int.reduceSub, slotOf, decide_eq_true_eq, List.length_map, List.length_range, Bool.not_eq_true', decide_eq_false_iff_not, decide_not, Bool.not_not, ty_i, ty_b, ty_n, ty_s, ty_t, ty_l, ty_d, decide_true, decide_false, Int.reduceLE, Int.reduceLT, and_self, Int.reduceToNat, Int.toNat_natCast, lim_0, lim_1, lim_2, lim_3, lim_4, lim_5, lim_6, lim_7, lim_8, lim_9, lim_10, lim_11, lim_12, lim_13, lim_14, lim_15, lim_16, lim_17, lim_18, lim_19, lim_20, lim_21, lim_22, lim_23, lim_24, nc_0, nc_1, nc_2, nc_3, nc_4, nc_5, nc_6, nc_7, nc_8, nc_9, nc_10, nc_11, nc_12, Int.reduceEq, mkSeq, Option.map_some, Option.bind_some, List.getElem?_nil, or_true, or_false, true_or, false_or, not_true_eq_false, not_false_eq_true])
    exact ⟨h9.le (by omega), _, _, _, ws ++ [w], by rw [List.map_append]; rfl, by rw [List.length_append, List.length_singleton]; omega, hw.app (.cons ⟨w1, w2⟩ .nil)⟩
  · rintro r g6 ⟨h6, s2, s7, t, ws, rfl, hl, hw⟩
    rw [List.length_range] at h6 hl
    (try simp only [exs_c, exs_n, ex, ev, evs, evB, evIf, evS, evP, okx_bind, okx_ok, okx_exc, okx_lift, okx_asB, okx_if, okx_noX, lift_some, Res.bind_ok, Res.bind_exc, List.map_cons, List.map_nil, List.length_cons, List.length_nil, List.replicate, List.cons_append, List.nil_append, List.getElem?_cons_zero, List.getElem?_cons_succ, List.set_cons_zero, List.set_cons_succ, Nat.reduceSub, Nat.reduceAdd, if_true, Bool.false_eq_true, if_false, Option.some.injEq, exists_eq_left', exists_eq_left, bo_add, bo_sub, bo_p6, bo_p8, bo_p18, bo_p39, co_lt, co_le, co_gt, co_ge, co_eqi, co_nei, co_eqL, co_neL, co_eqT, co_neT, co_eqs, co_nes, co_neS2, beq_self_eq_true, co_isN, co_notN, co_isB, co_notB, co_memT, co_memL, co_nmemT, co_nmemL, bg_lenL, bg_lenT, bg_tupL, bg_tupT, bg_lstL, bg_lstT, bg_intB, bg_intI, bg_max, bg_min, bg_sumL, bg_sumT, bg_allL, bg_sortL, bg_sortT, ixd_l, ixd_t, de_lst, de_tup, tg_nm, tg_2, tg_3, tg_l2, tg_l3, dT_nm, dT_tp, nn_non, nn_int, nn_tup, nn_lst, bg_maxL, bg_maxT, bg_minL, bg_minP, at_0, at_1, at_2, at_3, Tg.slots, wipeR, iterD, items, op_none, op_int, sld_l, sld_t, rev_l, rev_t, D.bl.injEq, D.int.injEq, Bool.not_true, Bool.not_false, Bool.true_eq_false, and_true, true_and, mkT_0, mkL_0, mkT_1, mkL_1, mkT_2, mkL_2, mkT_3, mkL_3, mkT_4, mkL_4, mkT_5, mkL_5, mkT_6, mkL_6, mkT_7, mkL_7, mkT_8, mkL_8, mkT_9, mkL_9, mkT_10, mkL_10, mkT_11, mkL_11, mkT_12, mkL_12, mkT_13, mkL_13, mkT_14, mkL_14, mkT_15, mkL_15, mkT_16, mkL_16, mkT_17, mkL_17, mkT_18, mkL_18, mkT_19, mkL_19, mkT_20, mkL_20, par_2, par_3, parS_2, parS_3, reduceCtorEq, false_and, exists_false, Int.reduceNeg, Int.reduceAdd, Int.reduceSub, slotOf, decide_eq_true_eq, List.length_map, List.length_range, Bool.not_eq_true', decide_eq_false_iff_not, decide_not, Bool.not_not, ty_i, ty_b, ty_n, ty_s, ty_t, ty_l, ty_d, decide_true, decide_false, Int.reduceLE, Int.reduceLT, and_self, Int.reduceToNat, Int.toNat_natCast, lim_0, lim_1, lim_2, lim_3, lim_4, lim_5, lim_6, lim_7, lim_8, lim_9, lim_10, lim_11, lim_12, lim_13, lim_14, lim_15, lim_16, lim_17, lim_18, lim_19, lim_20, lim_21, lim_22, lim_23, lim_24, nc_0, nc_1, nc_2, nc_3, nc_4, nc_5, nc_6, nc_7, nc_8, nc_9, nc_10, nc_11, nc_12, Int.reduceEq, mkSeq, Option.map_some, Option.bind_some, List.getElem?_nil, or_true, or_false, true_or, false_or, not_true_eq_false, not_false_eq_true])
    cases hws : ws with
    | nil =>
      subst hws
      (try simp only [List.isEmpty_nil, exs_c, exs_n, ex, ev, evs, evB, evIf, evS, evP, okx_bind, okx_ok, okx_exc, okx_lift, okx_asB, okx_if, okx_noX, lift_some, Res.bind_ok, Res.bind_exc, List.map_cons, List.map_nil, List.length_cons, List.length_nil, List.replicate, List.cons_append, List.nil_append, List.getElem?_cons_zero, List.getElem?_cons_succ, List.set_cons_zero, List.set_cons_succ, Nat.reduceSub, Nat.reduceAdd, if_true, Bool.false_eq_true, if_false, Option.some.injEq, exists_eq_left', exists_eq_left, bo_add, bo_sub, bo_p6, bo_p8, bo_p18, bo_p39, co_lt, co_le, co_gt, co_ge, co_eqi, co_nei, co_eqL, co_neL, co_eqT, co_neT, co_eqs, co_nes, co_neS2, beq_self_eq_true, co_isN, co_notN, co_isB, co_notB, co_memT, co_memL, co_nmemT, co_nmemL, bg_lenL, bg_lenT, bg_tupL, bg_tupT, bg_lstL, bg_lstT, bg_intB, bg_intI, bg_max, bg_min, bg_sumL, bg_sumT, bg_allL, bg_sortL, bg_sortT, ixd_l, ixd_t, de_lst, de_tup, tg_nm, tg_2, tg_3, tg_l2, tg_l3, dT_nm, dT_tp, nn_non, nn_int, nn_tup, nn_lst, bg_maxL, bg_maxT, bg_minL, bg_minP, at_0, at_1, at_2, at_3, Tg.slots, wipeR, iterD, items, op_none, op_int, sld_l, sld_t, rev_l, rev_t, D.bl.injEq, D.int.injEq, Bool.not_true, Bool.not_false, Bool.true_eq_false, and_true, true_and, mkT_0, mkL_0, mkT_1, mkL_1, mkT_2, mkL_2, mkT_3, mkL_3, mkT_4, mkL_4, mkT_5, mkL_5, mkT_6, mkL_6, mkT_7, mkL_7, mkT_8, mkL_8, mkT_9, mkL_9, mkT_10, mkL_10, mkT_11, mkL_11, mkT_12, mkL_12, mkT_13, mkL_13, mkT_14, mkL_14, mkT_15, mkL_15, mkT_16, mkL_16, mkT_17, mkL_17, mkT_18, mkL_18, mkT_19, mkL_19, mkT_20, mkL_20, par_2, par_3, parS_2, parS_3, reduceCtorEq, false_and, exists_false, Int.reduceNeg, Int.reduceAdd, Int.reduceSub, slotOf, decide_eq_true_eq, List.length_map, List.length_range, Bool.not_eq_true', decide_eq_false_iff_not, decide_not, Bool.not_not, ty_i, ty_b, ty_n, ty_s, ty_t, ty_l, ty_d, decide_true, decide_false, Int.reduceLE, Int.reduceLT, and_self, Int.reduceToNat, Int.toNat_natCast, lim_0, lim_1, lim_2, lim_3, lim_4, lim_5, lim_6, lim_7, lim_8, lim_9, lim_10, lim_11, lim_12, lim_13, lim_14, lim_15, lim_16, lim_17, lim_18, lim_19, lim_20, lim_21, lim_22, lim_23, lim_24, nc_0, nc_1, nc_2, nc_3, nc_4, nc_5, nc_6, nc_7, nc_8, nc_9, nc_10, nc_11, nc_12, Int.reduceEq, mkSeq, Option.map_some, Option.bind_some, List.getElem?_nil, or_true, or_false, true_or, false_or, not_true_eq_false, not_false_eq_true])
      exact q e [] g6 e1 e2 (by simp) Ints.nil (h6.le (by omega))
    | cons w0 wt =>
      rw [← hws]
      have hne : (ws.map D.int).isEmpty = false := by rw [hws]; rfl
      (try simp only [hne, exs_c, exs_n, ex, ev, evs, evB, evIf, evS, evP, okx_bind, okx_ok, okx_exc, okx_lift, okx_asB, okx_if, okx_noX, lift_some, Res.bind_ok, Res.bind_exc, List.map_cons, List.map_nil, List.length_cons, List.length_nil, List.replicate, List.cons_append, List.nil_append, List.getElem?_cons_zero, List.getElem?_cons_succ, List.set_cons_zero, List.set_cons_succ, Nat.reduceSub, Nat.reduceAdd, if_true, Bool.false_eq_true, if_false, Option.some.injEq, exists_eq_left', exists_eq_left, bo_add, bo_sub, bo_p6, bo_p8, bo_p18, bo_p39, co_lt, co_le, co_gt, co_ge, co_eqi, co_nei, co_eqL, co_neL, co_eqT, co_neT, co_eqs, co_nes, co_neS2, beq_self_eq_true, co_isN, co_notN, co_isB, co_notB, co_memT, co_memL, co_nmemT, co_nmemL, bg_lenL, bg_lenT, bg_tupL, bg_tupT, bg_lstL, bg_lstT, bg_intB, bg_intI, bg_max, bg_min, bg_sumL, bg_sumT, bg_allL, bg_sortL, bg_sortT, ixd_l, ixd_t, de_lst, de_tup, tg_nm, tg_2, tg_3, tg_l2, tg_l3, dT_nm, dT_tp, nn_non, nn_int, nn_tup, nn_lst, bg_maxL, bg_maxT, bg_minL, bg_minP, at_0, at_1, at_2, at_3, Tg.slots, wipeR, iterD, items, op_none, op_int, sld_l, sld_t, rev_l, rev_t, D.bl.injEq, D.int.injEq, Bool.not_true, Bool.not_false, Bool.true_eq_false, and_true, true_and, mkT_0, mkL_0, mkT_1, mkL_1, mkT_2, mkL_2, mkT_3, mkL_3, mkT_4, mkL_4, mkT_5, mkL_5, mkT_6, mkL_6, mkT_7, mkL_7, mkT_8, mkL_8, mkT_9, mkL_9, mkT_10, mkL_10, mkT_11, mkL_11, mkT_12, mkL_12, mkT_13, mkL_13, mkT_14, mkL_14, mkT_15, mkL_15, mkT_16, mkL_16, mkT_17, mkL_17, mkT_18, mkL_18, mkT_19, mkL_19, mkT_20, mkL_20, par_2, par_3, parS_2, parS_3, reduceCtorEq, false_and, exists_false, Int.reduceNeg, Int.reduceAdd, Int.reduceSub, slotOf, decide_eq_true_eq, List.length_map, List.length_range, Bool.not_eq_true', decide_eq_false_iff_not, decide_not, Bool.not_not, ty_i, ty_b, ty_n, ty_s, ty_t, ty_l, ty_d, decide_true, decide_false, Int.reduceLE, Int.reduceLT, and_self, Int.reduceToNat, Int.toNat_natCast, lim_0, lim_1, lim_2, lim_3, lim_4, lim_5, lim_6, lim_7, lim_8, lim_9, lim_10, lim_11, lim_12, lim_13, lim_14, lim_15, lim_16, lim_17, lim_18, lim_19, lim_20, lim_21, lim_22, lim_23, lim_24, nc_0, nc_1, nc_2, nc_3, nc_4, nc_5, nc_6, nc_7, nc_8, nc_9, nc_10, nc_11, nc_12, Int.reduceEq, mkSeq, Option.map_some, Option.bind_some, List.getElem?_nil, or_true, or_false, true_or, false_or, not_true_eq_false, not_false_eq_true])
      refine next2_ok h6 (by omega) (by omega) (by omega) fun v7 g7 a7 b7 h7 => ?_
      by_cases h0 : v7 = 0
      · (try simp only [h0, ← List.map_reverse, exs_c, exs_n, ex, ev, evs, evB, evIf, evS, evP, okx_bind, okx_ok, okx_exc, okx_lift, okx_asB, okx_if, okx_noX, lift_some, Res.bind_ok, Res.bind_exc, List.map_cons, List.map_nil, List.length_cons, List.length_nil, List.replicate, List.cons_append, List.nil_append, List.getElem?_cons_zero, List.getElem?_cons_succ, List.set_cons_zero, List.set_cons_succ, Nat.reduceSub, Nat.reduceAdd, if_true, Bool.false_eq_true, if_false, Option.some.injEq, exists_eq_left', exists_eq_left, bo_add, bo_sub, bo_p6, bo_p8, bo_p18, bo_p39, co_lt, co_le, co_gt, co_ge, co_eqi, co_nei, co_eqL, co_neL, co_eqT, co_neT, co_eqs, co_nes, co_neS2, beq_self_eq_true, co_isN, co_notN, co_isB, co_notB, co_memT, co_memL, co_nmemT, co_nmemL, bg_lenL, bg_lenT, bg_tupL, bg_tupT, bg_lstL, bg_lstT, bg_intB, bg_intI, bg_max, bg_min, bg_sumL, bg_sumT, bg_allL, bg_sortL, bg_sortT, ixd_l, ixd_t, de_lst, de_tup, tg_nm, tg_2, tg_3, tg_l2, tg_l3, dT_nm, dT_tp, nn_non, nn_int, nn_tup, nn_lst, bg_maxL, bg_maxT, bg_minL, bg_minP, at_0, at_1, at_2, at_3, Tg.slots, wipeR, iterD, items, op_none, op_int, sld_l, sld_t, rev_l, rev_t, D.bl.injEq, D.int.injEq, Bool.not_true, Bool.not_false, Bool.true_eq_false, and_true, true_and, mkT_0, mkL_0, mkT_1, mkL_1, mkT_2, mkL_2, mkT_3, mkL_3, mkT_4, mkL_4, mkT_5, mkL_5, mkT_6, mkL_6, mkT_7, mkL_7, mkT_8, mkL_8, mkT_9, mkL_9, mkT_10, mkL_10, mkT_11, mkL_11, mkT_12, mkL_12, mkT_13, mkL_13, mkT_14, mkL_14, mkT_15, mkL_15, mkT_16, mkL_16, mkT_17, mkL_17, mkT_18, mkL_18, mkT_19, mkL_19, mkT_20, mkL_20, par_2, par_3, parS_2, parS_3, reduceCtorEq, false_and, exists_false, Int.reduceNeg, Int.reduceAdd, Int.reduceSub, slotOf, decide_eq_true_eq, List.length_map, List.length_range, Bool.not_eq_true', decide_eq_false_iff_not, decide_not, Bool.not_not, ty_i, ty_b, ty_n, ty_s, ty_t, ty_l, ty_d, decide_true, decide_false, Int.reduceLE, Int.reduceLT, and_self, Int.reduceToNat, Int.toNat_natCast, lim_0, lim_1, lim_2, lim_3, lim_4, lim_5, lim_6, lim_7, lim_8, lim_9, lim_10, lim_11, lim_12, lim_13, lim_14, lim_15, lim_16, lim_17, lim_18, lim_19, lim_20, lim_21, lim_22, lim_23, lim_24, nc_0, nc_1, nc_2, nc_3, nc_4, nc_5, nc_6, nc_7, nc_8, nc_9, nc_10, nc_11, nc_12, Int.reduceEq, mkSeq, Option.map_some, Option.bind_some, List.getElem?_nil, or_true, or_false, true_or, false_or, not_true_eq_false, not_false_eq_true])
        exact q e ws.reverse g7 e1 e2 (by rw [List.length_reverse]; omega) (fun y hy => hw y (List.mem_reverse.mp hy)) (h7.le (by omega))
      · (try simp only [h0, exs_c, exs_n, ex, ev, evs, evB, evIf, evS, evP, okx_bind, okx_ok, okx_exc, okx_lift, okx_asB, okx_if, okx_noX, lift_some, Res.bind_ok, Res.bind_exc, List.map_cons, List.map_nil, List.length_cons, List.length_nil, List.replicate, List.cons_append, List.nil_append, List.getElem?_cons_zero, List.getElem?_cons_succ, List.set_cons_zero, List.set_cons_succ, Nat.reduceSub, Nat.reduceAdd, if_true, Bool.false_eq_true, if_false, Option.some.injEq, exists_eq_left', exists_eq_left, bo_add, bo_sub, bo_p6, bo_p8, bo_p18, bo_p39, co_lt, co_le, co_gt, co_ge, co_eqi, co_nei, co_eqL, co_neL, co_eqT, co_neT, co_eqs, co_nes, co_neS2, beq_self_eq_true, co_isN, co_notN, co_isB, co_notB, co_memT, co_memL, co_nmemT, co_nmemL, bg_lenL, bg_lenT, bg_tupL, bg_tupT, bg_lstL, bg_lstT, bg_intB, bg_intI, bg_max, bg_min, bg_sumL, bg_sumT, bg_allL, bg_sortL, bg_sortT, ixd_l, ixd_t, de_lst, de_tup, tg_nm, tg_2, tg_3, tg_l2, tg_l3, dT_nm, dT_tp, nn_non, nn_int, nn_tup, nn_lst, bg_maxL, bg_maxT, bg_minL, bg_minP, at_0, at_1, at_2, at_3, Tg.slots, wipeR, iterD, items, op_none, op_int, sld_l, sld_t, rev_l, rev_t, D.bl.injEq, D.int.injEq, Bool.not_true, Bool.not_false, Bool.true_eq_false, and_true, true_and, mkT_0, mkL_0, mkT_1, mkL_1, mkT_2, mkL_2, mkT_3, mkL_3, mkT_4, mkL_4, mkT_5, mkL_5, mkT_6, mkL_6, mkT_7, mkL_7, mkT_8, mkL_8, mkT_9, mkL_9, mkT_10, mkL_10, mkT_11, mkL_11, mkT_12, mkL_12, mkT_13, mkL_13, mkT_14, mkL_14, mkT_15, mkL_15, mkT_16, mkL_16, mkT_17, mkL_17, mkT_18, mkL_18, mkT_19, mkL_19, mkT_20, mkL_20, par_2, par_3, parS_2, parS_3, reduceCtorEq, false_and, exists_false, Int.reduceNeg, Int.reduceAdd, Int.reduceSub, slotOf, decide_eq_true_eq, List.length_map, List.length_range, Bool.not_eq_true', decide_eq_false_iff_not, decide_not, Bool.not_not, ty_i, ty_b, ty_n, ty_s, ty_t, ty_l, ty_d, decide_true, decide_false, Int.reduceLE, Int.reduceLT, and_self, Int.reduceToNat, Int.toNat_natCast, lim_0, lim_1, lim_2, lim_3, lim_4, lim_5, lim_6, lim_7, lim_8, lim_9, lim_10, lim_11, lim_12, lim_13, lim_14, lim_15, lim_16, lim_17, lim_18, lim_19, lim_20, lim_21, lim_22, lim_23, lim_24, nc_0, nc_1, nc_2, nc_3, nc_4, nc_5, nc_6, nc_7, nc_8, nc_9, nc_10, nc_11, nc_12, Int.reduceEq, mkSeq, Option.map_some, Option.bind_some, List.getElem?_nil, or_true, or_false, true_or, false_or, not_true_eq_false, not_false_eq_true])
        exact q e ws g7 e1 e2 (by omega) hw (h7.le (by omega))
end
end T
end
section
set_option Elab.async false
set_option linter.all false
set_option maxRecDepth 100000
set_option maxHeartbeats 4000000
namespace T
open PySem L2 Bk
/-! ## the order of tuples -/
theorem ltL_asymm : ∀ {a b : List Int}, ltL a b = true → ltL b a = false
  | [], [], h => by cases h
  | [], _ :: _, _ => rfl
  | _ :: _, [], h => by cases h
  | x :: xs, y :: ys, h => by
    simp only [ltL] at h ⊢
    by_cases e : x = y
    · subst e; rw [if_pos rfl] at h ⊢; exact ltL_asymm h
    · rw [if_neg e] at h
      rw [if_neg (Ne.symm e)]
      simp at h ⊢; omega
theorem ltL_irr : ∀ {a : List Int}, ltL a a = false
  | [] => rfl
  | x :: xs => by simp only [ltL, if_true]; exact ltL_irr
theorem ltL_tri : ∀ {a b : List Int}, ltL a b = false → ltL b a = false → a = b
  | [], [], _, _ => rfl
  | [], _ :: _, h, _ => by cases h
  | _ :: _, [], _, h => by cases h
  | x :: xs, y :: ys, h, k => by
    simp only [ltL] at h k
    by_cases e : x = y
    · subst e; rw [if_pos rfl] at h k; rw [ltL_tri h k]
    · rw [if_neg e] at h
      rw [if_neg (Ne.symm e)] at k
      simp at h k; omega
theorem ltL_trans : ∀ {a b c : List Int}, ltL a b = true → ltL b c = true → ltL a c = true
  | [], [], _, h, _ => by cases h
  | [], _ :: _, [], _, h => by cases h
  | [], _ :: _, _ :: _, _, _ => rfl
  | _ :: _, [], _, h, _ => by cases h
  | _ :: _, _ :: _, [], _, h => by cases h
  | x :: xs, y :: ys, z :: zs, h, k => by
    simp only [ltL] at h k ⊢
    by_cases e : x = y
    · subst e
      rw [if_pos rfl] at h
      by_cases f : x = z
      · rw [if_pos f] at k ⊢; exact ltL_trans h k
      · rw [if_neg f] at k ⊢; exact k
    · rw [if_neg e] at h
      simp at h
      by_cases f : y = z
      · subst f
        rw [if_neg e]
        simpa using h
      · rw [if_neg f] at k
        simp at k
        rw [if_neg (by omega)]
        simp; omega
theorem leL_trans {a b c : List Int} (h : leL a b = true) (k : leL b c = true) : leL a c = true := by
  unfold leL at h k ⊢
  simp only [Bool.not_eq_true'] at h k ⊢
  cases q : ltL c a with
  | false => rfl
  | true =>
    cases r : ltL a b with
    | true => rw [ltL_trans q r] at k; cases k
    | false =>
      have e := ltL_tri r h
      subst e
      rw [q] at k; cases k
theorem leL_total (a b : List Int) : (leL a b || leL b a) = true := by
  unfold leL
  cases q : ltL b a with
  | false => rfl
  | true => rw [ltL_asymm q]; rfl
theorem leL_anti {a b : List Int} (h : leL a b = true) (k : leL b a = true) : a = b := by
  unfold leL at h k
  simp only [Bool.not_eq_true'] at h k
  exact ltL_tri k h
theorem sortL_perm (l : List (List Int)) : (sortL l).Perm l := List.mergeSort_perm l leL
theorem sortL_pw (l : List (List Int)) : (sortL l).Pairwise fun a b => leL a b = true := List.pairwise_mergeSort (le := leL) (fun a b c => leL_trans) leL_total l
theorem minL_spec (x : List Int) (xs : List (List Int)) : minL x xs ∈ x :: xs ∧ ∀ y ∈ x :: xs, leL (minL x xs) y = true := by
  unfold minL
  induction xs generalizing x with
  | nil => exact ⟨List.mem_cons_self, fun y hy => by rw [List.mem_singleton.mp hy]; unfold leL; rw [List.foldl_nil, ltL_irr]; rfl⟩
  | cons z zs ih =>
    rw [List.foldl_cons]
    obtain ⟨h1, h2⟩ := ih (if ltL z x = true then z else x)
    have hle : leL (if ltL z x = true then z else x) x = true ∧ leL (if ltL z x = true then z else x) z = true := by
      cases q : ltL z x with
      | true => exact ⟨by rw [if_pos rfl]; unfold leL; rw [ltL_asymm q]; rfl, by rw [if_pos rfl]; unfold leL; rw [ltL_irr]; rfl⟩
      | false => exact ⟨by rw [if_neg (by decide)]; unfold leL; rw [ltL_irr]; rfl, by rw [if_neg (by decide)]; unfold leL; rw [q]; rfl⟩
    refine ⟨?_, fun y hy => ?_⟩
    · rcases List.mem_cons.mp h1 with q | q
      · rw [q]
        split
        · exact List.mem_cons_of_mem _ List.mem_cons_self
        · exact List.mem_cons_self
      · exact List.mem_cons_of_mem _ (List.mem_cons_of_mem _ q)
    · have hm := h2 _ List.mem_cons_self
      rcases List.mem_cons.mp hy with q | q
      · rw [q]; exact leL_trans hm hle.1
      · rcases List.mem_cons.mp q with q | q
        · rw [q]; exact leL_trans hm hle.2
        · exact h2 y (List.mem_cons_of_mem _ q)
/-- the first of the sorted ones is the least -/
theorem sortL_head (x : List Int) (xs : List (List Int)) : ∃ t, sortL (x :: xs) = minL x xs :: t := by
  have hp := sortL_perm (x :: xs)
  have hw := sortL_pw (x :: xs)
  obtain ⟨m1, m2⟩ := minL_spec x xs
  cases hs : sortL (x :: xs) with
  | nil => rw [hs] at hp; exact absurd hp.length_eq (by simp)
  | cons a t =>
    rw [hs] at hp hw
    refine ⟨t, ?_⟩
    have h1 := m2 a (hp.mem_iff.mp List.mem_cons_self)
    have h2 : leL a (minL x xs) = true := by
      rcases List.mem_cons.mp (hp.mem_iff.mpr m1) with q | q
      · rw [q]; unfold leL; rw [ltL_irr]; rfl
      · exact (List.pairwise_cons.mp hw).1 _ q
    rw [leL_anti h2 h1]
/-! ## who is stuck -/
/-- the weight of all lighter ones -/
def lw (ws : List Int) (w : Int) : Int := (ws.filter fun x => decide (x < w)).sum
/-- those who are stuck: weight and number -/
def rowP (e : Int) (ws : List Int) : List (Int × Nat) := ws.zipIdx.filter fun p => decide (e + lw ws p.1 < p.1)
def rowI (e : Int) (ws : List Int) : List (List Int) := (rowP e ws).map fun p => [p.1, (p.2 : Int)]
def tw (e : Int) (ws : List Int) : D := .tup [.int e, .tup (ws.map D.int)]
def stuckD : List (List Int) → D
  | [] => .non
  | r :: rs => .int ((minL r rs).getD 1 0)
theorem enum_map {ws : List Int} : (ws.map D.int).zipIdx.map (fun p : D × Nat => D.tup [.int (p.2 : Nat), p.1]) = ws.zipIdx.map fun p => .tup [.int (p.2 : Nat), .int p.1] := by
  rw [List.zipIdx_map, List.map_map]
  rfl
theorem filter_ints {ws : List Int} {p : Int → Bool} : (ws.filter p).map D.int = (ws.filter p).map D.int := rfl
section
variable {n o B : Nat} {g : List O} {E : X → List O → Prop}
theorem zip_len {ws : List Int} : ws.zipIdx.length = ws.length := List.length_zipIdx
end
/-! ### facts -/
theorem lw_mono {ws : List Int} {a b : Int} (h0 : ∀ x ∈ ws, 0 ≤ x) (h : a ≤ b) : lw ws a ≤ lw ws b := by
  unfold lw
  induction ws with
  | nil => simp
  | cons x ws ih =>
    have ih := ih fun y hy => h0 y (List.mem_cons_of_mem _ hy)
    have hx := h0 x List.mem_cons_self
    by_cases q : x < a
    · rw [List.filter_cons_of_pos (by simpa using q), List.filter_cons_of_pos (by simp; omega), List.sum_cons, List.sum_cons]; omega
    · rw [List.filter_cons_of_neg (by simpa using q)]
      by_cases r : x < b
      · rw [List.filter_cons_of_pos (by simpa using r), List.sum_cons]; omega
      · rw [List.filter_cons_of_neg (by simpa using r)]; exact ih
theorem lw_cons {ws : List Int} {x a : Int} : lw (x :: ws) a = (if x < a then x else 0) + lw ws a := by
  unfold lw
  by_cases q : x < a
  · rw [List.filter_cons_of_pos (by simpa using q), List.sum_cons, if_pos q]
  · rw [List.filter_cons_of_neg (by simpa using q), if_neg q]; omega
theorem lw_app {ws vs : List Int} {a : Int} : lw (ws ++ vs) a = lw ws a + lw vs a := by
  unfold lw
  rw [List.filter_append, List.sum_append]
theorem sum_perm {l m : List Int} (p : l.Perm m) : l.sum = m.sum := by
  induction p with
  | nil => rfl
  | cons x _ ih => rw [List.sum_cons, List.sum_cons, ih]
  | swap x y l => simp only [List.sum_cons]; omega
  | trans _ _ h k => exact h.trans k
theorem lw_perm {l m : List Int} (p : l.Perm m) (a : Int) : lw l a = lw m a := sum_perm (p.filter _)
theorem sum_nn {ws : List Int} (h0 : ∀ x ∈ ws, 0 ≤ x) : 0 ≤ ws.sum := by
  induction ws with
  | nil => simp
  | cons x ws ih =>
    have := h0 x List.mem_cons_self
    have := ih fun y hy => h0 y (List.mem_cons_of_mem _ hy)
    rw [List.sum_cons]; omega
theorem lw_nn {ws : List Int} (h0 : ∀ x ∈ ws, 0 ≤ x) (a : Int) : 0 ≤ lw ws a := sum_nn fun x hx => h0 x ((List.mem_filter.mp hx).1)
theorem lw_le {ws : List Int} (h0 : ∀ x ∈ ws, 0 ≤ x) (a : Int) : lw ws a ≤ ws.sum := by
  induction ws with
  | nil => simp [lw]
  | cons x ws ih =>
    have := h0 x List.mem_cons_self
    have := ih fun y hy => h0 y (List.mem_cons_of_mem _ hy)
    rw [lw_cons, List.sum_cons]
    split <;> omega
/-- all are lighter -/
theorem lw_all {ws : List Int} {a : Int} (h : ∀ x ∈ ws, x < a) : lw ws a = ws.sum := by
  unfold lw
  rw [List.filter_eq_self.mpr fun x hx => by simpa using h x hx]
/-- nobody is stuck -/
def free (e : Int) (ws : List Int) : Prop := ∀ x ∈ ws, x ≤ e + lw ws x
instance {e : Int} {ws : List Int} : Decidable (free e ws) := by unfold free; infer_instance
theorem mem_rowI {e : Int} {ws r : List Int} : r ∈ rowI e ws ↔ ∃ (i : Nat) (w : Int), r = [w, (i : Int)] ∧ ws[i]? = some w ∧ e + lw ws w < w := by
  unfold rowI rowP
  constructor
  · intro h
    obtain ⟨p, hp, rfl⟩ := List.mem_map.mp h
    obtain ⟨h1, h2⟩ := List.mem_filter.mp hp
    refine ⟨p.2, p.1, rfl, List.mem_zipIdx_iff_getElem?.mp h1, by simpa using h2⟩
  · rintro ⟨i, w, rfl, h1, h2⟩
    exact List.mem_map.mpr ⟨(w, i), List.mem_filter.mpr ⟨List.mem_zipIdx_iff_getElem?.mpr h1, by simpa using h2⟩, rfl⟩
theorem row_nil {e : Int} {ws : List Int} : rowI e ws = [] ↔ free e ws := by
  constructor
  · intro h x hx
    obtain ⟨i, hi⟩ := List.getElem?_of_mem hx
    by_cases q : e + lw ws x < x
    · have : [x, (i : Int)] ∈ rowI e ws := mem_rowI.mpr ⟨i, x, rfl, hi, q⟩
      rw [h] at this; cases this
    · omega
  · intro h
    cases hr : rowI e ws with
    | nil => rfl
    | cons r rs =>
      have : r ∈ rowI e ws := by rw [hr]; exact List.mem_cons_self
      obtain ⟨i, w, _, h1, h2⟩ := mem_rowI.mp this
      have := h w (List.mem_of_getElem? h1)
      omega
/-- the lightest who is stuck -/
theorem row_first {e : Int} {ws r : List Int} {rs : List (List Int)} (h : rowI e ws = r :: rs) : ∃ (i : Nat) (w : Int), minL r rs = [w, (i : Int)] ∧ ws[i]? = some w ∧ e + lw ws w < w ∧ ∀ x ∈ ws, e + lw ws x < x → w ≤ x := by
  obtain ⟨h1, h2⟩ := minL_spec r rs
  rw [← h] at h1 h2
  obtain ⟨i, w, e1, h3, h4⟩ := mem_rowI.mp h1
  refine ⟨i, w, e1, h3, h4, fun x hx hs => ?_⟩
  obtain ⟨j, hj⟩ := List.getElem?_of_mem hx
  have h5 := h2 [x, (j : Int)] (mem_rowI.mpr ⟨j, x, rfl, hj, hs⟩)
  rw [e1] at h5
  unfold leL at h5
  simp only [ltL, Bool.not_eq_true'] at h5
  by_cases q : x = w
  · omega
  · rw [if_neg q] at h5
    simp at h5; exact h5
/-- how much can come down -/
def reach (e : Int) (ws : List Int) : Int := match rowI e ws with
  | [] => ws.sum
  | r :: rs => lw ws ((minL r rs).getD 0 0)
section
variable {n o B : Nat} {g : List O} {E : X → List O → Prop}
end
end T
end
section
set_option Elab.async false
set_option linter.all false
set_option maxRecDepth 100000
set_option maxHeartbeats 4000000
namespace T
open PySem L2 Bk TL
/-! ## the text of a tower -/
def nl (i : Int) : List Nat := numL i.toNat
def sI (i : Int) : Str := Str.ofString (toString i)
theorem tl_sI {i : Int} (h : 0 ≤ i) : tl (sI i) = nl i := by
  have : sI i = Str.ofString (toString ((i.toNat : Nat) : Int)) := by unfold sI; rw [Int.toNat_of_nonneg h]
  rw [this, tl_num]; rfl
def pieces (ws : List Int) : List (List Nat) := if ws = [] then [[45]] else ws.map nl
def wtL (ws : List Int) : List Nat := joinL [44] (pieces ws)
def ttL (e : Int) (ws : List Int) : List Nat := nl e ++ ([32, 47, 32] ++ wtL ws)
def wtx (ws : List Int) : Str := ⟨(wtL ws).toArray⟩
def ttx (e : Int) (ws : List Int) : Str := ⟨(ttL e ws).toArray⟩
theorem cut_first {s : Nat} : ∀ {a b r t : List Nat}, s ∉ a → s ∉ b → a ++ s :: r = b ++ s :: t → a = b ∧ r = t
  | [], [], r, t, _, _, h => ⟨rfl, by injection h⟩
  | [], y :: b, r, t, _, hb, h => by
    injection h with h1 h2
    exact absurd (h1 ▸ List.mem_cons_self) hb
  | x :: a, [], r, t, ha, _, h => by
    injection h with h1 h2
    exact absurd (h1 ▸ List.mem_cons_self) ha
  | x :: a, y :: b, r, t, ha, hb, h => by
    injection h with h1 h2
    obtain ⟨e1, e2⟩ := cut_first (fun q => ha (List.mem_cons_of_mem _ q)) (fun q => hb (List.mem_cons_of_mem _ q)) h2
    exact ⟨by rw [h1, e1], e2⟩
theorem nl_free {i : Int} {s : Nat} (h : s < 48 ∨ 57 < s) : s ∉ nl i := numL_free h
theorem nl_inj {i j : Int} (hi : 0 ≤ i) (hj : 0 ≤ j) (h : nl i = nl j) : i = j := by
  have := numL_inj h
  omega
theorem pieces_free {ws : List Int} : ∀ p ∈ pieces ws, 44 ∉ p := by
  intro p hp
  unfold pieces at hp
  split at hp
  · rw [List.mem_singleton.mp hp]; decide
  · obtain ⟨i, _, rfl⟩ := List.mem_map.mp hp
    exact nl_free (by omega)
theorem pieces_ne {ws : List Int} : pieces ws ≠ [] := by
  unfold pieces
  split
  · simp
  · rename_i h; simpa using h
theorem map_nl_inj : ∀ {ws vs : List Int}, (∀ x ∈ ws, 0 ≤ x) → (∀ x ∈ vs, 0 ≤ x) → ws.map nl = vs.map nl → ws = vs
  | [], [], _, _, _ => rfl
  | [], _ :: _, _, _, h => nomatch h
  | _ :: _, [], _, _, h => nomatch h
  | x :: ws, y :: vs, hw, hv, h => by
    injection h with h1 h2
    rw [nl_inj (hw x List.mem_cons_self) (hv y List.mem_cons_self) h1, map_nl_inj (fun z hz => hw z (List.mem_cons_of_mem _ hz)) (fun z hz => hv z (List.mem_cons_of_mem _ hz)) h2]
theorem dash_nl {w : Int} : nl w ≠ [45] := fun h => by
  have : (45 : Nat) ∈ nl w := by rw [h]; simp
  exact nl_free (by omega) this
theorem pieces_inj {ws vs : List Int} (hw : ∀ x ∈ ws, 0 ≤ x) (hv : ∀ x ∈ vs, 0 ≤ x) (h : pieces ws = pieces vs) : ws = vs := by
  unfold pieces at h
  split at h <;> split at h
  · rename_i a b; rw [a, b]
  · cases vs with
    | nil => exact absurd rfl ‹¬([] : List Int) = []›
    | cons v vs => injection h with h1 h2; exact absurd h1.symm dash_nl
  · cases ws with
    | nil => rename_i a _; exact absurd rfl ‹¬([] : List Int) = []›
    | cons v vs => injection h with h1 h2; exact absurd h1 dash_nl
  · exact map_nl_inj hw hv h
theorem wtL_inj {ws vs : List Int} (hw : ∀ x ∈ ws, 0 ≤ x) (hv : ∀ x ∈ vs, 0 ≤ x) (h : wtL ws = wtL vs) : ws = vs := by
  refine pieces_inj hw hv ?_
  have e1 := spl_join (s := 44) (S := []) pieces_ne (pieces_free (ws := ws))
  have e2 := spl_join (s := 44) (S := []) pieces_ne (pieces_free (ws := vs))
  unfold wtL at h
  rw [← e1, h, e2]
theorem ttL_inj {e f : Int} {ws vs : List Int} (he : 0 ≤ e) (hf : 0 ≤ f) (hw : ∀ x ∈ ws, 0 ≤ x) (hv : ∀ x ∈ vs, 0 ≤ x) (h : ttL e ws = ttL f vs) : e = f ∧ ws = vs := by
  obtain ⟨h1, h2⟩ := cut_first (s := 32) (nl_free (by omega)) (nl_free (by omega)) h
  have h3 : wtL ws = wtL vs := by injection h2 with _ q; injection q
  exact ⟨nl_inj he hf h1, wtL_inj hw hv h3⟩
theorem nl_len {i : Int} (h : 0 ≤ i ∧ i ≤ 1000000) : (nl i).length ≤ 7 := numL_len (k := 7) (by decide) (by omega)
theorem join_len : ∀ {ps : List (List Nat)}, (∀ p ∈ ps, p.length ≤ 7) → (joinL [44] ps).length ≤ 8 * ps.length
  | [], _ => by simp [joinL]
  | [p], h => by have := h p List.mem_cons_self; simp [joinL]; omega
  | p :: q :: r, h => by
    have h1 := h p List.mem_cons_self
    have := join_len (ps := q :: r) fun z hz => h z (List.mem_cons_of_mem _ hz)
    simp only [joinL, List.length_append, List.length_cons, List.length_nil] at *
    omega
theorem wtL_len {ws : List Int} (hw : Ints 1 1000000 ws) : (wtL ws).length ≤ 8 * ws.length + 8 := by
  unfold wtL pieces
  split
  · simp [joinL]
  · have := join_len (ps := ws.map nl) fun p hp => by
      obtain ⟨i, hi, rfl⟩ := List.mem_map.mp hp
      have := hw i hi
      exact nl_len ⟨by omega, by omega⟩
    rw [List.length_map] at this
    omega
theorem len_mk {l : List Nat} : (⟨l.toArray⟩ : Str).length = l.length := by rw [len_tl, tl_mk]
theorem sI_len {i : Int} (h : 0 ≤ i ∧ i ≤ 1000000) : (sI i).length ≤ 7 := by rw [len_tl, tl_sI h.1]; exact nl_len h
theorem strs_map : ∀ {l : List Str}, strs? (l.map D.str) = some l
  | [] => rfl
  | x :: l => by simp only [List.map_cons, strs?, strs_map, Option.map_some]
theorem map_tl_sI {ws : List Int} (h : ∀ x ∈ ws, 0 ≤ x) : (ws.map sI).map tl = ws.map nl := by
  rw [List.map_map]
  exact List.map_congr_left fun i hi => tl_sI (h i hi)
theorem join_wtx {ws : List Int} (hw : Ints 1 1000000 ws) (hl : ws.length ≤ 100) (hne : ws ≠ []) : methD .join (Str.ofString ",") (.lst (ws.map fun i => D.str (sI i))) = some (.str (wtx ws)) := by
  have e : (ws.map fun i => D.str (sI i)) = (ws.map sI).map D.str := by rw [List.map_map]; rfl
  have hs : ((ws.map sI).map (·.length)).sum ≤ 7 * ws.length := by
    have : ∀ l : List Int, Ints 1 1000000 l → ((l.map sI).map (·.length)).sum ≤ 7 * l.length := by
      intro l
      induction l with
      | nil => intro _; simp
      | cons x l ih =>
        intro h
        have := ih fun y hy => h y (List.mem_cons_of_mem _ hy)
        have hx := h x List.mem_cons_self
        have := sI_len (i := x) ⟨by omega, by omega⟩
        simp only [List.map_cons, List.sum_cons, List.length_cons]
        omega
    exact this ws hw
  simp only [methD, e, strs_map, Option.bind_some]
  rw [if_pos (by
    have h1 : (Str.ofString ",").length = 1 := rfl
    rw [h1, List.length_map]
    simp only [LIM]; omega)]
  refine congrArg (fun z => some (D.str z)) (ext_tl ?_)
  rw [join_eq, tl_join, map_tl_sI fun x hx => by have := hw x hx; omega]
  unfold wtx wtL pieces
  rw [tl_mk, if_neg hne]
  rfl
section
variable {n o B : Nat} {g : List O} {E : X → List O → Prop}
theorem strI_ok {i : Int} (h : 0 ≤ i ∧ i ≤ 1000000) : biG g .str [.int i] = some (.str (sI i)) := bg_str (by omega)
theorem wtext_ok {ws : List Int} (hw : Ints 1 1000000 ws) (hl : ws.length ≤ 100) : callN gl P (n + 1) f_weights_text [.tup (ws.map D.int)] g = .ok (.str (wtx ws)) g := by
  refine okx_eq ?_
  refine okx_call P_weights_text rfl ?_
  simp only [b_weights_text]
  cases hws : ws with
  | nil => (try simp only [List.isEmpty_nil, gl_c_NOBODY, exs_c, exs_n, ex, ev, evs, evB, evIf, evS, evP, okx_bind, okx_ok, okx_exc, okx_lift, okx_asB, okx_if, okx_noX, lift_some, Res.bind_ok, Res.bind_exc, List.map_cons, List.map_nil, List.length_cons, List.length_nil, List.replicate, List.cons_append, List.nil_append, List.getElem?_cons_zero, List.getElem?_cons_succ, List.set_cons_zero, List.set_cons_succ, Nat.reduceSub, Nat.reduceAdd, if_true, Bool.false_eq_true, if_false, Option.some.injEq, exists_eq_left', exists_eq_left, bo_add, bo_sub, bo_p6, bo_p8, bo_p18, bo_p39, co_lt, co_le, co_gt, co_ge, co_eqi, co_nei, co_eqL, co_neL, co_eqT, co_neT, co_eqs, co_nes, co_neS2, beq_self_eq_true, co_isN, co_notN, co_isB, co_notB, co_memT, co_memL, co_nmemT, co_nmemL, bg_lenL, bg_lenT, bg_tupL, bg_tupT, bg_lstL, bg_lstT, bg_intB, bg_intI, bg_max, bg_min, bg_sumL, bg_sumT, bg_allL, bg_sortL, bg_sortT, ixd_l, ixd_t, de_lst, de_tup, tg_nm, tg_2, tg_3, tg_l2, tg_l3, dT_nm, dT_tp, nn_non, nn_int, nn_tup, nn_lst, bg_maxL, bg_maxT, bg_minL, bg_minP, at_0, at_1, at_2, at_3, Tg.slots, wipeR, iterD, items, op_none, op_int, sld_l, sld_t, rev_l, rev_t, D.bl.injEq, D.int.injEq, Bool.not_true, Bool.not_false, Bool.true_eq_false, and_true, true_and, mkT_0, mkL_0, mkT_1, mkL_1, mkT_2, mkL_2, mkT_3, mkL_3, mkT_4, mkL_4, mkT_5, mkL_5, mkT_6, mkL_6, mkT_7, mkL_7, mkT_8, mkL_8, mkT_9, mkL_9, mkT_10, mkL_10, mkT_11, mkL_11, mkT_12, mkL_12, mkT_13, mkL_13, mkT_14, mkL_14, mkT_15, mkL_15, mkT_16, mkL_16, mkT_17, mkL_17, mkT_18, mkL_18, mkT_19, mkL_19, mkT_20, mkL_20, par_2, par_3, parS_2, parS_3, reduceCtorEq, false_and, exists_false, Int.reduceNeg, Int.reduceAdd, Int.reduceSub, slotOf, decide_eq_true_eq, List.length_map, List.length_range, Bool.not_eq_true', decide_eq_false_iff_not, decide_not, Bool.not_not, ty_i, ty_b, ty_n, ty_s, ty_t, ty_l, ty_d, decide_true, decide_false, Int.reduceLE, Int.reduceLT, and_self, Int.reduceToNat, Int.toNat_natCast, lim_0, lim_1, lim_2, lim_3, lim_4, lim_5, lim_6, lim_7, lim_8, lim_9, lim_10, lim_11, lim_12, lim_13, lim_14, lim_15, lim_16, lim_17, lim_18, lim_19, lim_20, lim_21, lim_22, lim_23, lim_24, nc_0, nc_1, nc_2, nc_3, nc_4, nc_5, nc_6, nc_7, nc_8, nc_9, nc_10, nc_11, nc_12, Int.reduceEq, mkSeq, Option.map_some, Option.bind_some, List.getElem?_nil, or_true, or_false, true_or, false_or, not_true_eq_false, not_false_eq_true]); rfl
  | cons w0 wt =>
    rw [← hws]
    have hne : (ws.map D.int).isEmpty = false := by rw [hws]; rfl
    have hne2 : ws ≠ [] := by rw [hws]; simp
    (try simp only [hne, gl_c_COMMA, exs_c, exs_n, ex, ev, evs, evB, evIf, evS, evP, okx_bind, okx_ok, okx_exc, okx_lift, okx_asB, okx_if, okx_noX, lift_some, Res.bind_ok, Res.bind_exc, List.map_cons, List.map_nil, List.length_cons, List.length_nil, List.replicate, List.cons_append, List.nil_append, List.getElem?_cons_zero, List.getElem?_cons_succ, List.set_cons_zero, List.set_cons_succ, Nat.reduceSub, Nat.reduceAdd, if_true, Bool.false_eq_true, if_false, Option.some.injEq, exists_eq_left', exists_eq_left, bo_add, bo_sub, bo_p6, bo_p8, bo_p18, bo_p39, co_lt, co_le, co_gt, co_ge, co_eqi, co_nei, co_eqL, co_neL, co_eqT, co_neT, co_eqs, co_nes, co_neS2, beq_self_eq_true, co_isN, co_notN, co_isB, co_notB, co_memT, co_memL, co_nmemT, co_nmemL, bg_lenL, bg_lenT, bg_tupL, bg_tupT, bg_lstL, bg_lstT, bg_intB, bg_intI, bg_max, bg_min, bg_sumL, bg_sumT, bg_allL, bg_sortL, bg_sortT, ixd_l, ixd_t, de_lst, de_tup, tg_nm, tg_2, tg_3, tg_l2, tg_l3, dT_nm, dT_tp, nn_non, nn_int, nn_tup, nn_lst, bg_maxL, bg_maxT, bg_minL, bg_minP, at_0, at_1, at_2, at_3, Tg.slots, wipeR, iterD, items, op_none, op_int, sld_l, sld_t, rev_l, rev_t, D.bl.injEq, D.int.injEq, Bool.not_true, Bool.not_false, Bool.true_eq_false, and_true, true_and, mkT_0, mkL_0, mkT_1, mkL_1, mkT_2, mkL_2, mkT_3, mkL_3, mkT_4, mkL_4, mkT_5, mkL_5, mkT_6, mkL_6, mkT_7, mkL_7, mkT_8, mkL_8, mkT_9, mkL_9, mkT_10, mkL_10, mkT_11, mkL_11, mkT_12, mkL_12, mkT_13, mkL_13, mkT_14, mkL_14, mkT_15, mkL_15, mkT_16, mkL_16, mkT_17, mkL_17, mkT_18, mkL_18, mkT_19, mkL_19, mkT_20, mkL_20, par_2, par_3, parS_2, parS_3, reduceCtorEq, false_and, exists_false, Int.reduceNeg, Int.reduceAdd, Int.reduceSub, slotOf, decide_eq_true_eq, List.length_map, List.length_range, Bool.not_eq_true', decide_eq_false_iff_not, decide_not, Bool.not_not, ty_i, ty_b, ty_n, ty_s, ty_t, ty_l, ty_d, decide_true, decide_false, Int.reduceLE, Int.reduceLT, and_self, Int.reduceToNat, Int.toNat_natCast, lim_0, lim_1, lim_2, lim_3, lim_4, lim_5, lim_6, lim_7, lim_8, lim_9, lim_10, lim_11, lim_12, lim_13, lim_14, lim_15, lim_16, lim_17, lim_18, lim_19, lim_20, lim_21, lim_22, lim_23, lim_24, nc_0, nc_1, nc_2, nc_3, nc_4, nc_5, nc_6, nc_7, nc_8, nc_9, nc_10, nc_11, nc_12, Int.reduceEq, mkSeq, Option.map_some, Option.bind_some, List.getElem?_nil, or_true, or_false, true_or, false_or, not_true_eq_false, not_false_eq_true])
    refine okx_map (fun i : Int => D.str (sI i)) (by omega) ?_ ?_
    · intro i acc hi hl2
      have := hw i hi
      (try simp only [strI_ok (i := i) ⟨by omega, by omega⟩, hl2, exs_c, exs_n, ex, ev, evs, evB, evIf, evS, evP, okx_bind, okx_ok, okx_exc, okx_lift, okx_asB, okx_if, okx_noX, lift_some, Res.bind_ok, Res.bind_exc, List.map_cons, List.map_nil, List.length_cons, List.length_nil, List.replicate, List.cons_append, List.nil_append, List.getElem?_cons_zero, List.getElem?_cons_succ, List.set_cons_zero, List.set_cons_succ, Nat.reduceSub, Nat.reduceAdd, if_true, Bool.false_eq_true, if_false, Option.some.injEq, exists_eq_left', exists_eq_left, bo_add, bo_sub, bo_p6, bo_p8, bo_p18, bo_p39, co_lt, co_le, co_gt, co_ge, co_eqi, co_nei, co_eqL, co_neL, co_eqT, co_neT, co_eqs, co_nes, co_neS2, beq_self_eq_true, co_isN, co_notN, co_isB, co_notB, co_memT, co_memL, co_nmemT, co_nmemL, bg_lenL, bg_lenT, bg_tupL, bg_tupT, bg_lstL, bg_lstT, bg_intB, bg_intI, bg_max, bg_min, bg_sumL, bg_sumT, bg_allL, bg_sortL, bg_sortT, ixd_l, ixd_t, de_lst, de_tup, tg_nm, tg_2, tg_3, tg_l2, tg_l3, dT_nm, dT_tp, nn_non, nn_int, nn_tup, nn_lst, bg_maxL, bg_maxT, bg_minL, bg_minP, at_0, at_1, at_2, at_3, Tg.slots, wipeR, iterD, items, op_none, op_int, sld_l, sld_t, rev_l, rev_t, D.bl.injEq, D.int.injEq, Bool.not_true, Bool.not_false, Bool.true_eq_false, and_true, true_and, mkT_0, mkL_0, mkT_1, mkL_1, mkT_2, mkL_2, mkT_3, mkL_3, mkT_4, mkL_4, mkT_5, mkL_5, mkT_6, mkL_6, mkT_7, mkL_7, mkT_8, mkL_8, mkT_9, mkL_9, mkT_10, mkL_10, mkT_11, mkL_11, mkT_12, mkL_12, mkT_13, mkL_13, mkT_14, mkL_14, mkT_15, mkL_15, mkT_16, mkL_16, mkT_17, mkL_17, mkT_18, mkL_18, mkT_19, mkL_19, mkT_20, mkL_20, par_2, par_3, parS_2, parS_3, reduceCtorEq, false_and, exists_false, Int.reduceNeg, Int.reduceAdd, Int.reduceSub, slotOf, decide_eq_true_eq, List.length_map, List.length_range, Bool.not_eq_true', decide_eq_false_iff_not, decide_not, Bool.not_not, ty_i, ty_b, ty_n, ty_s, ty_t, ty_l, ty_d, decide_true, decide_false, Int.reduceLE, Int.reduceLT, and_self, Int.reduceToNat, Int.toNat_natCast, lim_0, lim_1, lim_2, lim_3, lim_4, lim_5, lim_6, lim_7, lim_8, lim_9, lim_10, lim_11, lim_12, lim_13, lim_14, lim_15, lim_16, lim_17, lim_18, lim_19, lim_20, lim_21, lim_22, lim_23, lim_24, nc_0, nc_1, nc_2, nc_3, nc_4, nc_5, nc_6, nc_7, nc_8, nc_9, nc_10, nc_11, nc_12, Int.reduceEq, mkSeq, Option.map_some, Option.bind_some, List.getElem?_nil, or_true, or_false, true_or, false_or, not_true_eq_false, not_false_eq_true])
    · (try simp only [join_wtx hw hl hne2, exs_c, exs_n, ex, ev, evs, evB, evIf, evS, evP, okx_bind, okx_ok, okx_exc, okx_lift, okx_asB, okx_if, okx_noX, lift_some, Res.bind_ok, Res.bind_exc, List.map_cons, List.map_nil, List.length_cons, List.length_nil, List.replicate, List.cons_append, List.nil_append, List.getElem?_cons_zero, List.getElem?_cons_succ, List.set_cons_zero, List.set_cons_succ, Nat.reduceSub, Nat.reduceAdd, if_true, Bool.false_eq_true, if_false, Option.some.injEq, exists_eq_left', exists_eq_left, bo_add, bo_sub, bo_p6, bo_p8, bo_p18, bo_p39, co_lt, co_le, co_gt, co_ge, co_eqi, co_nei, co_eqL, co_neL, co_eqT, co_neT, co_eqs, co_nes, co_neS2, beq_self_eq_true, co_isN, co_notN, co_isB, co_notB, co_memT, co_memL, co_nmemT, co_nmemL, bg_lenL, bg_lenT, bg_tupL, bg_tupT, bg_lstL, bg_lstT, bg_intB, bg_intI, bg_max, bg_min, bg_sumL, bg_sumT, bg_allL, bg_sortL, bg_sortT, ixd_l, ixd_t, de_lst, de_tup, tg_nm, tg_2, tg_3, tg_l2, tg_l3, dT_nm, dT_tp, nn_non, nn_int, nn_tup, nn_lst, bg_maxL, bg_maxT, bg_minL, bg_minP, at_0, at_1, at_2, at_3, Tg.slots, wipeR, iterD, items, op_none, op_int, sld_l, sld_t, rev_l, rev_t, D.bl.injEq, D.int.injEq, Bool.not_true, Bool.not_false, Bool.true_eq_false, and_true, true_and, mkT_0, mkL_0, mkT_1, mkL_1, mkT_2, mkL_2, mkT_3, mkL_3, mkT_4, mkL_4, mkT_5, mkL_5, mkT_6, mkL_6, mkT_7, mkL_7, mkT_8, mkL_8, mkT_9, mkL_9, mkT_10, mkL_10, mkT_11, mkL_11, mkT_12, mkL_12, mkT_13, mkL_13, mkT_14, mkL_14, mkT_15, mkL_15, mkT_16, mkL_16, mkT_17, mkL_17, mkT_18, mkL_18, mkT_19, mkL_19, mkT_20, mkL_20, par_2, par_3, parS_2, parS_3, reduceCtorEq, false_and, exists_false, Int.reduceNeg, Int.reduceAdd, Int.reduceSub, slotOf, decide_eq_true_eq, List.length_map, List.length_range, Bool.not_eq_true', decide_eq_false_iff_not, decide_not, Bool.not_not, ty_i, ty_b, ty_n, ty_s, ty_t, ty_l, ty_d, decide_true, decide_false, Int.reduceLE, Int.reduceLT, and_self, Int.reduceToNat, Int.toNat_natCast, lim_0, lim_1, lim_2, lim_3, lim_4, lim_5, lim_6, lim_7, lim_8, lim_9, lim_10, lim_11, lim_12, lim_13, lim_14, lim_15, lim_16, lim_17, lim_18, lim_19, lim_20, lim_21, lim_22, lim_23, lim_24, nc_0, nc_1, nc_2, nc_3, nc_4, nc_5, nc_6, nc_7, nc_8, nc_9, nc_10, nc_11, nc_12, Int.reduceEq, mkSeq, Option.map_some, Option.bind_some, List.getElem?_nil, or_true, or_false, true_or, false_or, not_true_eq_false, not_false_eq_true])
theorem tl_lit {s : String} {l : List Nat} (h : (s.toList.map Char.toNat) = l) : tl (Str.ofString s) = l := by rw [tl_ofString, h]
theorem ttext_ok {e : Int} {ws : List Int} (he : 1 ≤ e ∧ e ≤ 1000000) (hw : Ints 1 1000000 ws) (hl : ws.length ≤ 100) : callN gl P (n + 2) f_tower_text [tw e ws] g = .ok (.str (ttx e ws)) g := by
  refine okx_eq ?_
  unfold tw
  refine okx_call P_tower_text rfl ?_
  simp only [b_tower_text]
  have hlen := wtL_len hw
  have h0 : Str.empty.length = 0 := rfl
  have l1 := sI_len (i := e) ⟨by omega, by omega⟩
  have lsp : (Str.ofString " ").length = 1 := rfl
  have lmd : (Str.ofString "/").length = 1 := rfl
  have lw : (wtx ws).length ≤ 8 * ws.length + 8 := by unfold wtx; rw [len_mk]; exact hlen
  have la : ∀ a b : Str, (a ++ b).length = a.length + b.length := fun a b => by rw [len_tl, len_tl a, len_tl b, tl_append, List.length_append]
  have c1 : fmtD Str.empty (.int e) = some (Str.empty ++ sI e) := by rw [fmt_i (p1900 (by omega)), cat_ok (by rw [la]; show _ + (sI e).length ≤ LIM; simp only [LIM]; omega)]; rfl
  have c2 : catS (Str.empty ++ sI e) (Str.ofString " ") = some (Str.empty ++ sI e ++ Str.ofString " ") := cat_ok (by simp only [la, LIM]; omega)
  have c3 : fmtD (Str.empty ++ sI e ++ Str.ofString " ") (.str (Str.ofString "/")) = some (Str.empty ++ sI e ++ Str.ofString " " ++ Str.ofString "/") := by rw [fmt_s, cat_ok (by simp only [la, LIM]; omega)]
  have c4 : catS (Str.empty ++ sI e ++ Str.ofString " " ++ Str.ofString "/") (Str.ofString " ") = some (Str.empty ++ sI e ++ Str.ofString " " ++ Str.ofString "/" ++ Str.ofString " ") := cat_ok (by simp only [la, LIM]; omega)
  have c5 : fmtD (Str.empty ++ sI e ++ Str.ofString " " ++ Str.ofString "/" ++ Str.ofString " ") (.str (wtx ws)) = some (Str.empty ++ sI e ++ Str.ofString " " ++ Str.ofString "/" ++ Str.ofString " " ++ wtx ws) := by rw [fmt_s, cat_ok (by simp only [la, LIM]; omega)]
  (try simp only [c1, c2, gl_c_MIDDLE, c3, c4, wtext_ok hw hl, c5, D.str.injEq, exs_c, exs_n, ex, ev, evs, evB, evIf, evS, evP, okx_bind, okx_ok, okx_exc, okx_lift, okx_asB, okx_if, okx_noX, lift_some, Res.bind_ok, Res.bind_exc, List.map_cons, List.map_nil, List.length_cons, List.length_nil, List.replicate, List.cons_append, List.nil_append, List.getElem?_cons_zero, List.getElem?_cons_succ, List.set_cons_zero, List.set_cons_succ, Nat.reduceSub, Nat.reduceAdd, if_true, Bool.false_eq_true, if_false, Option.some.injEq, exists_eq_left', exists_eq_left, bo_add, bo_sub, bo_p6, bo_p8, bo_p18, bo_p39, co_lt, co_le, co_gt, co_ge, co_eqi, co_nei, co_eqL, co_neL, co_eqT, co_neT, co_eqs, co_nes, co_neS2, beq_self_eq_true, co_isN, co_notN, co_isB, co_notB, co_memT, co_memL, co_nmemT, co_nmemL, bg_lenL, bg_lenT, bg_tupL, bg_tupT, bg_lstL, bg_lstT, bg_intB, bg_intI, bg_max, bg_min, bg_sumL, bg_sumT, bg_allL, bg_sortL, bg_sortT, ixd_l, ixd_t, de_lst, de_tup, tg_nm, tg_2, tg_3, tg_l2, tg_l3, dT_nm, dT_tp, nn_non, nn_int, nn_tup, nn_lst, bg_maxL, bg_maxT, bg_minL, bg_minP, at_0, at_1, at_2, at_3, Tg.slots, wipeR, iterD, items, op_none, op_int, sld_l, sld_t, rev_l, rev_t, D.bl.injEq, D.int.injEq, Bool.not_true, Bool.not_false, Bool.true_eq_false, and_true, true_and, mkT_0, mkL_0, mkT_1, mkL_1, mkT_2, mkL_2, mkT_3, mkL_3, mkT_4, mkL_4, mkT_5, mkL_5, mkT_6, mkL_6, mkT_7, mkL_7, mkT_8, mkL_8, mkT_9, mkL_9, mkT_10, mkL_10, mkT_11, mkL_11, mkT_12, mkL_12, mkT_13, mkL_13, mkT_14, mkL_14, mkT_15, mkL_15, mkT_16, mkL_16, mkT_17, mkL_17, mkT_18, mkL_18, mkT_19, mkL_19, mkT_20, mkL_20, par_2, par_3, parS_2, parS_3, reduceCtorEq, false_and, exists_false, Int.reduceNeg, Int.reduceAdd, Int.reduceSub, slotOf, decide_eq_true_eq, List.length_map, List.length_range, Bool.not_eq_true', decide_eq_false_iff_not, decide_not, Bool.not_not, ty_i, ty_b, ty_n, ty_s, ty_t, ty_l, ty_d, decide_true, decide_false, Int.reduceLE, Int.reduceLT, and_self, Int.reduceToNat, Int.toNat_natCast, lim_0, lim_1, lim_2, lim_3, lim_4, lim_5, lim_6, lim_7, lim_8, lim_9, lim_10, lim_11, lim_12, lim_13, lim_14, lim_15, lim_16, lim_17, lim_18, lim_19, lim_20, lim_21, lim_22, lim_23, lim_24, nc_0, nc_1, nc_2, nc_3, nc_4, nc_5, nc_6, nc_7, nc_8, nc_9, nc_10, nc_11, nc_12, Int.reduceEq, mkSeq, Option.map_some, Option.bind_some, List.getElem?_nil, or_true, or_false, true_or, false_or, not_true_eq_false, not_false_eq_true])
  refine ext_tl ?_
  unfold ttx ttL wtx
  simp only [tl_append, tl_sI (show 0 ≤ e by omega), tl_mk, tl_lit (s := " ") rfl, tl_lit (s := "/") rfl, List.append_assoc]
  rfl
theorem ltext_ok {e : Int} {ws : List Int} (he : 1 ≤ e ∧ e ≤ 1000000) (hw : Ints 1 1000000 ws) (hl : ws.length ≤ 100) : callN gl P (n + 1) f__law_text_2 [tw e ws] g = .ok (.str (ttx e ws)) g := by
  refine okx_eq ?_
  unfold tw
  refine okx_call P__law_text_2 rfl ?_
  simp only [b__law_text_2]
  have hlen := wtL_len hw
  have la : ∀ a b : Str, (a ++ b).length = a.length + b.length := fun a b => by rw [len_tl, len_tl a, len_tl b, tl_append, List.length_append]
  have l1 := sI_len (i := e) ⟨by omega, by omega⟩
  have l2 : (Str.ofString " / ").length = 3 := rfl
  have lw : (wtx ws).length ≤ 8 * ws.length + 8 := by unfold wtx; rw [len_mk]; exact hlen
  have b1 : binop .add (.str (sI e)) (.str (Str.ofString " / ")) = some (.str (sI e ++ Str.ofString " / ")) := by
    simp only [binop]; rw [if_pos (by simp only [LIM]; omega)]
  have b2 : binop .add (.str (sI e ++ Str.ofString " / ")) (.str (wtx ws)) = some (.str (sI e ++ Str.ofString " / " ++ wtx ws)) := by
    simp only [binop]; rw [if_pos (by simp only [la, LIM]; omega)]
  have fin : (sI e ++ Str.ofString " / " ++ wtx ws) = ttx e ws := by
    refine ext_tl ?_
    unfold ttx ttL wtx
    simp only [tl_append, tl_sI (show 0 ≤ e by omega), tl_mk, tl_lit (s := " / ") rfl, List.append_assoc]
    rfl
  (try simp only [exs_c, exs_n, ex, ev, evs, evB, evIf, evS, evP, okx_bind, okx_ok, okx_exc, okx_lift, okx_asB, okx_if, okx_noX, lift_some, Res.bind_ok, Res.bind_exc, List.map_cons, List.map_nil, List.length_cons, List.length_nil, List.replicate, List.cons_append, List.nil_append, List.getElem?_cons_zero, List.getElem?_cons_succ, List.set_cons_zero, List.set_cons_succ, Nat.reduceSub, Nat.reduceAdd, if_true, Bool.false_eq_true, if_false, Option.some.injEq, exists_eq_left', exists_eq_left, bo_add, bo_sub, bo_p6, bo_p8, bo_p18, bo_p39, co_lt, co_le, co_gt, co_ge, co_eqi, co_nei, co_eqL, co_neL, co_eqT, co_neT, co_eqs, co_nes, co_neS2, beq_self_eq_true, co_isN, co_notN, co_isB, co_notB, co_memT, co_memL, co_nmemT, co_nmemL, bg_lenL, bg_lenT, bg_tupL, bg_tupT, bg_lstL, bg_lstT, bg_intB, bg_intI, bg_max, bg_min, bg_sumL, bg_sumT, bg_allL, bg_sortL, bg_sortT, ixd_l, ixd_t, de_lst, de_tup, tg_nm, tg_2, tg_3, tg_l2, tg_l3, dT_nm, dT_tp, nn_non, nn_int, nn_tup, nn_lst, bg_maxL, bg_maxT, bg_minL, bg_minP, at_0, at_1, at_2, at_3, Tg.slots, wipeR, iterD, items, op_none, op_int, sld_l, sld_t, rev_l, rev_t, D.bl.injEq, D.int.injEq, Bool.not_true, Bool.not_false, Bool.true_eq_false, and_true, true_and, mkT_0, mkL_0, mkT_1, mkL_1, mkT_2, mkL_2, mkT_3, mkL_3, mkT_4, mkL_4, mkT_5, mkL_5, mkT_6, mkL_6, mkT_7, mkL_7, mkT_8, mkL_8, mkT_9, mkL_9, mkT_10, mkL_10, mkT_11, mkL_11, mkT_12, mkL_12, mkT_13, mkL_13, mkT_14, mkL_14, mkT_15, mkL_15, mkT_16, mkL_16, mkT_17, mkL_17, mkT_18, mkL_18, mkT_19, mkL_19, mkT_20, mkL_20, par_2, par_3, parS_2, parS_3, reduceCtorEq, false_and, exists_false, Int.reduceNeg, Int.reduceAdd, Int.reduceSub, slotOf, decide_eq_true_eq, List.length_map, List.length_range, Bool.not_eq_true', decide_eq_false_iff_not, decide_not, Bool.not_not, ty_i, ty_b, ty_n, ty_s, ty_t, ty_l, ty_d, decide_true, decide_false, Int.reduceLE, Int.reduceLT, and_self, Int.reduceToNat, Int.toNat_natCast, lim_0, lim_1, lim_2, lim_3, lim_4, lim_5, lim_6, lim_7, lim_8, lim_9, lim_10, lim_11, lim_12, lim_13, lim_14, lim_15, lim_16, lim_17, lim_18, lim_19, lim_20, lim_21, lim_22, lim_23, lim_24, nc_0, nc_1, nc_2, nc_3, nc_4, nc_5, nc_6, nc_7, nc_8, nc_9, nc_10, nc_11, nc_12, Int.reduceEq, mkSeq, Option.map_some, Option.bind_some, List.getElem?_nil, or_true, or_false, true_or, false_or, not_true_eq_false, not_false_eq_true])
  refine okx_map (fun i : Int => D.str (sI i)) (by omega) ?_ ?_
  · intro i acc hi hl2
    have := hw i hi
    (try simp only [strI_ok (i := i) ⟨by omega, by omega⟩, hl2, exs_c, exs_n, ex, ev, evs, evB, evIf, evS, evP, okx_bind, okx_ok, okx_exc, okx_lift, okx_asB, okx_if, okx_noX, lift_some, Res.bind_ok, Res.bind_exc, List.map_cons, List.map_nil, List.length_cons, List.length_nil, List.replicate, List.cons_append, List.nil_append, List.getElem?_cons_zero, List.getElem?_cons_succ, List.set_cons_zero, List.set_cons_succ, Nat.reduceSub, Nat.reduceAdd, if_true, Bool.false_eq_true, if_false, Option.some.injEq, exists_eq_left', exists_eq_left, bo_add, bo_sub, bo_p6, bo_p8, bo_p18, bo_p39, co_lt, co_le, co_gt, co_ge, co_eqi, co_nei, co_eqL, co_neL, co_eqT, co_neT, co_eqs, co_nes, co_neS2, beq_self_eq_true, co_isN, co_notN, co_isB, co_notB, co_memT, co_memL, co_nmemT, co_nmemL, bg_lenL, bg_lenT, bg_tupL, bg_tupT, bg_lstL, bg_lstT, bg_intB, bg_intI, bg_max, bg_min, bg_sumL, bg_sumT, bg_allL, bg_sortL, bg_sortT, ixd_l, ixd_t, de_lst, de_tup, tg_nm, tg_2, tg_3, tg_l2, tg_l3, dT_nm, dT_tp, nn_non, nn_int, nn_tup, nn_lst, bg_maxL, bg_maxT, bg_minL, bg_minP, at_0, at_1, at_2, at_3, Tg.slots, wipeR, iterD, items, op_none, op_int, sld_l, sld_t, rev_l, rev_t, D.bl.injEq, D.int.injEq, Bool.not_true, Bool.not_false, Bool.true_eq_false, and_true, true_and, mkT_0, mkL_0, mkT_1, mkL_1, mkT_2, mkL_2, mkT_3, mkL_3, mkT_4, mkL_4, mkT_5, mkL_5, mkT_6, mkL_6, mkT_7, mkL_7, mkT_8, mkL_8, mkT_9, mkL_9, mkT_10, mkL_10, mkT_11, mkL_11, mkT_12, mkL_12, mkT_13, mkL_13, mkT_14, mkL_14, mkT_15, mkL_15, mkT_16, mkL_16, mkT_17, mkL_17, mkT_18, mkL_18, mkT_19, mkL_19, mkT_20, mkL_20, par_2, par_3, parS_2, parS_3, reduceCtorEq, false_and, exists_false, Int.reduceNeg, Int.reduceAdd, Int.reduceSub, slotOf, decide_eq_true_eq, List.length_map, List.length_range, Bool.not_eq_true', decide_eq_false_iff_not, decide_not, Bool.not_not, ty_i, ty_b, ty_n, ty_s, ty_t, ty_l, ty_d, decide_true, decide_false, Int.reduceLE, Int.reduceLT, and_self, Int.reduceToNat, Int.toNat_natCast, lim_0, lim_1, lim_2, lim_3, lim_4, lim_5, lim_6, lim_7, lim_8, lim_9, lim_10, lim_11, lim_12, lim_13, lim_14, lim_15, lim_16, lim_17, lim_18, lim_19, lim_20, lim_21, lim_22, lim_23, lim_24, nc_0, nc_1, nc_2, nc_3, nc_4, nc_5, nc_6, nc_7, nc_8, nc_9, nc_10, nc_11, nc_12, Int.reduceEq, mkSeq, Option.map_some, Option.bind_some, List.getElem?_nil, or_true, or_false, true_or, false_or, not_true_eq_false, not_false_eq_true])
  · cases hws : ws with
    | nil =>
      subst hws
      have hj : methD .join (Str.ofString ",") (.lst []) = some (.str (Str.ofString "")) := rfl
      have hw0 : Str.ofString "-" = wtx [] := rfl
      (try simp only [hj, strI_ok (i := e) ⟨by omega, by omega⟩, b1, hw0, b2, fin, exs_c, exs_n, ex, ev, evs, evB, evIf, evS, evP, okx_bind, okx_ok, okx_exc, okx_lift, okx_asB, okx_if, okx_noX, lift_some, Res.bind_ok, Res.bind_exc, List.map_cons, List.map_nil, List.length_cons, List.length_nil, List.replicate, List.cons_append, List.nil_append, List.getElem?_cons_zero, List.getElem?_cons_succ, List.set_cons_zero, List.set_cons_succ, Nat.reduceSub, Nat.reduceAdd, if_true, Bool.false_eq_true, if_false, Option.some.injEq, exists_eq_left', exists_eq_left, bo_add, bo_sub, bo_p6, bo_p8, bo_p18, bo_p39, co_lt, co_le, co_gt, co_ge, co_eqi, co_nei, co_eqL, co_neL, co_eqT, co_neT, co_eqs, co_nes, co_neS2, beq_self_eq_true, co_isN, co_notN, co_isB, co_notB, co_memT, co_memL, co_nmemT, co_nmemL, bg_lenL, bg_lenT, bg_tupL, bg_tupT, bg_lstL, bg_lstT, bg_intB, bg_intI, bg_max, bg_min, bg_sumL, bg_sumT, bg_allL, bg_sortL, bg_sortT, ixd_l, ixd_t, de_lst, de_tup, tg_nm, tg_2, tg_3, tg_l2, tg_l3, dT_nm, dT_tp, nn_non, nn_int, nn_tup, nn_lst, bg_maxL, bg_maxT, bg_minL, bg_minP, at_0, at_1, at_2, at_3, Tg.slots, wipeR, iterD, items, op_none, op_int, sld_l, sld_t, rev_l, rev_t, D.bl.injEq, D.int.injEq, Bool.not_true, Bool.not_false, Bool.true_eq_false, and_true, true_and, mkT_0, mkL_0, mkT_1, mkL_1, mkT_2, mkL_2, mkT_3, mkL_3, mkT_4, mkL_4, mkT_5, mkL_5, mkT_6, mkL_6, mkT_7, mkL_7, mkT_8, mkL_8, mkT_9, mkL_9, mkT_10, mkL_10, mkT_11, mkL_11, mkT_12, mkL_12, mkT_13, mkL_13, mkT_14, mkL_14, mkT_15, mkL_15, mkT_16, mkL_16, mkT_17, mkL_17, mkT_18, mkL_18, mkT_19, mkL_19, mkT_20, mkL_20, par_2, par_3, parS_2, parS_3, reduceCtorEq, false_and, exists_false, Int.reduceNeg, Int.reduceAdd, Int.reduceSub, slotOf, decide_eq_true_eq, List.length_map, List.length_range, Bool.not_eq_true', decide_eq_false_iff_not, decide_not, Bool.not_not, ty_i, ty_b, ty_n, ty_s, ty_t, ty_l, ty_d, decide_true, decide_false, Int.reduceLE, Int.reduceLT, and_self, Int.reduceToNat, Int.toNat_natCast, lim_0, lim_1, lim_2, lim_3, lim_4, lim_5, lim_6, lim_7, lim_8, lim_9, lim_10, lim_11, lim_12, lim_13, lim_14, lim_15, lim_16, lim_17, lim_18, lim_19, lim_20, lim_21, lim_22, lim_23, lim_24, nc_0, nc_1, nc_2, nc_3, nc_4, nc_5, nc_6, nc_7, nc_8, nc_9, nc_10, nc_11, nc_12, Int.reduceEq, mkSeq, Option.map_some, Option.bind_some, List.getElem?_nil, or_true, or_false, true_or, false_or, not_true_eq_false, not_false_eq_true])
    | cons w0 wt =>
      rw [← hws]
      have hne2 : ws ≠ [] := by rw [hws]; simp
      have hns : (wtx ws == Str.ofString "") = false := by
        rw [beq_eq_false_iff_ne]
        intro q
        have q2 := congrArg tl q
        have e2 : tl (Str.ofString "") = [] := rfl
        unfold wtx wtL at q2
        rw [e2, tl_mk] at q2
        have e1 := spl_join (s := 44) (S := []) pieces_ne (pieces_free (ws := ws))
        rw [q2] at e1
        have e3 : spl [44] 0 [] [] = [[]] := rfl
        rw [e3] at e1
        unfold pieces at e1
        rw [if_neg hne2, hws] at e1
        injection e1 with e4 _
        exact numL_ne _ e4.symm
      (try simp only [join_wtx hw hl hne2, hns, strI_ok (i := e) ⟨by omega, by omega⟩, b1, b2, fin, exs_c, exs_n, ex, ev, evs, evB, evIf, evS, evP, okx_bind, okx_ok, okx_exc, okx_lift, okx_asB, okx_if, okx_noX, lift_some, Res.bind_ok, Res.bind_exc, List.map_cons, List.map_nil, List.length_cons, List.length_nil, List.replicate, List.cons_append, List.nil_append, List.getElem?_cons_zero, List.getElem?_cons_succ, List.set_cons_zero, List.set_cons_succ, Nat.reduceSub, Nat.reduceAdd, if_true, Bool.false_eq_true, if_false, Option.some.injEq, exists_eq_left', exists_eq_left, bo_add, bo_sub, bo_p6, bo_p8, bo_p18, bo_p39, co_lt, co_le, co_gt, co_ge, co_eqi, co_nei, co_eqL, co_neL, co_eqT, co_neT, co_eqs, co_nes, co_neS2, beq_self_eq_true, co_isN, co_notN, co_isB, co_notB, co_memT, co_memL, co_nmemT, co_nmemL, bg_lenL, bg_lenT, bg_tupL, bg_tupT, bg_lstL, bg_lstT, bg_intB, bg_intI, bg_max, bg_min, bg_sumL, bg_sumT, bg_allL, bg_sortL, bg_sortT, ixd_l, ixd_t, de_lst, de_tup, tg_nm, tg_2, tg_3, tg_l2, tg_l3, dT_nm, dT_tp, nn_non, nn_int, nn_tup, nn_lst, bg_maxL, bg_maxT, bg_minL, bg_minP, at_0, at_1, at_2, at_3, Tg.slots, wipeR, iterD, items, op_none, op_int, sld_l, sld_t, rev_l, rev_t, D.bl.injEq, D.int.injEq, Bool.not_true, Bool.not_false, Bool.true_eq_false, and_true, true_and, mkT_0, mkL_0, mkT_1, mkL_1, mkT_2, mkL_2, mkT_3, mkL_3, mkT_4, mkL_4, mkT_5, mkL_5, mkT_6, mkL_6, mkT_7, mkL_7, mkT_8, mkL_8, mkT_9, mkL_9, mkT_10, mkL_10, mkT_11, mkL_11, mkT_12, mkL_12, mkT_13, mkL_13, mkT_14, mkL_14, mkT_15, mkL_15, mkT_16, mkL_16, mkT_17, mkL_17, mkT_18, mkL_18, mkT_19, mkL_19, mkT_20, mkL_20, par_2, par_3, parS_2, parS_3, reduceCtorEq, false_and, exists_false, Int.reduceNeg, Int.reduceAdd, Int.reduceSub, slotOf, decide_eq_true_eq, List.length_map, List.length_range, Bool.not_eq_true', decide_eq_false_iff_not, decide_not, Bool.not_not, ty_i, ty_b, ty_n, ty_s, ty_t, ty_l, ty_d, decide_true, decide_false, Int.reduceLE, Int.reduceLT, and_self, Int.reduceToNat, Int.toNat_natCast, lim_0, lim_1, lim_2, lim_3, lim_4, lim_5, lim_6, lim_7, lim_8, lim_9, lim_10, lim_11, lim_12, lim_13, lim_14, lim_15, lim_16, lim_17, lim_18, lim_19, lim_20, lim_21, lim_22, lim_23, lim_24, nc_0, nc_1, nc_2, nc_3, nc_4, nc_5, nc_6, nc_7, nc_8, nc_9, nc_10, nc_11, nc_12, Int.reduceEq, mkSeq, Option.map_some, Option.bind_some, List.getElem?_nil, or_true, or_false, true_or, false_or, not_true_eq_false, not_false_eq_true])
end
end T
end
section
set_option Elab.async false
set_option linter.all false
set_option maxRecDepth 100000
set_option maxHeartbeats 4000000
namespace T
open PySem L2 Bk
/-! ## stones, found step by step -/
/-- one person: what was before, and the stones, with those that are needed -/
def fill (e w : Int) : Nat → List Int → List Int → List Int × List Int
  | 0, bs, ss => (bs, ss)
  | n + 1, bs, ss => if e + bs.sum < w then fill e w n (bs ++ [e + bs.sum]) (ss ++ [e + bs.sum]) else (bs, ss)
def run (e : Int) : List Int → List Int → List Int → List Int × List Int
  | [], bs, ss => (bs, ss)
  | w :: r, bs, ss => run e r ((fill e w 64 bs ss).1 ++ [w]) (fill e w 64 bs ss).2
def stones (e : Int) (ws : List Int) : List Int := (run e (sortI ws) [] []).2
/-- what stands on the way -/
structure SI (e : Int) (bs ss : List Int) : Prop where
  e1 : 1 ≤ e
  pos : ∀ x ∈ bs, 1 ≤ x
  sp : ∀ x ∈ ss, 1 ≤ x
  two : ((2 ^ ss.length : Nat) : Int) ≤ e + bs.sum
  ok : ∀ x ∈ bs, x ≤ e + lw bs x
  lt : ∀ x ∈ bs, x < e + bs.sum
  asc : ss.Pairwise (· < ·)
  sl : ∀ x ∈ ss, x < e + bs.sum
  s20 : ss.length ≤ 20
  sm : ∀ x ∈ ss, x ≤ 1000000
theorem SI.sum {e : Int} {bs ss : List Int} (h : SI e bs ss) : 0 ≤ bs.sum := sum_nn fun x hx => by have := h.pos x hx; omega
theorem sum_snoc {bs : List Int} {x : Int} : (bs ++ [x]).sum = bs.sum + x := by rw [List.sum_append]; simp
theorem SI.stone {e w : Int} {bs ss : List Int} (h : SI e bs ss) (hw : e + bs.sum < w) (hm : w ≤ 1000000) : SI e (bs ++ [e + bs.sum]) (ss ++ [e + bs.sum]) := by
  have hs := h.sum
  have he := h.e1
  have h2 := h.two
  have hp : ss.length < 20 := by
    cases Nat.lt_or_ge ss.length 20 with
    | inl q => exact q
    | inr q =>
      have := Nat.pow_le_pow_right (show 0 < 2 by decide) q
      omega
  have hb : ∀ x ∈ bs ++ [e + bs.sum], 1 ≤ x := fun x hx => by
    rcases List.mem_append.mp hx with q | q
    · exact h.pos x q
    · rw [List.mem_singleton.mp q]; omega
  refine ⟨he, hb, fun x hx => ?_, ?_, fun x hx => ?_, fun x hx => ?_, ?_, fun x hx => ?_, ?_, fun x hx => ?_⟩
  · rcases List.mem_append.mp hx with q | q
    · exact h.sp x q
    · rw [List.mem_singleton.mp q]; omega
  · rw [List.length_append, List.length_singleton, Nat.pow_succ, sum_snoc]; omega
  · rw [lw_app]
    rcases List.mem_append.mp hx with q | q
    · have := h.ok x q
      have := lw_nn (ws := [e + bs.sum]) (fun y hy => by rw [List.mem_singleton.mp hy]; omega) x
      omega
    · rw [List.mem_singleton.mp q, lw_all h.lt]
      have := lw_nn (ws := [e + bs.sum]) (fun y hy => by rw [List.mem_singleton.mp hy]; omega) (e + bs.sum)
      omega
  · rw [sum_snoc]
    rcases List.mem_append.mp hx with q | q
    · have := h.lt x q; omega
    · rw [List.mem_singleton.mp q]; omega
  · exact List.pairwise_append.mpr ⟨h.asc, by simp, fun a ha b hb => by rw [List.mem_singleton.mp hb]; exact h.sl a ha⟩
  · rw [sum_snoc]
    rcases List.mem_append.mp hx with q | q
    · have := h.sl x q; omega
    · rw [List.mem_singleton.mp q]; omega
  · rw [List.length_append, List.length_singleton]; omega
  · rcases List.mem_append.mp hx with q | q
    · exact h.sm x q
    · rw [List.mem_singleton.mp q]; omega
/-- a person who is not too heavy -/
theorem SI.person {e w : Int} {bs ss : List Int} (h : SI e bs ss) (hw : w ≤ e + bs.sum) (h1 : 1 ≤ w) (hb : ∀ x ∈ bs, x ≤ w) : SI e (bs ++ [w]) ss := by
  have hs := h.sum
  have he := h.e1
  have h2 := h.two
  refine ⟨he, fun x hx => ?_, h.sp, by rw [sum_snoc]; omega, fun x hx => ?_, fun x hx => ?_, h.asc, fun x hx => ?_, h.s20, h.sm⟩
  · rcases List.mem_append.mp hx with q | q
    · exact h.pos x q
    · rw [List.mem_singleton.mp q]; exact h1
  · have hn : ∀ y, 0 ≤ lw [w] y := lw_nn (ws := [w]) fun y hy => by rw [List.mem_singleton.mp hy]; omega
    rw [lw_app]
    have := hn x
    rcases List.mem_append.mp hx with q | q
    · have := h.ok x q
      omega
    · have e2 := List.mem_singleton.mp q
      subst e2
      by_cases hm : x ∈ bs
      · have := h.ok x hm; omega
      · rw [lw_all fun y hy => by
          have := hb y hy
          have : y ≠ x := fun e => hm (e ▸ hy)
          omega]
        omega
  · rw [sum_snoc]
    rcases List.mem_append.mp hx with q | q
    · have := h.lt x q; omega
    · rw [List.mem_singleton.mp q]; omega
  · have := h.sl x hx
    rw [sum_snoc]; omega
theorem fill_ok {e w : Int} (hm : w ≤ 1000000) : ∀ (n : Nat) {bs ss : List Int}, SI e bs ss → 20 ≤ n + ss.length → (∀ x ∈ bs, x ≤ w) → SI e (fill e w n bs ss).1 (fill e w n bs ss).2 ∧ w ≤ e + (fill e w n bs ss).1.sum ∧ (∀ x ∈ (fill e w n bs ss).1, x ≤ w) ∧ (∃ t, (fill e w n bs ss).1 = bs ++ t ∧ (fill e w n bs ss).2 = ss ++ t)
  | 0, bs, ss, h, hn, hb => by
    refine ⟨h, ?_, hb, [], by simp [fill], by simp [fill]⟩
    have := h.two
    have := Nat.pow_le_pow_right (show 0 < 2 by decide) (show 20 ≤ ss.length by omega)
    show w ≤ e + bs.sum
    omega
  | n + 1, bs, ss, h, hn, hb => by
    simp only [fill]
    by_cases q : e + bs.sum < w
    · rw [if_pos q]
      obtain ⟨h1, h2, h3, t, h4, h5⟩ := fill_ok hm n (h.stone q hm) (by rw [List.length_append, List.length_singleton]; omega) fun x hx => by
        rcases List.mem_append.mp hx with r | r
        · exact hb x r
        · rw [List.mem_singleton.mp r]; omega
      exact ⟨h1, h2, h3, [e + bs.sum] ++ t, by rw [h4, List.append_assoc], by rw [h5, List.append_assoc]⟩
    · rw [if_neg q]
      exact ⟨h, (by show w ≤ e + bs.sum; omega), hb, [], by simp, by simp⟩
theorem run_ok {e : Int} : ∀ {r bs ss : List Int}, SI e bs ss → (∀ x ∈ r, 1 ≤ x ∧ x ≤ 1000000) → r.Pairwise (· ≤ ·) → (∀ x ∈ bs, ∀ y ∈ r, x ≤ y) → SI e (run e r bs ss).1 (run e r bs ss).2 ∧ ∃ t, (run e r bs ss).2 = ss ++ t ∧ (run e r bs ss).1.Perm (bs ++ r ++ t)
  | [], bs, ss, h, _, _, _ => ⟨h, [], by simp [run], by simp [run]⟩
  | w :: r, bs, ss, h, hr, hp, hb => by
    simp only [run]
    obtain ⟨w1, w2⟩ := hr w List.mem_cons_self
    obtain ⟨h1, h2, h3, t, h4, h5⟩ := fill_ok w2 64 h (by omega) fun x hx => hb x hx w List.mem_cons_self
    obtain ⟨p1, p2⟩ := List.pairwise_cons.mp hp
    obtain ⟨k1, u, k2, k3⟩ := run_ok (r := r) (h1.person h2 w1 h3) (fun x hx => hr x (List.mem_cons_of_mem _ hx)) p2 fun x hx y hy => by
      rcases List.mem_append.mp hx with q | q
      · have := h3 x q; have := p1 y hy; omega
      · rw [List.mem_singleton.mp q]; exact p1 y hy
    refine ⟨k1, t ++ u, by rw [k2, h5, List.append_assoc], k3.trans ?_⟩
    rw [h4]
    have : (bs ++ t ++ [w] ++ r ++ u).Perm (bs ++ [w] ++ r ++ (t ++ u)) := by
      simp only [List.append_assoc]
      refine List.Perm.append_left bs ?_
      have := List.perm_append_comm (l₁ := t) (l₂ := [w] ++ r)
      have := this.append_right u
      simpa only [List.append_assoc] using this
    simpa only [List.append_assoc, List.singleton_append] using this
theorem SI.start {e : Int} (h : 1 ≤ e) : SI e [] [] := ⟨h, fun x hx => (nomatch hx), fun x hx => (nomatch hx), by simp; exact h, fun x hx => (nomatch hx), fun x hx => (nomatch hx), .nil, fun x hx => (nomatch hx), by simp, fun x hx => (nomatch hx)⟩
theorem sort_mem {ws : List Int} {x : Int} : x ∈ sortI ws ↔ x ∈ ws := (sortI_perm ws).mem_iff
/-- with the stones nobody is stuck -/
theorem stones_spec {e : Int} {ws : List Int} (he : 1 ≤ e) (hw : Ints 1 1000000 ws) : (stones e ws).length ≤ 20 ∧ (stones e ws).Pairwise (· < ·) ∧ Ints 1 1000000 (stones e ws) ∧ free e (ws ++ stones e ws) := by
  obtain ⟨h, t, h2, h3⟩ := run_ok (r := sortI ws) (SI.start he) (fun x hx => hw x (sort_mem.mp hx)) (sortI_pw ws) fun x hx => (nomatch hx)
  refine ⟨h.s20, h.asc, fun x hx => ⟨h.sp x hx, h.sm x hx⟩, fun x hx => ?_⟩
  have hp : (run e (sortI ws) [] []).1.Perm (ws ++ stones e ws) := by
    unfold stones
    rw [h2]
    rw [List.nil_append] at h3
    exact h3.trans ((sortI_perm ws).append_right _)
  rw [← lw_perm hp]
  exact h.ok x (hp.mem_iff.mpr hx)
section
variable {n o B : Nat} {g : List O} {E : X → List O → Prop}
theorem pre_take {l : List Int} {i : Nat} {a : Int} (h : l[i]? = some a) : l.drop i = a :: l.drop (i + 1) := by
  obtain ⟨hi, e⟩ := List.getElem?_eq_some_iff.mp h
  rw [List.drop_eq_getElem_cons hi, e]
theorem run_step {e : Int} {l bs ss : List Int} {i : Nat} {a : Int} (h : l[i]? = some a) : run e (l.drop i) bs ss = run e (l.drop (i + 1)) ((fill e a 64 bs ss).1 ++ [a]) (fill e a 64 bs ss).2 := by
  rw [pre_take h]; rfl
theorem fill_step {e w : Int} {k : Nat} {bs ss : List Int} (h : e + bs.sum < w) : fill e w (k + 1) bs ss = fill e w k (bs ++ [e + bs.sum]) (ss ++ [e + bs.sum]) := by
  simp only [fill]; rw [if_pos h]
theorem fill_end {e w : Int} {k : Nat} {bs ss : List Int} (h : ¬ e + bs.sum < w) : fill e w k bs ss = (bs, ss) := by
  cases k with
  | zero => rfl
  | succ k => simp only [fill]; rw [if_neg h]
end
end T
end
section
set_option Elab.async false
set_option linter.all false
set_option maxRecDepth 100000
set_option maxHeartbeats 4000000
namespace T
open PySem L2 Bk
theorem sort_self {l : List Int} (h : l.Pairwise (· ≤ ·)) : sortI l = l := pw_unique (sortI_perm l) (sortI_pw l) h
theorem dedup_self : ∀ {l : List Int}, l.Pairwise (· < ·) → dedup l = l
  | [], _ => rfl
  | [x], _ => rfl
  | x :: y :: l, h => by
    obtain ⟨h1, h2⟩ := List.pairwise_cons.mp h
    have ih := dedup_self h2
    rw [dedup, ih]
    have := h1 y List.mem_cons_self
    show (if x = y then y :: l else x :: y :: l) = x :: y :: l
    rw [if_neg (by omega)]
theorem asc_le {l : List Int} (h : l.Pairwise (· < ·)) : l.Pairwise (· ≤ ·) := h.imp fun q => Int.le_of_lt q
theorem sset_asc {l : List Int} (h : l.Pairwise (· < ·)) : dedup (sortI l) = l := by rw [sort_self (asc_le h), dedup_self h]
theorem mul_24 : binop .mul (.tup [.int 1000000]) (.int 24) = some (.tup ((List.replicate 24 1000000).map D.int)) := by
  simp only [binop]
  rw [if_pos ⟨by simp, by decide, by simp [LIM]⟩]
  rfl
theorem st_1 : stones 1 [1000000] = (List.range 20).map fun k : Nat => (1 * 2 ^ k : Int) := by decide +kernel
theorem st_2 : stones 1000000 (List.replicate 24 1000000) = [] := by decide +kernel
section
variable {n o B : Nat} {g : List O} {E : X → List O → Prop}
theorem tw_sz {e : Int} {ws : List Int} (he : 1 ≤ e ∧ e ≤ 1000000) (hw : Ints 1 1000000 ws) (hl : ws.length ≤ 1000) : sz (tw e ws) ≤ 250000 ∧ dep (tw e ws) ≤ 60 := by
  have h := szs_ints hw (by decide) (by decide)
  have h2 := deps_ints (ns := ws)
  unfold tw
  constructor
  · (try simp (disch := omega) only [h, sz_lst, sz_tup, szs_cons, szs_nil, szs_app, szs_rev, sz_int, sz_bl, sz_non, dep_lst, dep_tup, deps_cons, deps_nil, deps_app, deps_rev, dep_int, dep_bl, dep_non, dep_str, deps_ints, List.length_append, List.length_cons, List.length_nil, List.length_map, List.length_reverse]); omega
  · (try simp (disch := omega) only [sz_lst, sz_tup, szs_cons, szs_nil, szs_app, szs_rev, sz_int, sz_bl, sz_non, dep_lst, dep_tup, deps_cons, deps_nil, deps_app, deps_rev, dep_int, dep_bl, dep_non, dep_str, deps_ints, List.length_append, List.length_cons, List.length_nil, List.length_map, List.length_reverse]); omega
end
end T
end
section
set_option Elab.async false
set_option linter.all false
set_option maxRecDepth 100000
set_option maxHeartbeats 4000000
namespace T
open PySem L2 Bk TL
abbrev TwP := Int × List Int
def encT (p : TwP) : D := tw p.1 p.2
def txtT (p : TwP) : D := .str (ttx p.1 p.2)
def OkT (p : TwP) : Prop := (1 ≤ p.1 ∧ p.1 ≤ 1000000) ∧ p.2.length ≤ 26 ∧ Ints 1 1000000 p.2
theorem txt_inj {p q : TwP} (hp : OkT p) (hq : OkT q) (h : ttx p.1 p.2 = ttx q.1 q.2) : p = q := by
  have h2 := congrArg tl h
  unfold ttx at h2
  rw [tl_mk, tl_mk] at h2
  obtain ⟨a, b⟩ := ttL_inj (by have := hp.1; omega) (by have := hq.1; omega) (fun x hx => by have := hp.2.2 x hx; omega) (fun x hx => by have := hq.2.2 x hx; omega) h2
  exact Prod.ext a b
theorem eqD_encT {p q : TwP} : eqD (encT p) (encT q) = decide (p = q) := by
  unfold encT tw
  simp only [eqD, eqDs, eqDs_ints, Bool.and_true]
  by_cases h1 : p.1 = q.1
  · by_cases h2 : p.2 = q.2
    · have : p = q := Prod.ext h1 h2
      simp [this]
    · have : ¬ p = q := fun e => h2 (by rw [e])
      simp [this, h2]
  · have : ¬ p = q := fun e => h1 (by rw [e])
    simp [this, h1]
theorem eqk_encT {p : TwP} : eqk (encT p) = true := by
  unfold encT tw
  simp only [Bk.eqk, eqks, eqks_ints, Bool.and_true]
theorem dep_encT {p : TwP} : dep (encT p) ≤ 60 := by
  unfold encT tw
  (try simp (disch := omega) only [sz_lst, sz_tup, szs_cons, szs_nil, szs_app, szs_rev, sz_int, sz_bl, sz_non, dep_lst, dep_tup, deps_cons, deps_nil, deps_app, deps_rev, dep_int, dep_bl, dep_non, dep_str, deps_ints, List.length_append, List.length_cons, List.length_nil, List.length_map, List.length_reverse]); omega
theorem co_encT {p q : TwP} : cmpop .eq (encT p) (encT q) = some (decide (p = q)) := by
  rw [co_eqD ⟨⟨eqk_encT, eqk_encT⟩, dep_encT, dep_encT⟩, eqD_encT]
theorem eqks_bls : ∀ {l : List Bool}, eqks (l.map D.bl) = true
  | [] => rfl
  | b :: l => by simp only [List.map_cons, eqks, Bk.eqk, eqks_bls, Bool.and_true]
theorem deps_bls : ∀ {l : List Bool}, deps (l.map D.bl) = 0
  | [] => rfl
  | b :: l => by simp only [List.map_cons, deps_cons, dep_bl, deps_bls]; rfl
section
variable {n o B : Nat} {g : List O} {E : X → List O → Prop}
theorem law55_ok (ns : List Int) : Okx (callN gl P (n + 9) f_law_54 [.scr ns] []) (fun d _ => d = .bl true) NoX := by
  refine okx_call P_law_54 rfl ?_
  simp only [b_law_54]
  (try simp only [exs_c, exs_n, ex, ev, evs, evB, evIf, evS, evP, okx_bind, okx_ok, okx_exc, okx_lift, okx_asB, okx_if, okx_noX, lift_some, Res.bind_ok, Res.bind_exc, List.map_cons, List.map_nil, List.length_cons, List.length_nil, List.replicate, List.cons_append, List.nil_append, List.getElem?_cons_zero, List.getElem?_cons_succ, List.set_cons_zero, List.set_cons_succ, Nat.reduceSub, Nat.reduceAdd, if_true, Bool.false_eq_true, if_false, Option.some.injEq, exists_eq_left', exists_eq_left, bo_add, bo_sub, bo_p6, bo_p8, bo_p18, bo_p39, co_lt, co_le, co_gt, co_ge, co_eqi, co_nei, co_eqL, co_neL, co_eqT, co_neT, co_eqs, co_nes, co_neS2, beq_self_eq_true, co_isN, co_notN, co_isB, co_notB, co_memT, co_memL, co_nmemT, co_nmemL, bg_lenL, bg_lenT, bg_tupL, bg_tupT, bg_lstL, bg_lstT, bg_intB, bg_intI, bg_max, bg_min, bg_sumL, bg_sumT, bg_allL, bg_sortL, bg_sortT, ixd_l, ixd_t, de_lst, de_tup, tg_nm, tg_2, tg_3, tg_l2, tg_l3, dT_nm, dT_tp, nn_non, nn_int, nn_tup, nn_lst, bg_maxL, bg_maxT, bg_minL, bg_minP, at_0, at_1, at_2, at_3, Tg.slots, wipeR, iterD, items, op_none, op_int, sld_l, sld_t, rev_l, rev_t, D.bl.injEq, D.int.injEq, Bool.not_true, Bool.not_false, Bool.true_eq_false, and_true, true_and, mkT_0, mkL_0, mkT_1, mkL_1, mkT_2, mkL_2, mkT_3, mkL_3, mkT_4, mkL_4, mkT_5, mkL_5, mkT_6, mkL_6, mkT_7, mkL_7, mkT_8, mkL_8, mkT_9, mkL_9, mkT_10, mkL_10, mkT_11, mkL_11, mkT_12, mkL_12, mkT_13, mkL_13, mkT_14, mkL_14, mkT_15, mkL_15, mkT_16, mkL_16, mkT_17, mkL_17, mkT_18, mkL_18, mkT_19, mkL_19, mkT_20, mkL_20, par_2, par_3, parS_2, parS_3, reduceCtorEq, false_and, exists_false, Int.reduceNeg, Int.reduceAdd, Int.reduceSub, slotOf, decide_eq_true_eq, List.length_map, List.length_range, Bool.not_eq_true', decide_eq_false_iff_not, decide_not, Bool.not_not, ty_i, ty_b, ty_n, ty_s, ty_t, ty_l, ty_d, decide_true, decide_false, Int.reduceLE, Int.reduceLT, and_self, Int.reduceToNat, Int.toNat_natCast, lim_0, lim_1, lim_2, lim_3, lim_4, lim_5, lim_6, lim_7, lim_8, lim_9, lim_10, lim_11, lim_12, lim_13, lim_14, lim_15, lim_16, lim_17, lim_18, lim_19, lim_20, lim_21, lim_22, lim_23, lim_24, nc_0, nc_1, nc_2, nc_3, nc_4, nc_5, nc_6, nc_7, nc_8, nc_9, nc_10, nc_11, nc_12, Int.reduceEq, mkSeq, Option.map_some, Option.bind_some, List.getElem?_nil, or_true, or_false, true_or, false_or, not_true_eq_false, not_false_eq_true])
  refine draws2_ok fun g0 h0 => ?_
  obtain ⟨t24, h24⟩ : ∃ l : List Int, l = List.replicate 24 1000000 := ⟨_, rfl⟩
  have b1 : binop .mul (.tup [.int 1000000]) (.int 24) = some (.tup (t24.map D.int)) := by rw [h24]; exact mul_24
  have ht24 : Ints 1 1000000 t24 ∧ t24.length ≤ 26 := by rw [h24]; decide
  (try simp only [b1, exs_c, exs_n, ex, ev, evs, evB, evIf, evS, evP, okx_bind, okx_ok, okx_exc, okx_lift, okx_asB, okx_if, okx_noX, lift_some, Res.bind_ok, Res.bind_exc, List.map_cons, List.map_nil, List.length_cons, List.length_nil, List.replicate, List.cons_append, List.nil_append, List.getElem?_cons_zero, List.getElem?_cons_succ, List.set_cons_zero, List.set_cons_succ, Nat.reduceSub, Nat.reduceAdd, if_true, Bool.false_eq_true, if_false, Option.some.injEq, exists_eq_left', exists_eq_left, bo_add, bo_sub, bo_p6, bo_p8, bo_p18, bo_p39, co_lt, co_le, co_gt, co_ge, co_eqi, co_nei, co_eqL, co_neL, co_eqT, co_neT, co_eqs, co_nes, co_neS2, beq_self_eq_true, co_isN, co_notN, co_isB, co_notB, co_memT, co_memL, co_nmemT, co_nmemL, bg_lenL, bg_lenT, bg_tupL, bg_tupT, bg_lstL, bg_lstT, bg_intB, bg_intI, bg_max, bg_min, bg_sumL, bg_sumT, bg_allL, bg_sortL, bg_sortT, ixd_l, ixd_t, de_lst, de_tup, tg_nm, tg_2, tg_3, tg_l2, tg_l3, dT_nm, dT_tp, nn_non, nn_int, nn_tup, nn_lst, bg_maxL, bg_maxT, bg_minL, bg_minP, at_0, at_1, at_2, at_3, Tg.slots, wipeR, iterD, items, op_none, op_int, sld_l, sld_t, rev_l, rev_t, D.bl.injEq, D.int.injEq, Bool.not_true, Bool.not_false, Bool.true_eq_false, and_true, true_and, mkT_0, mkL_0, mkT_1, mkL_1, mkT_2, mkL_2, mkT_3, mkL_3, mkT_4, mkL_4, mkT_5, mkL_5, mkT_6, mkL_6, mkT_7, mkL_7, mkT_8, mkL_8, mkT_9, mkL_9, mkT_10, mkL_10, mkT_11, mkL_11, mkT_12, mkL_12, mkT_13, mkL_13, mkT_14, mkL_14, mkT_15, mkL_15, mkT_16, mkL_16, mkT_17, mkL_17, mkT_18, mkL_18, mkT_19, mkL_19, mkT_20, mkL_20, par_2, par_3, parS_2, parS_3, reduceCtorEq, false_and, exists_false, Int.reduceNeg, Int.reduceAdd, Int.reduceSub, slotOf, decide_eq_true_eq, List.length_map, List.length_range, Bool.not_eq_true', decide_eq_false_iff_not, decide_not, Bool.not_not, ty_i, ty_b, ty_n, ty_s, ty_t, ty_l, ty_d, decide_true, decide_false, Int.reduceLE, Int.reduceLT, and_self, Int.reduceToNat, Int.toNat_natCast, lim_0, lim_1, lim_2, lim_3, lim_4, lim_5, lim_6, lim_7, lim_8, lim_9, lim_10, lim_11, lim_12, lim_13, lim_14, lim_15, lim_16, lim_17, lim_18, lim_19, lim_20, lim_21, lim_22, lim_23, lim_24, nc_0, nc_1, nc_2, nc_3, nc_4, nc_5, nc_6, nc_7, nc_8, nc_9, nc_10, nc_11, nc_12, Int.reduceEq, mkSeq, Option.map_some, Option.bind_some, List.getElem?_nil, or_true, or_false, true_or, false_or, not_true_eq_false, not_false_eq_true])
  refine okx_for (fun i r g' => DR g' 1 (i * 210) ∧ ∃ s3 L, r = [.fz (.scr ns), .fz (.ref 1), .own (L.map encT), s3, .no, .no, .no, .no, .no] ∧ L.length = 7 + 2 * i ∧ ∀ p ∈ L, OkT p) ⟨by simpa using h0, _, [(1, []), (1000000, t24), (1, [1]), (11, []), (1, [11]), (1, [1, 1]), (1000000, [])], rfl, rfl, ?_⟩ ?_ ?_
  · intro p hp
    simp only [List.mem_cons, List.not_mem_nil, or_false] at hp
    rcases hp with rfl | rfl | rfl | rfl | rfl | rfl | rfl
    · exact ⟨by decide, by decide, by decide⟩
    · exact ⟨⟨by show (1:Int) ≤ 1000000; decide, Int.le_refl _⟩, ht24.2, ht24.1⟩
    · exact ⟨by decide, by decide, by decide⟩
    · exact ⟨by decide, by decide, by decide⟩
    · exact ⟨by decide, by decide, by decide⟩
    · exact ⟨by decide, by decide, by decide⟩
    · exact ⟨by decide, by decide, by decide⟩
  · rintro i a r g1 hi ⟨h1, s3, L, rfl, hl, hL⟩
    have hi2 : i < 10 := by simpa using (List.getElem?_eq_some_iff.mp hi).1
    have hlim : L.length < LIM := by simp only [LIM]; omega
    have hlim2 : L.length + 1 < LIM := by simp only [LIM]; omega
    (try simp only [exs_c, exs_n, ex, ev, evs, evB, evIf, evS, evP, okx_bind, okx_ok, okx_exc, okx_lift, okx_asB, okx_if, okx_noX, lift_some, Res.bind_ok, Res.bind_exc, List.map_cons, List.map_nil, List.length_cons, List.length_nil, List.replicate, List.cons_append, List.nil_append, List.getElem?_cons_zero, List.getElem?_cons_succ, List.set_cons_zero, List.set_cons_succ, Nat.reduceSub, Nat.reduceAdd, if_true, Bool.false_eq_true, if_false, Option.some.injEq, exists_eq_left', exists_eq_left, bo_add, bo_sub, bo_p6, bo_p8, bo_p18, bo_p39, co_lt, co_le, co_gt, co_ge, co_eqi, co_nei, co_eqL, co_neL, co_eqT, co_neT, co_eqs, co_nes, co_neS2, beq_self_eq_true, co_isN, co_notN, co_isB, co_notB, co_memT, co_memL, co_nmemT, co_nmemL, bg_lenL, bg_lenT, bg_tupL, bg_tupT, bg_lstL, bg_lstT, bg_intB, bg_intI, bg_max, bg_min, bg_sumL, bg_sumT, bg_allL, bg_sortL, bg_sortT, ixd_l, ixd_t, de_lst, de_tup, tg_nm, tg_2, tg_3, tg_l2, tg_l3, dT_nm, dT_tp, nn_non, nn_int, nn_tup, nn_lst, bg_maxL, bg_maxT, bg_minL, bg_minP, at_0, at_1, at_2, at_3, Tg.slots, wipeR, iterD, items, op_none, op_int, sld_l, sld_t, rev_l, rev_t, D.bl.injEq, D.int.injEq, Bool.not_true, Bool.not_false, Bool.true_eq_false, and_true, true_and, mkT_0, mkL_0, mkT_1, mkL_1, mkT_2, mkL_2, mkT_3, mkL_3, mkT_4, mkL_4, mkT_5, mkL_5, mkT_6, mkL_6, mkT_7, mkL_7, mkT_8, mkL_8, mkT_9, mkL_9, mkT_10, mkL_10, mkT_11, mkL_11, mkT_12, mkL_12, mkT_13, mkL_13, mkT_14, mkL_14, mkT_15, mkL_15, mkT_16, mkL_16, mkT_17, mkL_17, mkT_18, mkL_18, mkT_19, mkL_19, mkT_20, mkL_20, par_2, par_3, parS_2, parS_3, reduceCtorEq, false_and, exists_false, Int.reduceNeg, Int.reduceAdd, Int.reduceSub, slotOf, decide_eq_true_eq, List.length_map, List.length_range, Bool.not_eq_true', decide_eq_false_iff_not, decide_not, Bool.not_not, ty_i, ty_b, ty_n, ty_s, ty_t, ty_l, ty_d, decide_true, decide_false, Int.reduceLE, Int.reduceLT, and_self, Int.reduceToNat, Int.toNat_natCast, lim_0, lim_1, lim_2, lim_3, lim_4, lim_5, lim_6, lim_7, lim_8, lim_9, lim_10, lim_11, lim_12, lim_13, lim_14, lim_15, lim_16, lim_17, lim_18, lim_19, lim_20, lim_21, lim_22, lim_23, lim_24, nc_0, nc_1, nc_2, nc_3, nc_4, nc_5, nc_6, nc_7, nc_8, nc_9, nc_10, nc_11, nc_12, Int.reduceEq, mkSeq, Option.map_some, Option.bind_some, List.getElem?_nil, or_true, or_false, true_or, false_or, not_true_eq_false, not_false_eq_true])
    refine tower5_ok h1 (by omega) fun e ws g2 e1 e2 e3 e4 h2 => ?_
    (try simp only [hlim, exs_c, exs_n, ex, ev, evs, evB, evIf, evS, evP, okx_bind, okx_ok, okx_exc, okx_lift, okx_asB, okx_if, okx_noX, lift_some, Res.bind_ok, Res.bind_exc, List.map_cons, List.map_nil, List.length_cons, List.length_nil, List.replicate, List.cons_append, List.nil_append, List.getElem?_cons_zero, List.getElem?_cons_succ, List.set_cons_zero, List.set_cons_succ, Nat.reduceSub, Nat.reduceAdd, if_true, Bool.false_eq_true, if_false, Option.some.injEq, exists_eq_left', exists_eq_left, bo_add, bo_sub, bo_p6, bo_p8, bo_p18, bo_p39, co_lt, co_le, co_gt, co_ge, co_eqi, co_nei, co_eqL, co_neL, co_eqT, co_neT, co_eqs, co_nes, co_neS2, beq_self_eq_true, co_isN, co_notN, co_isB, co_notB, co_memT, co_memL, co_nmemT, co_nmemL, bg_lenL, bg_lenT, bg_tupL, bg_tupT, bg_lstL, bg_lstT, bg_intB, bg_intI, bg_max, bg_min, bg_sumL, bg_sumT, bg_allL, bg_sortL, bg_sortT, ixd_l, ixd_t, de_lst, de_tup, tg_nm, tg_2, tg_3, tg_l2, tg_l3, dT_nm, dT_tp, nn_non, nn_int, nn_tup, nn_lst, bg_maxL, bg_maxT, bg_minL, bg_minP, at_0, at_1, at_2, at_3, Tg.slots, wipeR, iterD, items, op_none, op_int, sld_l, sld_t, rev_l, rev_t, D.bl.injEq, D.int.injEq, Bool.not_true, Bool.not_false, Bool.true_eq_false, and_true, true_and, mkT_0, mkL_0, mkT_1, mkL_1, mkT_2, mkL_2, mkT_3, mkL_3, mkT_4, mkL_4, mkT_5, mkL_5, mkT_6, mkL_6, mkT_7, mkL_7, mkT_8, mkL_8, mkT_9, mkL_9, mkT_10, mkL_10, mkT_11, mkL_11, mkT_12, mkL_12, mkT_13, mkL_13, mkT_14, mkL_14, mkT_15, mkL_15, mkT_16, mkL_16, mkT_17, mkL_17, mkT_18, mkL_18, mkT_19, mkL_19, mkT_20, mkL_20, par_2, par_3, parS_2, parS_3, reduceCtorEq, false_and, exists_false, Int.reduceNeg, Int.reduceAdd, Int.reduceSub, slotOf, decide_eq_true_eq, List.length_map, List.length_range, Bool.not_eq_true', decide_eq_false_iff_not, decide_not, Bool.not_not, ty_i, ty_b, ty_n, ty_s, ty_t, ty_l, ty_d, decide_true, decide_false, Int.reduceLE, Int.reduceLT, and_self, Int.reduceToNat, Int.toNat_natCast, lim_0, lim_1, lim_2, lim_3, lim_4, lim_5, lim_6, lim_7, lim_8, lim_9, lim_10, lim_11, lim_12, lim_13, lim_14, lim_15, lim_16, lim_17, lim_18, lim_19, lim_20, lim_21, lim_22, lim_23, lim_24, nc_0, nc_1, nc_2, nc_3, nc_4, nc_5, nc_6, nc_7, nc_8, nc_9, nc_10, nc_11, nc_12, Int.reduceEq, mkSeq, Option.map_some, Option.bind_some, List.getElem?_nil, or_true, or_false, true_or, false_or, not_true_eq_false, not_false_eq_true])
    refine next2_ok h2 (by omega) (by omega) (by omega) fun v g3 a3 b3 h3 => ?_
    (try simp only [exs_c, exs_n, ex, ev, evs, evB, evIf, evS, evP, okx_bind, okx_ok, okx_exc, okx_lift, okx_asB, okx_if, okx_noX, lift_some, Res.bind_ok, Res.bind_exc, List.map_cons, List.map_nil, List.length_cons, List.length_nil, List.replicate, List.cons_append, List.nil_append, List.getElem?_cons_zero, List.getElem?_cons_succ, List.set_cons_zero, List.set_cons_succ, Nat.reduceSub, Nat.reduceAdd, if_true, Bool.false_eq_true, if_false, Option.some.injEq, exists_eq_left', exists_eq_left, bo_add, bo_sub, bo_p6, bo_p8, bo_p18, bo_p39, co_lt, co_le, co_gt, co_ge, co_eqi, co_nei, co_eqL, co_neL, co_eqT, co_neT, co_eqs, co_nes, co_neS2, beq_self_eq_true, co_isN, co_notN, co_isB, co_notB, co_memT, co_memL, co_nmemT, co_nmemL, bg_lenL, bg_lenT, bg_tupL, bg_tupT, bg_lstL, bg_lstT, bg_intB, bg_intI, bg_max, bg_min, bg_sumL, bg_sumT, bg_allL, bg_sortL, bg_sortT, ixd_l, ixd_t, de_lst, de_tup, tg_nm, tg_2, tg_3, tg_l2, tg_l3, dT_nm, dT_tp, nn_non, nn_int, nn_tup, nn_lst, bg_maxL, bg_maxT, bg_minL, bg_minP, at_0, at_1, at_2, at_3, Tg.slots, wipeR, iterD, items, op_none, op_int, sld_l, sld_t, rev_l, rev_t, D.bl.injEq, D.int.injEq, Bool.not_true, Bool.not_false, Bool.true_eq_false, and_true, true_and, mkT_0, mkL_0, mkT_1, mkL_1, mkT_2, mkL_2, mkT_3, mkL_3, mkT_4, mkL_4, mkT_5, mkL_5, mkT_6, mkL_6, mkT_7, mkL_7, mkT_8, mkL_8, mkT_9, mkL_9, mkT_10, mkL_10, mkT_11, mkL_11, mkT_12, mkL_12, mkT_13, mkL_13, mkT_14, mkL_14, mkT_15, mkL_15, mkT_16, mkL_16, mkT_17, mkL_17, mkT_18, mkL_18, mkT_19, mkL_19, mkT_20, mkL_20, par_2, par_3, parS_2, parS_3, reduceCtorEq, false_and, exists_false, Int.reduceNeg, Int.reduceAdd, Int.reduceSub, slotOf, decide_eq_true_eq, List.length_map, List.length_range, Bool.not_eq_true', decide_eq_false_iff_not, decide_not, Bool.not_not, ty_i, ty_b, ty_n, ty_s, ty_t, ty_l, ty_d, decide_true, decide_false, Int.reduceLE, Int.reduceLT, and_self, Int.reduceToNat, Int.toNat_natCast, lim_0, lim_1, lim_2, lim_3, lim_4, lim_5, lim_6, lim_7, lim_8, lim_9, lim_10, lim_11, lim_12, lim_13, lim_14, lim_15, lim_16, lim_17, lim_18, lim_19, lim_20, lim_21, lim_22, lim_23, lim_24, nc_0, nc_1, nc_2, nc_3, nc_4, nc_5, nc_6, nc_7, nc_8, nc_9, nc_10, nc_11, nc_12, Int.reduceEq, mkSeq, Option.map_some, Option.bind_some, List.getElem?_nil, or_true, or_false, true_or, false_or, not_true_eq_false, not_false_eq_true])
    refine weights2_ok h3 (by omega) fun vs g4 v1 v2 h4 => ?_
    (try simp only [List.length_append, hlim2, exs_c, exs_n, ex, ev, evs, evB, evIf, evS, evP, okx_bind, okx_ok, okx_exc, okx_lift, okx_asB, okx_if, okx_noX, lift_some, Res.bind_ok, Res.bind_exc, List.map_cons, List.map_nil, List.length_cons, List.length_nil, List.replicate, List.cons_append, List.nil_append, List.getElem?_cons_zero, List.getElem?_cons_succ, List.set_cons_zero, List.set_cons_succ, Nat.reduceSub, Nat.reduceAdd, if_true, Bool.false_eq_true, if_false, Option.some.injEq, exists_eq_left', exists_eq_left, bo_add, bo_sub, bo_p6, bo_p8, bo_p18, bo_p39, co_lt, co_le, co_gt, co_ge, co_eqi, co_nei, co_eqL, co_neL, co_eqT, co_neT, co_eqs, co_nes, co_neS2, beq_self_eq_true, co_isN, co_notN, co_isB, co_notB, co_memT, co_memL, co_nmemT, co_nmemL, bg_lenL, bg_lenT, bg_tupL, bg_tupT, bg_lstL, bg_lstT, bg_intB, bg_intI, bg_max, bg_min, bg_sumL, bg_sumT, bg_allL, bg_sortL, bg_sortT, ixd_l, ixd_t, de_lst, de_tup, tg_nm, tg_2, tg_3, tg_l2, tg_l3, dT_nm, dT_tp, nn_non, nn_int, nn_tup, nn_lst, bg_maxL, bg_maxT, bg_minL, bg_minP, at_0, at_1, at_2, at_3, Tg.slots, wipeR, iterD, items, op_none, op_int, sld_l, sld_t, rev_l, rev_t, D.bl.injEq, D.int.injEq, Bool.not_true, Bool.not_false, Bool.true_eq_false, and_true, true_and, mkT_0, mkL_0, mkT_1, mkL_1, mkT_2, mkL_2, mkT_3, mkL_3, mkT_4, mkL_4, mkT_5, mkL_5, mkT_6, mkL_6, mkT_7, mkL_7, mkT_8, mkL_8, mkT_9, mkL_9, mkT_10, mkL_10, mkT_11, mkL_11, mkT_12, mkL_12, mkT_13, mkL_13, mkT_14, mkL_14, mkT_15, mkL_15, mkT_16, mkL_16, mkT_17, mkL_17, mkT_18, mkL_18, mkT_19, mkL_19, mkT_20, mkL_20, par_2, par_3, parS_2, parS_3, reduceCtorEq, false_and, exists_false, Int.reduceNeg, Int.reduceAdd, Int.reduceSub, slotOf, decide_eq_true_eq, List.length_map, List.length_range, Bool.not_eq_true', decide_eq_false_iff_not, decide_not, Bool.not_not, ty_i, ty_b, ty_n, ty_s, ty_t, ty_l, ty_d, decide_true, decide_false, Int.reduceLE, Int.reduceLT, and_self, Int.reduceToNat, Int.toNat_natCast, lim_0, lim_1, lim_2, lim_3, lim_4, lim_5, lim_6, lim_7, lim_8, lim_9, lim_10, lim_11, lim_12, lim_13, lim_14, lim_15, lim_16, lim_17, lim_18, lim_19, lim_20, lim_21, lim_22, lim_23, lim_24, nc_0, nc_1, nc_2, nc_3, nc_4, nc_5, nc_6, nc_7, nc_8, nc_9, nc_10, nc_11, nc_12, Int.reduceEq, mkSeq, Option.map_some, Option.bind_some, List.getElem?_nil, or_true, or_false, true_or, false_or, not_true_eq_false, not_false_eq_true])
    refine ⟨h4.le (by omega), _, L ++ [(e, ws), (1 + v, vs)], by rw [List.map_append, List.append_assoc]; rfl, by rw [List.length_append]; simp; omega, fun p hp => ?_⟩
    rcases List.mem_append.mp hp with q | q
    · exact hL p q
    · simp only [List.mem_cons, List.not_mem_nil, or_false] at q
      rcases q with rfl | rfl
      · exact ⟨⟨e1, e2⟩, by simp only; omega, e4⟩
      · exact ⟨⟨by simp only; omega, by simp only; omega⟩, v1, v2⟩
  · rintro r g1 ⟨h1, s3, L, rfl, hl, hL⟩
    rw [List.length_range] at hl
    (try simp only [exs_c, exs_n, ex, ev, evs, evB, evIf, evS, evP, okx_bind, okx_ok, okx_exc, okx_lift, okx_asB, okx_if, okx_noX, lift_some, Res.bind_ok, Res.bind_exc, List.map_cons, List.map_nil, List.length_cons, List.length_nil, List.replicate, List.cons_append, List.nil_append, List.getElem?_cons_zero, List.getElem?_cons_succ, List.set_cons_zero, List.set_cons_succ, Nat.reduceSub, Nat.reduceAdd, if_true, Bool.false_eq_true, if_false, Option.some.injEq, exists_eq_left', exists_eq_left, bo_add, bo_sub, bo_p6, bo_p8, bo_p18, bo_p39, co_lt, co_le, co_gt, co_ge, co_eqi, co_nei, co_eqL, co_neL, co_eqT, co_neT, co_eqs, co_nes, co_neS2, beq_self_eq_true, co_isN, co_notN, co_isB, co_notB, co_memT, co_memL, co_nmemT, co_nmemL, bg_lenL, bg_lenT, bg_tupL, bg_tupT, bg_lstL, bg_lstT, bg_intB, bg_intI, bg_max, bg_min, bg_sumL, bg_sumT, bg_allL, bg_sortL, bg_sortT, ixd_l, ixd_t, de_lst, de_tup, tg_nm, tg_2, tg_3, tg_l2, tg_l3, dT_nm, dT_tp, nn_non, nn_int, nn_tup, nn_lst, bg_maxL, bg_maxT, bg_minL, bg_minP, at_0, at_1, at_2, at_3, Tg.slots, wipeR, iterD, items, op_none, op_int, sld_l, sld_t, rev_l, rev_t, D.bl.injEq, D.int.injEq, Bool.not_true, Bool.not_false, Bool.true_eq_false, and_true, true_and, mkT_0, mkL_0, mkT_1, mkL_1, mkT_2, mkL_2, mkT_3, mkL_3, mkT_4, mkL_4, mkT_5, mkL_5, mkT_6, mkL_6, mkT_7, mkL_7, mkT_8, mkL_8, mkT_9, mkL_9, mkT_10, mkL_10, mkT_11, mkL_11, mkT_12, mkL_12, mkT_13, mkL_13, mkT_14, mkL_14, mkT_15, mkL_15, mkT_16, mkL_16, mkT_17, mkL_17, mkT_18, mkL_18, mkT_19, mkL_19, mkT_20, mkL_20, par_2, par_3, parS_2, parS_3, reduceCtorEq, false_and, exists_false, Int.reduceNeg, Int.reduceAdd, Int.reduceSub, slotOf, decide_eq_true_eq, List.length_map, List.length_range, Bool.not_eq_true', decide_eq_false_iff_not, decide_not, Bool.not_not, ty_i, ty_b, ty_n, ty_s, ty_t, ty_l, ty_d, decide_true, decide_false, Int.reduceLE, Int.reduceLT, and_self, Int.reduceToNat, Int.toNat_natCast, lim_0, lim_1, lim_2, lim_3, lim_4, lim_5, lim_6, lim_7, lim_8, lim_9, lim_10, lim_11, lim_12, lim_13, lim_14, lim_15, lim_16, lim_17, lim_18, lim_19, lim_20, lim_21, lim_22, lim_23, lim_24, nc_0, nc_1, nc_2, nc_3, nc_4, nc_5, nc_6, nc_7, nc_8, nc_9, nc_10, nc_11, nc_12, Int.reduceEq, mkSeq, Option.map_some, Option.bind_some, List.getElem?_nil, or_true, or_false, true_or, false_or, not_true_eq_false, not_false_eq_true])
    refine okx_for (fun i r g' => g' = g1 ∧ ∃ s5 s6 s7, r = [.fz (.scr ns), .fz (.ref 1), .fz (.lst (L.map encT)), s3, .own ((L.take i).map txtT), s5, s6, s7, .no]) ⟨rfl, _, _, _, rfl⟩ ?_ ?_
    · rintro i p r g2 hi ⟨rfl, s5, s6, s7, rfl⟩
      obtain ⟨p1, p2, p3⟩ := hL p (List.mem_of_getElem? hi)
      have hil := (List.getElem?_eq_some_iff.mp hi).1
      have hrt := bg_repr (g := g2) (tw_sz p1 p3 (by omega))
      have htt := ttext_ok (n := n + 6) (g := g2) p1 p3 (by omega)
      have hlt := ltext_ok (n := n + 7) (g := g2) p1 p3 (by omega)
      have hlim : ((L.take i).map txtT).length < LIM := by simp only [LIM, List.length_map, List.length_take]; omega
      rw [List.length_map] at hlim
      have het : encT p = tw p.1 p.2 := rfl
      (try simp only [het, hrt, htt, hlt, hlim, decide_true, exs_c, exs_n, ex, ev, evs, evB, evIf, evS, evP, okx_bind, okx_ok, okx_exc, okx_lift, okx_asB, okx_if, okx_noX, lift_some, Res.bind_ok, Res.bind_exc, List.map_cons, List.map_nil, List.length_cons, List.length_nil, List.replicate, List.cons_append, List.nil_append, List.getElem?_cons_zero, List.getElem?_cons_succ, List.set_cons_zero, List.set_cons_succ, Nat.reduceSub, Nat.reduceAdd, if_true, Bool.false_eq_true, if_false, Option.some.injEq, exists_eq_left', exists_eq_left, bo_add, bo_sub, bo_p6, bo_p8, bo_p18, bo_p39, co_lt, co_le, co_gt, co_ge, co_eqi, co_nei, co_eqL, co_neL, co_eqT, co_neT, co_eqs, co_nes, co_neS2, beq_self_eq_true, co_isN, co_notN, co_isB, co_notB, co_memT, co_memL, co_nmemT, co_nmemL, bg_lenL, bg_lenT, bg_tupL, bg_tupT, bg_lstL, bg_lstT, bg_intB, bg_intI, bg_max, bg_min, bg_sumL, bg_sumT, bg_allL, bg_sortL, bg_sortT, ixd_l, ixd_t, de_lst, de_tup, tg_nm, tg_2, tg_3, tg_l2, tg_l3, dT_nm, dT_tp, nn_non, nn_int, nn_tup, nn_lst, bg_maxL, bg_maxT, bg_minL, bg_minP, at_0, at_1, at_2, at_3, Tg.slots, wipeR, iterD, items, op_none, op_int, sld_l, sld_t, rev_l, rev_t, D.bl.injEq, D.int.injEq, Bool.not_true, Bool.not_false, Bool.true_eq_false, and_true, true_and, mkT_0, mkL_0, mkT_1, mkL_1, mkT_2, mkL_2, mkT_3, mkL_3, mkT_4, mkL_4, mkT_5, mkL_5, mkT_6, mkL_6, mkT_7, mkL_7, mkT_8, mkL_8, mkT_9, mkL_9, mkT_10, mkL_10, mkT_11, mkL_11, mkT_12, mkL_12, mkT_13, mkL_13, mkT_14, mkL_14, mkT_15, mkL_15, mkT_16, mkL_16, mkT_17, mkL_17, mkT_18, mkL_18, mkT_19, mkL_19, mkT_20, mkL_20, par_2, par_3, parS_2, parS_3, reduceCtorEq, false_and, exists_false, Int.reduceNeg, Int.reduceAdd, Int.reduceSub, slotOf, decide_eq_true_eq, List.length_map, List.length_range, Bool.not_eq_true', decide_eq_false_iff_not, decide_not, Bool.not_not, ty_i, ty_b, ty_n, ty_s, ty_t, ty_l, ty_d, decide_true, decide_false, Int.reduceLE, Int.reduceLT, and_self, Int.reduceToNat, Int.toNat_natCast, lim_0, lim_1, lim_2, lim_3, lim_4, lim_5, lim_6, lim_7, lim_8, lim_9, lim_10, lim_11, lim_12, lim_13, lim_14, lim_15, lim_16, lim_17, lim_18, lim_19, lim_20, lim_21, lim_22, lim_23, lim_24, nc_0, nc_1, nc_2, nc_3, nc_4, nc_5, nc_6, nc_7, nc_8, nc_9, nc_10, nc_11, nc_12, Int.reduceEq, mkSeq, Option.map_some, Option.bind_some, List.getElem?_nil, or_true, or_false, true_or, false_or, not_true_eq_false, not_false_eq_true])
      have e9 : (L.take (i + 1)).map txtT = (L.take i).map txtT ++ [D.str (ttx p.1 p.2)] := by rw [List.take_succ, hi, List.map_append]; rfl
      rw [e9]
      exact ⟨_, _, _, rfl⟩
    · rintro r g2 ⟨rfl, s5, s6, s7, rfl⟩
      rw [List.take_length]
      (try simp only [exs_c, exs_n, ex, ev, evs, evB, evIf, evS, evP, okx_bind, okx_ok, okx_exc, okx_lift, okx_asB, okx_if, okx_noX, lift_some, Res.bind_ok, Res.bind_exc, List.map_cons, List.map_nil, List.length_cons, List.length_nil, List.replicate, List.cons_append, List.nil_append, List.getElem?_cons_zero, List.getElem?_cons_succ, List.set_cons_zero, List.set_cons_succ, Nat.reduceSub, Nat.reduceAdd, if_true, Bool.false_eq_true, if_false, Option.some.injEq, exists_eq_left', exists_eq_left, bo_add, bo_sub, bo_p6, bo_p8, bo_p18, bo_p39, co_lt, co_le, co_gt, co_ge, co_eqi, co_nei, co_eqL, co_neL, co_eqT, co_neT, co_eqs, co_nes, co_neS2, beq_self_eq_true, co_isN, co_notN, co_isB, co_notB, co_memT, co_memL, co_nmemT, co_nmemL, bg_lenL, bg_lenT, bg_tupL, bg_tupT, bg_lstL, bg_lstT, bg_intB, bg_intI, bg_max, bg_min, bg_sumL, bg_sumT, bg_allL, bg_sortL, bg_sortT, ixd_l, ixd_t, de_lst, de_tup, tg_nm, tg_2, tg_3, tg_l2, tg_l3, dT_nm, dT_tp, nn_non, nn_int, nn_tup, nn_lst, bg_maxL, bg_maxT, bg_minL, bg_minP, at_0, at_1, at_2, at_3, Tg.slots, wipeR, iterD, items, op_none, op_int, sld_l, sld_t, rev_l, rev_t, D.bl.injEq, D.int.injEq, Bool.not_true, Bool.not_false, Bool.true_eq_false, and_true, true_and, mkT_0, mkL_0, mkT_1, mkL_1, mkT_2, mkL_2, mkT_3, mkL_3, mkT_4, mkL_4, mkT_5, mkL_5, mkT_6, mkL_6, mkT_7, mkL_7, mkT_8, mkL_8, mkT_9, mkL_9, mkT_10, mkL_10, mkT_11, mkL_11, mkT_12, mkL_12, mkT_13, mkL_13, mkT_14, mkL_14, mkT_15, mkL_15, mkT_16, mkL_16, mkT_17, mkL_17, mkT_18, mkL_18, mkT_19, mkL_19, mkT_20, mkL_20, par_2, par_3, parS_2, parS_3, reduceCtorEq, false_and, exists_false, Int.reduceNeg, Int.reduceAdd, Int.reduceSub, slotOf, decide_eq_true_eq, List.length_map, List.length_range, Bool.not_eq_true', decide_eq_false_iff_not, decide_not, Bool.not_not, ty_i, ty_b, ty_n, ty_s, ty_t, ty_l, ty_d, decide_true, decide_false, Int.reduceLE, Int.reduceLT, and_self, Int.reduceToNat, Int.toNat_natCast, lim_0, lim_1, lim_2, lim_3, lim_4, lim_5, lim_6, lim_7, lim_8, lim_9, lim_10, lim_11, lim_12, lim_13, lim_14, lim_15, lim_16, lim_17, lim_18, lim_19, lim_20, lim_21, lim_22, lim_23, lim_24, nc_0, nc_1, nc_2, nc_3, nc_4, nc_5, nc_6, nc_7, nc_8, nc_9, nc_10, nc_11, nc_12, Int.reduceEq, mkSeq, Option.map_some, Option.bind_some, List.getElem?_nil, or_true, or_false, true_or, false_or, not_true_eq_false, not_false_eq_true])
      have hzip : (L.map txtT).zip (L.map encT) = L.map fun p => (txtT p, encT p) := List.zip_map'
      rw [hzip, List.map_map]
      refine okx_for (enc := fun p => .tup [txtT p, encT p]) (fun i r g' => g' = g2 ∧ ∃ s5 s6, r = [.fz (.scr ns), .fz (.ref 1), .fz (.lst (L.map encT)), s3, .fz (.lst (L.map txtT)), s5, s6, s7, .no]) ⟨rfl, _, _, rfl⟩ ?_ ?_
      · rintro i p r g3 hi ⟨rfl, s5, s6, rfl⟩
        have hpm := List.mem_of_getElem? hi
        (try simp only [exs_c, exs_n, ex, ev, evs, evB, evIf, evS, evP, okx_bind, okx_ok, okx_exc, okx_lift, okx_asB, okx_if, okx_noX, lift_some, Res.bind_ok, Res.bind_exc, List.map_cons, List.map_nil, List.length_cons, List.length_nil, List.replicate, List.cons_append, List.nil_append, List.getElem?_cons_zero, List.getElem?_cons_succ, List.set_cons_zero, List.set_cons_succ, Nat.reduceSub, Nat.reduceAdd, if_true, Bool.false_eq_true, if_false, Option.some.injEq, exists_eq_left', exists_eq_left, bo_add, bo_sub, bo_p6, bo_p8, bo_p18, bo_p39, co_lt, co_le, co_gt, co_ge, co_eqi, co_nei, co_eqL, co_neL, co_eqT, co_neT, co_eqs, co_nes, co_neS2, beq_self_eq_true, co_isN, co_notN, co_isB, co_notB, co_memT, co_memL, co_nmemT, co_nmemL, bg_lenL, bg_lenT, bg_tupL, bg_tupT, bg_lstL, bg_lstT, bg_intB, bg_intI, bg_max, bg_min, bg_sumL, bg_sumT, bg_allL, bg_sortL, bg_sortT, ixd_l, ixd_t, de_lst, de_tup, tg_nm, tg_2, tg_3, tg_l2, tg_l3, dT_nm, dT_tp, nn_non, nn_int, nn_tup, nn_lst, bg_maxL, bg_maxT, bg_minL, bg_minP, at_0, at_1, at_2, at_3, Tg.slots, wipeR, iterD, items, op_none, op_int, sld_l, sld_t, rev_l, rev_t, D.bl.injEq, D.int.injEq, Bool.not_true, Bool.not_false, Bool.true_eq_false, and_true, true_and, mkT_0, mkL_0, mkT_1, mkL_1, mkT_2, mkL_2, mkT_3, mkL_3, mkT_4, mkL_4, mkT_5, mkL_5, mkT_6, mkL_6, mkT_7, mkL_7, mkT_8, mkL_8, mkT_9, mkL_9, mkT_10, mkL_10, mkT_11, mkL_11, mkT_12, mkL_12, mkT_13, mkL_13, mkT_14, mkL_14, mkT_15, mkL_15, mkT_16, mkL_16, mkT_17, mkL_17, mkT_18, mkL_18, mkT_19, mkL_19, mkT_20, mkL_20, par_2, par_3, parS_2, parS_3, reduceCtorEq, false_and, exists_false, Int.reduceNeg, Int.reduceAdd, Int.reduceSub, slotOf, decide_eq_true_eq, List.length_map, List.length_range, Bool.not_eq_true', decide_eq_false_iff_not, decide_not, Bool.not_not, ty_i, ty_b, ty_n, ty_s, ty_t, ty_l, ty_d, decide_true, decide_false, Int.reduceLE, Int.reduceLT, and_self, Int.reduceToNat, Int.toNat_natCast, lim_0, lim_1, lim_2, lim_3, lim_4, lim_5, lim_6, lim_7, lim_8, lim_9, lim_10, lim_11, lim_12, lim_13, lim_14, lim_15, lim_16, lim_17, lim_18, lim_19, lim_20, lim_21, lim_22, lim_23, lim_24, nc_0, nc_1, nc_2, nc_3, nc_4, nc_5, nc_6, nc_7, nc_8, nc_9, nc_10, nc_11, nc_12, Int.reduceEq, mkSeq, Option.map_some, Option.bind_some, List.getElem?_nil, or_true, or_false, true_or, false_or, not_true_eq_false, not_false_eq_true])
        refine okx_map (fun q : TwP => D.bl (decide (q = p))) (by omega) ?_ ?_
        · intro q acc hq hl2
          have e1 : cmpop .eq (txtT q) (txtT p) = some (decide (q = p)) := by
            show some (ttx q.1 q.2 == ttx p.1 p.2) = _
            congr 1
            rw [Bool.eq_iff_iff, beq_iff_eq, decide_eq_true_eq]
            exact ⟨txt_inj (hL q hq) (hL p hpm), fun e => by rw [e]⟩
          (try simp only [e1, hl2, exs_c, exs_n, ex, ev, evs, evB, evIf, evS, evP, okx_bind, okx_ok, okx_exc, okx_lift, okx_asB, okx_if, okx_noX, lift_some, Res.bind_ok, Res.bind_exc, List.map_cons, List.map_nil, List.length_cons, List.length_nil, List.replicate, List.cons_append, List.nil_append, List.getElem?_cons_zero, List.getElem?_cons_succ, List.set_cons_zero, List.set_cons_succ, Nat.reduceSub, Nat.reduceAdd, if_true, Bool.false_eq_true, if_false, Option.some.injEq, exists_eq_left', exists_eq_left, bo_add, bo_sub, bo_p6, bo_p8, bo_p18, bo_p39, co_lt, co_le, co_gt, co_ge, co_eqi, co_nei, co_eqL, co_neL, co_eqT, co_neT, co_eqs, co_nes, co_neS2, beq_self_eq_true, co_isN, co_notN, co_isB, co_notB, co_memT, co_memL, co_nmemT, co_nmemL, bg_lenL, bg_lenT, bg_tupL, bg_tupT, bg_lstL, bg_lstT, bg_intB, bg_intI, bg_max, bg_min, bg_sumL, bg_sumT, bg_allL, bg_sortL, bg_sortT, ixd_l, ixd_t, de_lst, de_tup, tg_nm, tg_2, tg_3, tg_l2, tg_l3, dT_nm, dT_tp, nn_non, nn_int, nn_tup, nn_lst, bg_maxL, bg_maxT, bg_minL, bg_minP, at_0, at_1, at_2, at_3, Tg.slots, wipeR, iterD, items, op_none, op_int, sld_l, sld_t, rev_l, rev_t, D.bl.injEq, D.int.injEq, Bool.not_true, Bool.not_false, Bool.true_eq_false, and_true, true_and, mkT_0, mkL_0, mkT_1, mkL_1, mkT_2, mkL_2, mkT_3, mkL_3, mkT_4, mkL_4, mkT_5, mkL_5, mkT_6, mkL_6, mkT_7, mkL_7, mkT_8, mkL_8, mkT_9, mkL_9, mkT_10, mkL_10, mkT_11, mkL_11, mkT_12, mkL_12, mkT_13, mkL_13, mkT_14, mkL_14, mkT_15, mkL_15, mkT_16, mkL_16, mkT_17, mkL_17, mkT_18, mkL_18, mkT_19, mkL_19, mkT_20, mkL_20, par_2, par_3, parS_2, parS_3, reduceCtorEq, false_and, exists_false, Int.reduceNeg, Int.reduceAdd, Int.reduceSub, slotOf, decide_eq_true_eq, List.length_map, List.length_range, Bool.not_eq_true', decide_eq_false_iff_not, decide_not, Bool.not_not, ty_i, ty_b, ty_n, ty_s, ty_t, ty_l, ty_d, decide_true, decide_false, Int.reduceLE, Int.reduceLT, and_self, Int.reduceToNat, Int.toNat_natCast, lim_0, lim_1, lim_2, lim_3, lim_4, lim_5, lim_6, lim_7, lim_8, lim_9, lim_10, lim_11, lim_12, lim_13, lim_14, lim_15, lim_16, lim_17, lim_18, lim_19, lim_20, lim_21, lim_22, lim_23, lim_24, nc_0, nc_1, nc_2, nc_3, nc_4, nc_5, nc_6, nc_7, nc_8, nc_9, nc_10, nc_11, nc_12, Int.reduceEq, mkSeq, Option.map_some, Option.bind_some, List.getElem?_nil, or_true, or_false, true_or, false_or, not_true_eq_false, not_false_eq_true])
        · refine okx_map (fun q : TwP => D.bl (decide (q = p))) (by omega) ?_ ?_
          · intro q acc hq hl2
            (try simp only [co_encT, hl2, exs_c, exs_n, ex, ev, evs, evB, evIf, evS, evP, okx_bind, okx_ok, okx_exc, okx_lift, okx_asB, okx_if, okx_noX, lift_some, Res.bind_ok, Res.bind_exc, List.map_cons, List.map_nil, List.length_cons, List.length_nil, List.replicate, List.cons_append, List.nil_append, List.getElem?_cons_zero, List.getElem?_cons_succ, List.set_cons_zero, List.set_cons_succ, Nat.reduceSub, Nat.reduceAdd, if_true, Bool.false_eq_true, if_false, Option.some.injEq, exists_eq_left', exists_eq_left, bo_add, bo_sub, bo_p6, bo_p8, bo_p18, bo_p39, co_lt, co_le, co_gt, co_ge, co_eqi, co_nei, co_eqL, co_neL, co_eqT, co_neT, co_eqs, co_nes, co_neS2, beq_self_eq_true, co_isN, co_notN, co_isB, co_notB, co_memT, co_memL, co_nmemT, co_nmemL, bg_lenL, bg_lenT, bg_tupL, bg_tupT, bg_lstL, bg_lstT, bg_intB, bg_intI, bg_max, bg_min, bg_sumL, bg_sumT, bg_allL, bg_sortL, bg_sortT, ixd_l, ixd_t, de_lst, de_tup, tg_nm, tg_2, tg_3, tg_l2, tg_l3, dT_nm, dT_tp, nn_non, nn_int, nn_tup, nn_lst, bg_maxL, bg_maxT, bg_minL, bg_minP, at_0, at_1, at_2, at_3, Tg.slots, wipeR, iterD, items, op_none, op_int, sld_l, sld_t, rev_l, rev_t, D.bl.injEq, D.int.injEq, Bool.not_true, Bool.not_false, Bool.true_eq_false, and_true, true_and, mkT_0, mkL_0, mkT_1, mkL_1, mkT_2, mkL_2, mkT_3, mkL_3, mkT_4, mkL_4, mkT_5, mkL_5, mkT_6, mkL_6, mkT_7, mkL_7, mkT_8, mkL_8, mkT_9, mkL_9, mkT_10, mkL_10, mkT_11, mkL_11, mkT_12, mkL_12, mkT_13, mkL_13, mkT_14, mkL_14, mkT_15, mkL_15, mkT_16, mkL_16, mkT_17, mkL_17, mkT_18, mkL_18, mkT_19, mkL_19, mkT_20, mkL_20, par_2, par_3, parS_2, parS_3, reduceCtorEq, false_and, exists_false, Int.reduceNeg, Int.reduceAdd, Int.reduceSub, slotOf, decide_eq_true_eq, List.length_map, List.length_range, Bool.not_eq_true', decide_eq_false_iff_not, decide_not, Bool.not_not, ty_i, ty_b, ty_n, ty_s, ty_t, ty_l, ty_d, decide_true, decide_false, Int.reduceLE, Int.reduceLT, and_self, Int.reduceToNat, Int.toNat_natCast, lim_0, lim_1, lim_2, lim_3, lim_4, lim_5, lim_6, lim_7, lim_8, lim_9, lim_10, lim_11, lim_12, lim_13, lim_14, lim_15, lim_16, lim_17, lim_18, lim_19, lim_20, lim_21, lim_22, lim_23, lim_24, nc_0, nc_1, nc_2, nc_3, nc_4, nc_5, nc_6, nc_7, nc_8, nc_9, nc_10, nc_11, nc_12, Int.reduceEq, mkSeq, Option.map_some, Option.bind_some, List.getElem?_nil, or_true, or_false, true_or, false_or, not_true_eq_false, not_false_eq_true])
          · have e2 : cmpop .ne (.lst (L.map fun q : TwP => D.bl (decide (q = p)))) (.lst (L.map fun q : TwP => D.bl (decide (q = p)))) = some false := by
              have e3 : (L.map fun q : TwP => D.bl (decide (q = p))) = (L.map fun q : TwP => decide (q = p)).map D.bl := by rw [List.map_map]; rfl
              rw [e3]
              exact co_neR (by rw [eqk_lst]; exact eqks_bls) (by rw [dep_lst, deps_bls]; omega)
            (try simp only [e2, exs_c, exs_n, ex, ev, evs, evB, evIf, evS, evP, okx_bind, okx_ok, okx_exc, okx_lift, okx_asB, okx_if, okx_noX, lift_some, Res.bind_ok, Res.bind_exc, List.map_cons, List.map_nil, List.length_cons, List.length_nil, List.replicate, List.cons_append, List.nil_append, List.getElem?_cons_zero, List.getElem?_cons_succ, List.set_cons_zero, List.set_cons_succ, Nat.reduceSub, Nat.reduceAdd, if_true, Bool.false_eq_true, if_false, Option.some.injEq, exists_eq_left', exists_eq_left, bo_add, bo_sub, bo_p6, bo_p8, bo_p18, bo_p39, co_lt, co_le, co_gt, co_ge, co_eqi, co_nei, co_eqL, co_neL, co_eqT, co_neT, co_eqs, co_nes, co_neS2, beq_self_eq_true, co_isN, co_notN, co_isB, co_notB, co_memT, co_memL, co_nmemT, co_nmemL, bg_lenL, bg_lenT, bg_tupL, bg_tupT, bg_lstL, bg_lstT, bg_intB, bg_intI, bg_max, bg_min, bg_sumL, bg_sumT, bg_allL, bg_sortL, bg_sortT, ixd_l, ixd_t, de_lst, de_tup, tg_nm, tg_2, tg_3, tg_l2, tg_l3, dT_nm, dT_tp, nn_non, nn_int, nn_tup, nn_lst, bg_maxL, bg_maxT, bg_minL, bg_minP, at_0, at_1, at_2, at_3, Tg.slots, wipeR, iterD, items, op_none, op_int, sld_l, sld_t, rev_l, rev_t, D.bl.injEq, D.int.injEq, Bool.not_true, Bool.not_false, Bool.true_eq_false, and_true, true_and, mkT_0, mkL_0, mkT_1, mkL_1, mkT_2, mkL_2, mkT_3, mkL_3, mkT_4, mkL_4, mkT_5, mkL_5, mkT_6, mkL_6, mkT_7, mkL_7, mkT_8, mkL_8, mkT_9, mkL_9, mkT_10, mkL_10, mkT_11, mkL_11, mkT_12, mkL_12, mkT_13, mkL_13, mkT_14, mkL_14, mkT_15, mkL_15, mkT_16, mkL_16, mkT_17, mkL_17, mkT_18, mkL_18, mkT_19, mkL_19, mkT_20, mkL_20, par_2, par_3, parS_2, parS_3, reduceCtorEq, false_and, exists_false, Int.reduceNeg, Int.reduceAdd, Int.reduceSub, slotOf, decide_eq_true_eq, List.length_map, List.length_range, Bool.not_eq_true', decide_eq_false_iff_not, decide_not, Bool.not_not, ty_i, ty_b, ty_n, ty_s, ty_t, ty_l, ty_d, decide_true, decide_false, Int.reduceLE, Int.reduceLT, and_self, Int.reduceToNat, Int.toNat_natCast, lim_0, lim_1, lim_2, lim_3, lim_4, lim_5, lim_6, lim_7, lim_8, lim_9, lim_10, lim_11, lim_12, lim_13, lim_14, lim_15, lim_16, lim_17, lim_18, lim_19, lim_20, lim_21, lim_22, lim_23, lim_24, nc_0, nc_1, nc_2, nc_3, nc_4, nc_5, nc_6, nc_7, nc_8, nc_9, nc_10, nc_11, nc_12, Int.reduceEq, mkSeq, Option.map_some, Option.bind_some, List.getElem?_nil, or_true, or_false, true_or, false_or, not_true_eq_false, not_false_eq_true])
            exact ⟨_, _, rfl⟩
      · rintro r g3 ⟨rfl, s5, s6, rfl⟩
        have f1 : ∀ g, callN gl P (n + 8) f_tower_text [.tup [.int 2, .tup [.int 1, .int 3]]] g = .ok (.str (ttx 2 [1, 3])) g := fun g => ttext_ok (n := n + 6) (g := g) (e := 2) (ws := [1, 3]) (by decide) (by decide) (by decide)
        have f2 : ∀ g, callN gl P (n + 8) f_tower_text [.tup [.int 7, .tup []]] g = .ok (.str (ttx 7 [])) g := fun g => ttext_ok (n := n + 6) (g := g) (e := 7) (ws := []) (by decide) (by decide) (by decide)
        have e1 : (ttx 2 [1, 3] == Str.ofString "2 / 1,3") = true := by decide +kernel
        have e2 : (ttx 7 [] == Str.ofString "7 / -") = true := by decide +kernel
        (try simp only [f1, f2, e1, e2, exs_c, exs_n, ex, ev, evs, evB, evIf, evS, evP, okx_bind, okx_ok, okx_exc, okx_lift, okx_asB, okx_if, okx_noX, lift_some, Res.bind_ok, Res.bind_exc, List.map_cons, List.map_nil, List.length_cons, List.length_nil, List.replicate, List.cons_append, List.nil_append, List.getElem?_cons_zero, List.getElem?_cons_succ, List.set_cons_zero, List.set_cons_succ, Nat.reduceSub, Nat.reduceAdd, if_true, Bool.false_eq_true, if_false, Option.some.injEq, exists_eq_left', exists_eq_left, bo_add, bo_sub, bo_p6, bo_p8, bo_p18, bo_p39, co_lt, co_le, co_gt, co_ge, co_eqi, co_nei, co_eqL, co_neL, co_eqT, co_neT, co_eqs, co_nes, co_neS2, beq_self_eq_true, co_isN, co_notN, co_isB, co_notB, co_memT, co_memL, co_nmemT, co_nmemL, bg_lenL, bg_lenT, bg_tupL, bg_tupT, bg_lstL, bg_lstT, bg_intB, bg_intI, bg_max, bg_min, bg_sumL, bg_sumT, bg_allL, bg_sortL, bg_sortT, ixd_l, ixd_t, de_lst, de_tup, tg_nm, tg_2, tg_3, tg_l2, tg_l3, dT_nm, dT_tp, nn_non, nn_int, nn_tup, nn_lst, bg_maxL, bg_maxT, bg_minL, bg_minP, at_0, at_1, at_2, at_3, Tg.slots, wipeR, iterD, items, op_none, op_int, sld_l, sld_t, rev_l, rev_t, D.bl.injEq, D.int.injEq, Bool.not_true, Bool.not_false, Bool.true_eq_false, and_true, true_and, mkT_0, mkL_0, mkT_1, mkL_1, mkT_2, mkL_2, mkT_3, mkL_3, mkT_4, mkL_4, mkT_5, mkL_5, mkT_6, mkL_6, mkT_7, mkL_7, mkT_8, mkL_8, mkT_9, mkL_9, mkT_10, mkL_10, mkT_11, mkL_11, mkT_12, mkL_12, mkT_13, mkL_13, mkT_14, mkL_14, mkT_15, mkL_15, mkT_16, mkL_16, mkT_17, mkL_17, mkT_18, mkL_18, mkT_19, mkL_19, mkT_20, mkL_20, par_2, par_3, parS_2, parS_3, reduceCtorEq, false_and, exists_false, Int.reduceNeg, Int.reduceAdd, Int.reduceSub, slotOf, decide_eq_true_eq, List.length_map, List.length_range, Bool.not_eq_true', decide_eq_false_iff_not, decide_not, Bool.not_not, ty_i, ty_b, ty_n, ty_s, ty_t, ty_l, ty_d, decide_true, decide_false, Int.reduceLE, Int.reduceLT, and_self, Int.reduceToNat, Int.toNat_natCast, lim_0, lim_1, lim_2, lim_3, lim_4, lim_5, lim_6, lim_7, lim_8, lim_9, lim_10, lim_11, lim_12, lim_13, lim_14, lim_15, lim_16, lim_17, lim_18, lim_19, lim_20, lim_21, lim_22, lim_23, lim_24, nc_0, nc_1, nc_2, nc_3, nc_4, nc_5, nc_6, nc_7, nc_8, nc_9, nc_10, nc_11, nc_12, Int.reduceEq, mkSeq, Option.map_some, Option.bind_some, List.getElem?_nil, or_true, or_false, true_or, false_or, not_true_eq_false, not_false_eq_true])
end
end T
end
section
set_option Elab.async false
set_option linter.all false
set_option maxRecDepth 100000
set_option maxHeartbeats 0
theorem T.glOk (i : Nat) (d : Bk.D) (h : T.gl i = some d) : i ∈ ([T.c_COMMA, T.c_NOBODY, T.c_MIDDLE] : List Nat) := by
  unfold T.gl at h
  (try simp only [cond_eq_ite, Nat.blt_eq, Nat.beq_eq] at h)
  simp only [List.mem_cons, List.mem_nil_iff, or_false, T.c_COMMA, T.c_NOBODY, T.c_MIDDLE]
  first | (cases h; done) | ((repeat' (split at h)) <;> first | omega | (cases h; done))
namespace T
open PySem L2 Bk
def top (i : Nat) : Stmt := PySem.Challenge.pw_basketrope_k55_tower_texts.main.body.getD i (.Pass ⟨0, 0, 0, 0⟩)
def fl : List (Nat × Str) := [(f__law_draws_2, Str.ofString "_law_draws"), (f__law_next_2, Str.ofString "_law_next"), (f__law_one_2, Str.ofString "_law_one"), (f__law_weight_4, Str.ofString "_law_weight"), (f__law_weights_2, Str.ofString "_law_weights"), (f__law_tower_5, Str.ofString "_law_tower"), (f_weights_text, Str.ofString "weights_text"), (f_tower_text, Str.ofString "tower_text"), (f__law_text_2, Str.ofString "_law_text"), (f_law_54, Str.ofString "law")]
def cl : List (Nat × Str) := [(c_COMMA, Str.ofString "COMMA"), (c_NOBODY, Str.ofString "NOBODY"), (c_MIDDLE, Str.ofString "MIDDLE")]
def fs (i : Nat) : Option Str := fl.lookup i
def gs (i : Nat) : Option Str := cl.lookup i
def N__law_draws_2 : List Str := [Str.ofString "script", Str.ofString "cells", Str.ofString "cell"]
def N__law_next_2 : List Str := [Str.ofString "state", Str.ofString "many", Str.ofString "index", Str.ofString "mixed", Str.ofString "cells", Str.ofString "count", Str.ofString "rests", Str.ofString "digit"]
def N__law_one_2 : List Str := [Str.ofString "state", Str.ofString "items"]
def N__law_weight_4 : List Str := [Str.ofString "state"]
def N__law_weights_2 : List Str := [Str.ofString "state", Str.ofString "most", Str.ofString "found", Str.ofString "k"]
def N__law_tower_5 : List Str := [Str.ofString "state", Str.ofString "most", Str.ofString "k", Str.ofString "way", Str.ofString "excess", Str.ofString "found", Str.ofString "total", Str.ofString "near"]
def N_weights_text : List Str := [Str.ofString "weights", Str.ofString "weight"]
def N_tower_text : List Str := [Str.ofString "tower", Str.ofString "excess", Str.ofString "weights"]
def N__law_text_2 : List Str := [Str.ofString "tower", Str.ofString "people", Str.ofString "weight"]
def N_law_54 : List Str := [Str.ofString "script", Str.ofString "state", Str.ofString "towers", Str.ofString "turn", Str.ofString "texts", Str.ofString "tower", Str.ofString "text", Str.ofString "shown", Str.ofString "other"]
theorem m__law_draws_2 : mSts ⟨N__law_draws_2, fs, gs⟩ (defScope (top 7)) (b__law_draws_2).body (defBody (top 7)) = true := by decide +kernel
theorem s__law_draws_2 : FnScope N__law_draws_2 [Str.ofString "script"] (defScope (top 7)) := C8.fnScope_by (by decide +kernel)
theorem m__law_next_2 : mSts ⟨N__law_next_2, fs, gs⟩ (defScope (top 8)) (b__law_next_2).body (defBody (top 8)) = true := by decide +kernel
theorem s__law_next_2 : FnScope N__law_next_2 [Str.ofString "state", Str.ofString "many"] (defScope (top 8)) := C8.fnScope_by (by decide +kernel)
theorem m__law_one_2 : mSts ⟨N__law_one_2, fs, gs⟩ (defScope (top 9)) (b__law_one_2).body (defBody (top 9)) = true := by decide +kernel
theorem s__law_one_2 : FnScope N__law_one_2 [Str.ofString "state", Str.ofString "items"] (defScope (top 9)) := C8.fnScope_by (by decide +kernel)
theorem m__law_weight_4 : mSts ⟨N__law_weight_4, fs, gs⟩ (defScope (top 10)) (b__law_weight_4).body (defBody (top 10)) = true := by decide +kernel
theorem s__law_weight_4 : FnScope N__law_weight_4 [Str.ofString "state"] (defScope (top 10)) := C8.fnScope_by (by decide +kernel)
theorem m__law_weights_2 : mSts ⟨N__law_weights_2, fs, gs⟩ (defScope (top 11)) (b__law_weights_2).body (defBody (top 11)) = true := by decide +kernel
theorem s__law_weights_2 : FnScope N__law_weights_2 [Str.ofString "state", Str.ofString "most"] (defScope (top 11)) := C8.fnScope_by (by decide +kernel)
theorem m__law_tower_5 : mSts ⟨N__law_tower_5, fs, gs⟩ (defScope (top 12)) (b__law_tower_5).body (defBody (top 12)) = true := by decide +kernel
theorem s__law_tower_5 : FnScope N__law_tower_5 [Str.ofString "state", Str.ofString "most"] (defScope (top 12)) := C8.fnScope_by (by decide +kernel)
theorem m_weights_text : mSts ⟨N_weights_text, fs, gs⟩ (defScope (top 4)) (b_weights_text).body (defBody (top 4)) = true := by decide +kernel
theorem s_weights_text : FnScope N_weights_text [Str.ofString "weights"] (defScope (top 4)) := C8.fnScope_by (by decide +kernel)
theorem m_tower_text : mSts ⟨N_tower_text, fs, gs⟩ (defScope (top 5)) (b_tower_text).body (defBody (top 5)) = true := by decide +kernel
theorem s_tower_text : FnScope N_tower_text [Str.ofString "tower"] (defScope (top 5)) := C8.fnScope_by (by decide +kernel)
theorem m__law_text_2 : mSts ⟨N__law_text_2, fs, gs⟩ (defScope (top 13)) (b__law_text_2).body (defBody (top 13)) = true := by decide +kernel
theorem s__law_text_2 : FnScope N__law_text_2 [Str.ofString "tower"] (defScope (top 13)) := C8.fnScope_by (by decide +kernel)
theorem m_law_54 : mSts ⟨N_law_54, fs, gs⟩ (defScope (top 14)) (b_law_54).body (defBody (top 14)) = true := by decide +kernel
theorem s_law_54 : FnScope N_law_54 [Str.ofString "script"] (defScope (top 14)) := C8.fnScope_by (by decide +kernel)
theorem all_mk {l : PySem.W.OpenLaw} {w : World} {K : PySem.W.Frag} {h : Heap} {mg : Str → Option Value} {fa : Addr} (X : K.In h) (G : h.Ns mainGlobals mg) (hfa : mg "law" = some (.ref fa))
    {g0 g1 g2 g3 g4 g5 g6 g7 g8 g9 : Addr} {od0 an0 od1 an1 od2 an2 od3 an3 od4 an4 od5 an5 od6 an6 od7 an7 od8 an8 od9 an9 : Option Addr} {sl0 sl1 sl2 sl3 sl4 sl5 sl6 sl7 sl8 sl9 : Array (Option Value)} {oc0 kV0 dc0 pm0 cd0 ct0 oc1 kV1 dc1 pm1 cd1 ct1 oc2 kV2 dc2 pm2 cd2 ct2 oc3 kV3 dc3 pm3 cd3 ct3 oc4 kV4 dc4 pm4 cd4 ct4 oc5 kV5 dc5 pm5 cd5 ct5 oc6 kV6 dc6 pm6 cd6 ct6 oc7 kV7 dc7 pm7 cd7 ct7 oc8 kV8 dc8 pm8 cd8 ct8 oc9 kV9 dc9 pm9 cd9 ct9 : Value} {u0 u1 u2 : Value} {t0 t1 t2 : Tok}
    (a0 : PySem.W.nsIn K mainGlobals "_law_draws" = some (some (.ref g0))) (l0 : K.lookup g0 = some ⟨oc0, od0, .func (PySem.W.fnOf "_law_draws" "_law_draws" (defArgs (top 7)) (defBody (top 7)) (defScope (top 7)) .none kV0 dc0 pm0 an0 cd0 ct0), sl0⟩) (e0 : PySem.W.codeIn K cd0 "_law_draws" = true) (k0 : PySem.W.keepIn K (.ref g0) = true)
    (a1 : PySem.W.nsIn K mainGlobals "_law_next" = some (some (.ref g1))) (l1 : K.lookup g1 = some ⟨oc1, od1, .func (PySem.W.fnOf "_law_next" "_law_next" (defArgs (top 8)) (defBody (top 8)) (defScope (top 8)) .none kV1 dc1 pm1 an1 cd1 ct1), sl1⟩) (e1 : PySem.W.codeIn K cd1 "_law_next" = true) (k1 : PySem.W.keepIn K (.ref g1) = true)
    (a2 : PySem.W.nsIn K mainGlobals "_law_one" = some (some (.ref g2))) (l2 : K.lookup g2 = some ⟨oc2, od2, .func (PySem.W.fnOf "_law_one" "_law_one" (defArgs (top 9)) (defBody (top 9)) (defScope (top 9)) .none kV2 dc2 pm2 an2 cd2 ct2), sl2⟩) (e2 : PySem.W.codeIn K cd2 "_law_one" = true) (k2 : PySem.W.keepIn K (.ref g2) = true)
    (a3 : PySem.W.nsIn K mainGlobals "_law_weight" = some (some (.ref g3))) (l3 : K.lookup g3 = some ⟨oc3, od3, .func (PySem.W.fnOf "_law_weight" "_law_weight" (defArgs (top 10)) (defBody (top 10)) (defScope (top 10)) .none kV3 dc3 pm3 an3 cd3 ct3), sl3⟩) (e3 : PySem.W.codeIn K cd3 "_law_weight" = true) (k3 : PySem.W.keepIn K (.ref g3) = true)
    (a4 : PySem.W.nsIn K mainGlobals "_law_weights" = some (some (.ref g4))) (l4 : K.lookup g4 = some ⟨oc4, od4, .func (PySem.W.fnOf "_law_weights" "_law_weights" (defArgs (top 11)) (defBody (top 11)) (defScope (top 11)) .none kV4 dc4 pm4 an4 cd4 ct4), sl4⟩) (e4 : PySem.W.codeIn K cd4 "_law_weights" = true) (k4 : PySem.W.keepIn K (.ref g4) = true)
    (a5 : PySem.W.nsIn K mainGlobals "_law_tower" = some (some (.ref g5))) (l5 : K.lookup g5 = some ⟨oc5, od5, .func (PySem.W.fnOf "_law_tower" "_law_tower" (defArgs (top 12)) (defBody (top 12)) (defScope (top 12)) .none kV5 dc5 pm5 an5 cd5 ct5), sl5⟩) (e5 : PySem.W.codeIn K cd5 "_law_tower" = true) (k5 : PySem.W.keepIn K (.ref g5) = true)
    (a6 : PySem.W.nsIn K mainGlobals "weights_text" = some (some (.ref g6))) (l6 : K.lookup g6 = some ⟨oc6, od6, .func (PySem.W.fnOf "weights_text" "weights_text" (defArgs (top 4)) (defBody (top 4)) (defScope (top 4)) .none kV6 dc6 pm6 an6 cd6 ct6), sl6⟩) (e6 : PySem.W.codeIn K cd6 "weights_text" = true) (k6 : PySem.W.keepIn K (.ref g6) = true)
    (a7 : PySem.W.nsIn K mainGlobals "tower_text" = some (some (.ref g7))) (l7 : K.lookup g7 = some ⟨oc7, od7, .func (PySem.W.fnOf "tower_text" "tower_text" (defArgs (top 5)) (defBody (top 5)) (defScope (top 5)) .none kV7 dc7 pm7 an7 cd7 ct7), sl7⟩) (e7 : PySem.W.codeIn K cd7 "tower_text" = true) (k7 : PySem.W.keepIn K (.ref g7) = true)
    (a8 : PySem.W.nsIn K mainGlobals "_law_text" = some (some (.ref g8))) (l8 : K.lookup g8 = some ⟨oc8, od8, .func (PySem.W.fnOf "_law_text" "_law_text" (defArgs (top 13)) (defBody (top 13)) (defScope (top 13)) .none kV8 dc8 pm8 an8 cd8 ct8), sl8⟩) (e8 : PySem.W.codeIn K cd8 "_law_text" = true) (k8 : PySem.W.keepIn K (.ref g8) = true)
    (a9 : PySem.W.nsIn K mainGlobals "law" = some (some (.ref g9))) (l9 : K.lookup g9 = some ⟨oc9, od9, .func (PySem.W.fnOf "law" "law" (defArgs (top 14)) (defBody (top 14)) (defScope (top 14)) .none kV9 dc9 pm9 an9 cd9 ct9), sl9⟩) (e9 : PySem.W.codeIn K cd9 "law" = true) (k9 : PySem.W.keepIn K (.ref g9) = true)
    (x0 : PySem.W.nsIn K mainGlobals "COMMA" = some (some u0)) (y0 : u0 = .str (Str.ofString ",") t0)
    (x1 : PySem.W.nsIn K mainGlobals "NOBODY" = some (some u1)) (y1 : u1 = .str (Str.ofString "-") t1)
    (x2 : PySem.W.nsIn K mainGlobals "MIDDLE" = some (some u2)) (y2 : u2 = .str (Str.ofString "/") t2)
    (z0 : PySem.W.nsIn K mainGlobals "len" = some none)
    (z1 : PySem.W.nsIn K mainGlobals "abs" = some none)
    (z2 : PySem.W.nsIn K mainGlobals "sum" = some none)
    (z3 : PySem.W.nsIn K mainGlobals "tuple" = some none)
    (z4 : PySem.W.nsIn K mainGlobals "list" = some none)
    (z5 : PySem.W.nsIn K mainGlobals "sorted" = some none)
    (z6 : PySem.W.nsIn K mainGlobals "int" = some none)
    (z7 : PySem.W.nsIn K mainGlobals "str" = some none)
    (z8 : PySem.W.nsIn K mainGlobals "repr" = some none)
    (z9 : PySem.W.nsIn K mainGlobals "max" = some none)
    (z10 : PySem.W.nsIn K mainGlobals "min" = some none)
    (z11 : PySem.W.nsIn K mainGlobals "all" = some none)
    (z12 : PySem.W.nsIn K mainGlobals "range" = some none)
    (z13 : PySem.W.nsIn K mainGlobals "enumerate" = some none)
    (z14 : PySem.W.nsIn K mainGlobals "zip" = some none)
    (z15 : PySem.W.nsIn K mainGlobals "isinstance" = some none)
    (z16 : PySem.W.nsIn K mainGlobals "set" = some none)
    (z17 : PySem.W.nsIn K mainGlobals "bool" = some none)
    (z18 : PySem.W.nsIn K mainGlobals "dict" = some none)
    : ∃ fd : FuncData, (∀ (s : Shared) (v : Value), BindsTo s fd ⟨[v], []⟩ [("script", v)]) ∧ ∀ base : Heap, K.In base → base.Ns mainGlobals mg → GFn l.prog w K mg base 40 fa fd ["script"] (spB K mg 1 (callN gl P 40 f_law_54)) := by
  have e := hfa.symm.trans (PySem.W.mg_of X G a9)
  cases e
  have F0 := fun_mk (st := (top 7)) l0 e0 k0
  have B0 := F0.binds (ps := [Str.ofString "script"]) fun _ _ _ _ _ _ us hl => match us, hl with | [_], _ => rfl
  have F1 := fun_mk (st := (top 8)) l1 e1 k1
  have B1 := F1.binds (ps := [Str.ofString "state", Str.ofString "many"]) fun _ _ _ _ _ _ us hl => match us, hl with | [_, _], _ => rfl
  have F2 := fun_mk (st := (top 9)) l2 e2 k2
  have B2 := F2.binds (ps := [Str.ofString "state", Str.ofString "items"]) fun _ _ _ _ _ _ us hl => match us, hl with | [_, _], _ => rfl
  have F3 := fun_mk (st := (top 10)) l3 e3 k3
  have B3 := F3.binds (ps := [Str.ofString "state"]) fun _ _ _ _ _ _ us hl => match us, hl with | [_], _ => rfl
  have F4 := fun_mk (st := (top 11)) l4 e4 k4
  have B4 := F4.binds (ps := [Str.ofString "state", Str.ofString "most"]) fun _ _ _ _ _ _ us hl => match us, hl with | [_, _], _ => rfl
  have F5 := fun_mk (st := (top 12)) l5 e5 k5
  have B5 := F5.binds (ps := [Str.ofString "state", Str.ofString "most"]) fun _ _ _ _ _ _ us hl => match us, hl with | [_, _], _ => rfl
  have F6 := fun_mk (st := (top 4)) l6 e6 k6
  have B6 := F6.binds (ps := [Str.ofString "weights"]) fun _ _ _ _ _ _ us hl => match us, hl with | [_], _ => rfl
  have F7 := fun_mk (st := (top 5)) l7 e7 k7
  have B7 := F7.binds (ps := [Str.ofString "tower"]) fun _ _ _ _ _ _ us hl => match us, hl with | [_], _ => rfl
  have F8 := fun_mk (st := (top 13)) l8 e8 k8
  have B8 := F8.binds (ps := [Str.ofString "tower"]) fun _ _ _ _ _ _ us hl => match us, hl with | [_], _ => rfl
  have F9 := fun_mk (st := (top 14)) l9 e9 k9
  have B9 := F9.binds (ps := [Str.ofString "script"]) fun _ _ _ _ _ _ us hl => match us, hl with | [_], _ => rfl
  have hbn : ∀ s ∈ bnames, mg (Str.ofString s) = none := by
    intro s hs
    simp only [bnames, List.mem_cons, List.mem_nil_iff, or_false] at hs
    rcases hs with rfl | rfl | rfl | rfl | rfl | rfl | rfl | rfl | rfl | rfl | rfl | rfl | rfl | rfl | rfl | rfl | rfl | rfl | rfl
    · exact PySem.W.mg_none_of X G z0
    · exact PySem.W.mg_none_of X G z1
    · exact PySem.W.mg_none_of X G z2
    · exact PySem.W.mg_none_of X G z3
    · exact PySem.W.mg_none_of X G z4
    · exact PySem.W.mg_none_of X G z5
    · exact PySem.W.mg_none_of X G z6
    · exact PySem.W.mg_none_of X G z7
    · exact PySem.W.mg_none_of X G z8
    · exact PySem.W.mg_none_of X G z9
    · exact PySem.W.mg_none_of X G z10
    · exact PySem.W.mg_none_of X G z11
    · exact PySem.W.mg_none_of X G z12
    · exact PySem.W.mg_none_of X G z13
    · exact PySem.W.mg_none_of X G z14
    · exact PySem.W.mg_none_of X G z15
    · exact PySem.W.mg_none_of X G z16
    · exact PySem.W.mg_none_of X G z17
    · exact PySem.W.mg_none_of X G z18
  have hgl : ∀ i d, gl i = some d → ∃ x u v, gs i = some x ∧ mg x = some u ∧ RelV v u ∧ ∀ y H, Rep K y H d v := by
    intro i d hd
    by_cases c0 : i = c_COMMA
    · subst c0; rw [gl_c_COMMA] at hd; cases hd; exact ⟨_, _, .str (Str.ofString ","), rfl, PySem.W.mg_of X G x0, ⟨_, y0⟩, fun y H => by simp only [Rep]⟩
    by_cases c1 : i = c_NOBODY
    · subst c1; rw [gl_c_NOBODY] at hd; cases hd; exact ⟨_, _, .str (Str.ofString "-"), rfl, PySem.W.mg_of X G x1, ⟨_, y1⟩, fun y H => by simp only [Rep]⟩
    by_cases c2 : i = c_MIDDLE
    · subst c2; rw [gl_c_MIDDLE] at hd; cases hd; exact ⟨_, _, .str (Str.ofString "/"), rfl, PySem.W.mg_of X G x2, ⟨_, y2⟩, fun y H => by simp only [Rep]⟩
    exfalso
    have q := glOk i d hd
    (simp only [List.mem_cons, List.mem_nil_iff, or_false] at q) <;> omega
  have hff : ∀ i x, fs i = some x → ∃ fn, P i = some fn ∧ FF K mg fs gs x fn := by
    intro i x hx
    have hm := lookup_mem hx
    simp only [fl, List.mem_cons, List.mem_nil_iff, or_false, Prod.mk.injEq] at hm
    rcases hm with ⟨rfl, rfl⟩ | ⟨rfl, rfl⟩ | ⟨rfl, rfl⟩ | ⟨rfl, rfl⟩ | ⟨rfl, rfl⟩ | ⟨rfl, rfl⟩ | ⟨rfl, rfl⟩ | ⟨rfl, rfl⟩ | ⟨rfl, rfl⟩ | ⟨rfl, rfl⟩
    · exact ⟨b__law_draws_2, P__law_draws_2, ⟨_, _, _, _, _, _, PySem.W.mg_of X G a0, F0, B0, s__law_draws_2, rfl, rfl, m__law_draws_2⟩⟩
    · exact ⟨b__law_next_2, P__law_next_2, ⟨_, _, _, _, _, _, PySem.W.mg_of X G a1, F1, B1, s__law_next_2, rfl, rfl, m__law_next_2⟩⟩
    · exact ⟨b__law_one_2, P__law_one_2, ⟨_, _, _, _, _, _, PySem.W.mg_of X G a2, F2, B2, s__law_one_2, rfl, rfl, m__law_one_2⟩⟩
    · exact ⟨b__law_weight_4, P__law_weight_4, ⟨_, _, _, _, _, _, PySem.W.mg_of X G a3, F3, B3, s__law_weight_4, rfl, rfl, m__law_weight_4⟩⟩
    · exact ⟨b__law_weights_2, P__law_weights_2, ⟨_, _, _, _, _, _, PySem.W.mg_of X G a4, F4, B4, s__law_weights_2, rfl, rfl, m__law_weights_2⟩⟩
    · exact ⟨b__law_tower_5, P__law_tower_5, ⟨_, _, _, _, _, _, PySem.W.mg_of X G a5, F5, B5, s__law_tower_5, rfl, rfl, m__law_tower_5⟩⟩
    · exact ⟨b_weights_text, P_weights_text, ⟨_, _, _, _, _, _, PySem.W.mg_of X G a6, F6, B6, s_weights_text, rfl, rfl, m_weights_text⟩⟩
    · exact ⟨b_tower_text, P_tower_text, ⟨_, _, _, _, _, _, PySem.W.mg_of X G a7, F7, B7, s_tower_text, rfl, rfl, m_tower_text⟩⟩
    · exact ⟨b__law_text_2, P__law_text_2, ⟨_, _, _, _, _, _, PySem.W.mg_of X G a8, F8, B8, s__law_text_2, rfl, rfl, m__law_text_2⟩⟩
    · exact ⟨b_law_54, P_law_54, ⟨_, _, _, _, _, _, PySem.W.mg_of X G a9, F9, B9, s_law_54, rfl, rfl, m_law_54⟩⟩
  exact ⟨_, fun s v => .of_eq rfl, fun base _ _ => law_fn hbn hgl hff (i := f_law_54) P_law_54 F9 s_law_54 rfl rfl m_law_54⟩
end T
end
set_option Elab.async false
set_option linter.all false
set_option maxRecDepth 100000
set_option maxHeartbeats 0
theorem T.plain : ∀ ns : List Int, ns.length ≤ 63 → ∃ g', Bk.callN T.gl T.P 40 T.f_law_54 [.scr ns] [] = .ok (.bl true) g' := by
  intro ns _
  obtain ⟨d, g, h1, h2⟩ := (T.law55_ok (n := 31) ns).ex
  subst h2
  exact ⟨g, h1⟩
open PySem PySem.W PyProof.Rows in
set_option maxRecDepth 100000 in
set_option maxHeartbeats 0 in
theorem PySem.Challenge.cw_basketrope_k55_tower_texts_holds : PySem.Challenge.rw_basketrope_k55_tower_texts.Holds := by
  w_on; o_law; k_head; (case hw => w_witness2)
  k_fill
  refine Bk.walkB (l := PySem.Challenge.rw_basketrope_k55_tower_texts) (n := 63) (k := 40) (x := "script") (Fl := Bk.callN T.gl T.P 40 T.f_law_54) rfl (by decide) rfl ⟨rfl, by decide, by decide⟩ (fun w h Y => PySem.W.kIn_of Y) ?F T.plain
  case F =>
    intro w mg fa h KX G hmg
    refine' T.all_mk KX G hmg ?a0 ?l0 ?e0 ?k0 ?a1 ?l1 ?e1 ?k1 ?a2 ?l2 ?e2 ?k2 ?a3 ?l3 ?e3 ?k3 ?a4 ?l4 ?e4 ?k4 ?a5 ?l5 ?e5 ?k5 ?a6 ?l6 ?e6 ?k6 ?a7 ?l7 ?e7 ?k7 ?a8 ?l8 ?e8 ?k8 ?a9 ?l9 ?e9 ?k9 ?x0 ?y0 ?x1 ?y1 ?x2 ?y2 ?z0 ?z1 ?z2 ?z3 ?z4 ?z5 ?z6 ?z7 ?z8 ?z9 ?z10 ?z11 ?z12 ?z13 ?z14 ?z15 ?z16 ?z17 ?z18
    (case a0 => k_is)
    (case l0 => k_is)
    (case e0 => k_is)
    (case k0 => k_is)
    (case a1 => k_is)
    (case l1 => k_is)
    (case e1 => k_is)
    (case k1 => k_is)
    (case a2 => k_is)
    (case l2 => k_is)
    (case e2 => k_is)
    (case k2 => k_is)
    (case a3 => k_is)
    (case l3 => k_is)
    (case e3 => k_is)
    (case k3 => k_is)
    (case a4 => k_is)
    (case l4 => k_is)
    (case e4 => k_is)
    (case k4 => k_is)
    (case a5 => k_is)
    (case l5 => k_is)
    (case e5 => k_is)
    (case k5 => k_is)
    (case a6 => k_is)
    (case l6 => k_is)
    (case e6 => k_is)
    (case k6 => k_is)
    (case a7 => k_is)
    (case l7 => k_is)
    (case e7 => k_is)
    (case k7 => k_is)
    (case a8 => k_is)
    (case l8 => k_is)
    (case e8 => k_is)
    (case k8 => k_is)
    (case a9 => k_is)
    (case l9 => k_is)
    (case e9 => k_is)
    (case k9 => k_is)
    (case x0 => k_is)
    (case y0 => rfl)
    (case x1 => k_is)
    (case y1 => rfl)
    (case x2 => k_is)
    (case y2 => rfl)
    (case z0 => k_is)
    (case z1 => k_is)
    (case z2 => k_is)
    (case z3 => k_is)
    (case z4 => k_is)
    (case z5 => k_is)
    (case z6 => k_is)
    (case z7 => k_is)
    (case z8 => k_is)
    (case z9 => k_is)
    (case z10 => k_is)
    (case z11 => k_is)
    (case z12 => k_is)
    (case z13 => k_is)
    (case z14 => k_is)
    (case z15 => k_is)
    (case z16 => k_is)
    (case z17 => k_is)
    (case z18 => k_is)
