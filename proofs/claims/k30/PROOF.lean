import PyProof.Rows.All
import Wide.All
import OpenK.AllK
import Wide.FinOn
import HandS.ForMost
import HandS.ForExc
import HandS.ExcCtx
import HandS.HotCalls
import HandS.Flow
import HandS.Style
import HandS.TupAny
import HandS.TupMul
import HandS.Wide
import HandS.Deep
import HandS.IsInst
import HandS.SortInts
import HandS.Comp
import HandS.List
import HandS.SetFor
import HandS.Strs
import HandS.ExcField
import KE.KExcSuper
import HandS.Nested
import HandS.ExcInit
import HandS.HeadWalk
import HandS.ExcSuper
import HandS.ExcInitHot
import HandS.Defaults
import HandS.HeadHook1
import HandS.HeadHook2
import KE.KStateDown
import HandS.Head0
import HandS.Head1
import HandS.Head2
import HandS.HeadEnd
import PySem.Challenge.RW_axeswright_k30_whole_stores_in_one_memor
section
set_option Elab.async false
set_option linter.all false
set_option maxRecDepth 100000
set_option maxHeartbeats 2000000
/-! L3: data without addresses, a virtual heap, and how both lie in the abstract heap of the layer. -/
namespace L3
open PySem PySem.Spec PyProof.Rows L2

/-- data: lst is a list that nobody writes any more, scr one that may be read alone (the script), ref an object of the virtual heap, gl a thing of the module's top -/
inductive D where
  | non | bl (b : Bool) | int (i : Int) | str (x : Str)
  | tup (ds : List D) | lst (ds : List D) | scr (ds : List D)
  | ref (n : Nat) | gl (g : Nat)
deriving Inhabited

mutual
def D.beq : D → D → Bool
  | .non, .non => true
  | .bl a, .bl b => a == b
  | .int a, .int b => a == b
  | .str a, .str b => decide (a = b)
  | .tup a, .tup b => D.beqs a b
  | .lst a, .lst b => D.beqs a b
  | .scr a, .scr b => D.beqs a b
  | .ref a, .ref b => a == b
  | .gl a, .gl b => a == b
  | _, _ => false
def D.beqs : List D → List D → Bool
  | [], [] => true
  | a :: as, b :: bs => D.beq a b && D.beqs as bs
  | _, _ => false
end
mutual
theorem D.beq_eq : ∀ a b : D, D.beq a b = true → a = b
  | .non, b, h => by cases b <;> simp_all [D.beq]
  | .bl a, b, h => by cases b <;> simp_all [D.beq]
  | .int a, b, h => by cases b <;> simp_all [D.beq]
  | .str a, b, h => by cases b <;> simp_all [D.beq]
  | .ref a, b, h => by cases b <;> simp_all [D.beq]
  | .gl a, b, h => by cases b <;> simp_all [D.beq]
  | .tup a, b, h => by
    cases b with
    | tup b => simp only [D.beq] at h; rw [D.beqs_eq a b h]
    | _ => simp [D.beq] at h
  | .lst a, b, h => by
    cases b with
    | lst b => simp only [D.beq] at h; rw [D.beqs_eq a b h]
    | _ => simp [D.beq] at h
  | .scr a, b, h => by
    cases b with
    | scr b => simp only [D.beq] at h; rw [D.beqs_eq a b h]
    | _ => simp [D.beq] at h
theorem D.beqs_eq : ∀ a b : List D, D.beqs a b = true → a = b
  | [], b, h => by cases b <;> simp_all [D.beqs]
  | a :: as, b, h => by
    cases b with
    | nil => simp [D.beqs] at h
    | cons b bs =>
      simp only [D.beqs, Bool.and_eq_true] at h
      rw [D.beq_eq a b h.1, D.beqs_eq as bs h.2]
end
mutual
theorem D.beq_self : ∀ a : D, D.beq a a = true
  | .non => by simp [D.beq]
  | .bl a => by simp [D.beq]
  | .int a => by simp [D.beq]
  | .str a => by simp [D.beq]
  | .ref a => by simp [D.beq]
  | .gl a => by simp [D.beq]
  | .tup a => by simp only [D.beq]; exact D.beqs_self a
  | .lst a => by simp only [D.beq]; exact D.beqs_self a
  | .scr a => by simp only [D.beq]; exact D.beqs_self a
theorem D.beqs_self : ∀ a : List D, D.beqs a a = true
  | [] => by simp [D.beqs]
  | a :: as => by simp only [D.beqs, Bool.and_eq_true]; exact ⟨D.beq_self a, D.beqs_self as⟩
end
instance : DecidableEq D := fun a b => if h : D.beq a b = true then isTrue (D.beq_eq a b h) else isFalse fun e => h (e ▸ D.beq_self a)

/-- an object of the virtual heap -/
inductive O where
  | lst (ds : List D) | gone
deriving Inhabited, DecidableEq
abbrev VH := List O

/-- what is fixed through the whole law -/
structure Gx where
  P : Program
  w : World
  K : PySem.W.Frag
  mg : Str → Option Value
  base : Heap
  /-- where a function or class of the top stands -/
  ga : Nat → Addr
  /-- within an except suite: the caught exception, its dict, what stands in it -/
  xa : Option (Addr × Addr × List (Str × V))

/-- where the virtual objects lie, how many there are, and which lists are never written any more -/
structure Wd where
  ρ : Nat → Addr
  n : Nat
  fz : Addr → Prop
  /-- what must stay as it is: the list that a comprehension makes -/
  pin : Addr → Option HO

variable (G : Gx)

/-- a list of the written part -/
def KL (K : PySem.W.Frag) (a : Addr) (xs : List V) : Prop :=
  ∃ (o : Obj) (its : Array Value) (n : Nat), K.lookup a = some o ∧ o.cls = .type "list" ∧ o.dict = none ∧ o.data = .seq its n ∧ its.size ≤ sizeLine ∧ Vals xs its.toList
/-- a list that may be read alone -/
def ScrL (K : PySem.W.Frag) (w : Wd) (H : Hp) (p : Addr) (vs : List V) : Prop :=
  (H p = some (.lst vs) ∧ w.fz p) ∨ (∃ o, H p = some (.frz o (.lst vs))) ∨ KL K p vs
theorem ScrL.sq {K : PySem.W.Frag} {w : Wd} {H : Hp} {p : Addr} {vs : List V} (h : ScrL K w H p vs) : SqL K H p vs := by
  rcases h with h | h | h
  · exact .inl (.inl h.1)
  · exact .inl (.inr h)
  · exact .inr h
mutual
def RepD (w : Wd) (H : Hp) : D → V → Prop
  | .non, v => v = .non
  | .bl b, v => v = .bl b
  | .int i, v => v = .int i
  | .str x, v => v = .str x
  | .tup ds, v => ∃ p vs, v = .ref p ∧ SqT G.K H p vs ∧ RepDs w H ds vs
  | .lst ds, v => ∃ p vs, v = .ref p ∧ (H p = some (.lst vs) ∧ w.fz p) ∧ RepDs w H ds vs
  | .scr ds, v => ∃ p vs, v = .ref p ∧ ScrL G.K w H p vs ∧ RepDs w H ds vs
  | .ref n, v => n < w.n ∧ v = .ref (w.ρ n)
  | .gl _, v => ∃ x, G.xa = some x ∧ v = .ref x.1
def RepDs (w : Wd) (H : Hp) : List D → List V → Prop
  | [], vs => vs = []
  | d :: ds, vs => ∃ v vs', vs = v :: vs' ∧ RepD w H d v ∧ RepDs w H ds vs'
end

def RepO (w : Wd) (H : Hp) (n : Nat) : O → Prop
  | .lst ds => ¬ w.fz (w.ρ n) ∧ ∃ vs, H (w.ρ n) = some (.lst vs) ∧ RepDs G w H ds vs
  | .gone => True

structure RelH (w : Wd) (vh : VH) (H : Hp) : Prop where
  len : vh.length = w.n
  inj : ∀ i j, i < w.n → j < w.n → w.ρ i = w.ρ j → i = j
  there : ∀ i, i < w.n → ∃ vs, H (w.ρ i) = some (.lst vs)
  frozen : ∀ a, w.fz a → ∃ vs, H a = some (.lst vs)
  pinH : ∀ a o, w.pin a = some o → H a = some o
  pinZ : ∀ a o, w.pin a = some o → ¬ w.fz a ∧ ∀ i, i < w.n → w.ρ i ≠ a
  obj : ∀ (i : Nat) (o : O), vh[i]? = some o → RepO G w H i o
  xp : ∀ x, G.xa = some x → w.pin x.2.1 = some (.xd x.2.2)

/-- all that was told stays told -/
structure Le (w : Wd) (H : Hp) (w' : Wd) (H' : Hp) : Prop where
  n : w.n ≤ w'.n
  rep : ∀ d v, RepD G w H d v → RepD G w' H' d v
  pin : w'.pin = w.pin

variable {G}
theorem Le.refl {w : Wd} {H : Hp} : Le G w H w H := ⟨Nat.le_refl _, fun _ _ h => h, rfl⟩
theorem Le.trans {w w' w'' : Wd} {H H' H'' : Hp} (a : Le G w H w' H') (b : Le G w' H' w'' H'') : Le G w H w'' H'' :=
  ⟨Nat.le_trans a.n b.n, fun d v h => b.rep d v (a.rep d v h), b.pin.trans a.pin⟩

section
variable {w w' : Wd} {H H' : Hp}
theorem RepDs.mono (f : ∀ d v, RepD G w H d v → RepD G w' H' d v) : ∀ {ds : List D} {vs : List V}, RepDs G w H ds vs → RepDs G w' H' ds vs
  | [], _, h => by
    simp only [RepDs] at h ⊢; exact h
  | d :: ds, vs, h => by
    simp only [RepDs] at h ⊢
    obtain ⟨v, vs', e, h1, h2⟩ := h
    exact ⟨v, vs', e, f _ _ h1, RepDs.mono f h2⟩
theorem RepDs.length : ∀ {ds : List D} {vs : List V}, RepDs G w H ds vs → vs.length = ds.length
  | [], _, h => by
    simp only [RepDs] at h; subst h; rfl
  | d :: ds, vs, h => by
    simp only [RepDs] at h
    obtain ⟨v, vs', e, h1, h2⟩ := h
    subst e
    simp [RepDs.length h2]
theorem RepDs.get : ∀ {ds : List D} {vs : List V} {i : Nat} {d : D}, RepDs G w H ds vs → ds[i]? = some d → ∃ v, vs[i]? = some v ∧ RepD G w H d v
  | [], _, _, _, _, e => by simp at e
  | d :: ds, vs, 0, x, h, e => by
    simp only [RepDs] at h
    obtain ⟨v, vs', e', h1, h2⟩ := h
    subst e'
    simp at e; subst e
    exact ⟨v, rfl, h1⟩
  | d :: ds, vs, i + 1, x, h, e => by
    simp only [RepDs] at h
    obtain ⟨v, vs', e', h1, h2⟩ := h
    subst e'
    obtain ⟨u, q1, q2⟩ := RepDs.get (i := i) (d := x) h2 (by simpa using e)
    exact ⟨u, by simpa using q1, q2⟩
theorem RepDs.get' : ∀ {ds : List D} {vs : List V} {i : Nat} {v : V}, RepDs G w H ds vs → vs[i]? = some v → ∃ d, ds[i]? = some d ∧ RepD G w H d v := fun {ds vs i v} h e => by
  have hl := h.length
  have : i < ds.length := by
    have := (List.getElem?_eq_some_iff.mp e).1
    omega
  obtain ⟨u, e', r⟩ := h.get (List.getElem?_eq_getElem this)
  rw [e] at e'; cases e'
  exact ⟨_, List.getElem?_eq_getElem this, r⟩
theorem RepDs.append : ∀ {ds es : List D} {vs us : List V}, RepDs G w H ds vs → RepDs G w H es us → RepDs G w H (ds ++ es) (vs ++ us)
  | [], es, vs, us, h, g => by
    simp only [RepDs] at h; subst h
    simpa using g
  | d :: ds, es, vs, us, h, g => by
    simp only [RepDs] at h
    obtain ⟨v, vs', e', h1, h2⟩ := h
    subst e'
    simp only [List.cons_append, RepDs]
    exact ⟨v, _, rfl, h1, RepDs.append h2 g⟩
theorem RepDs.one {d : D} {v : V} (h : RepD G w H d v) : RepDs G w H [d] [v] := by
  simp only [RepDs]
  exact ⟨v, [], rfl, h, rfl⟩
theorem RepDs.nil : RepDs G w H [] [] := by simp only [RepDs]
theorem RepDs.cons {d : D} {v : V} {ds : List D} {vs : List V} (h : RepD G w H d v) (hs : RepDs G w H ds vs) : RepDs G w H (d :: ds) (v :: vs) := by
  simp only [RepDs]
  exact ⟨v, vs, rfl, h, hs⟩
theorem RepDs.drop : ∀ {ds : List D} {vs : List V} (k : Nat), RepDs G w H ds vs → RepDs G w H (ds.drop k) (vs.drop k)
  | ds, vs, 0, h => by simpa using h
  | [], vs, k + 1, h => by
    simp only [RepDs] at h; subst h; simp [RepDs]
  | d :: ds, vs, k + 1, h => by
    simp only [RepDs] at h
    obtain ⟨v, vs', e', h1, h2⟩ := h
    subst e'
    simpa using RepDs.drop k h2
theorem RepDs.take : ∀ {ds : List D} {vs : List V} (k : Nat), RepDs G w H ds vs → RepDs G w H (ds.take k) (vs.take k)
  | ds, vs, 0, h => by simp [RepDs]
  | [], vs, k + 1, h => by
    simp only [RepDs] at h; subst h; simp [RepDs]
  | d :: ds, vs, k + 1, h => by
    simp only [RepDs] at h
    obtain ⟨v, vs', e', h1, h2⟩ := h
    subst e'
    simp only [List.take_succ_cons]
    exact .cons h1 (RepDs.take k h2)
theorem RepDs.set : ∀ {ds : List D} {vs : List V} (k : Nat) {d : D} {v : V}, RepDs G w H ds vs → RepD G w H d v → RepDs G w H (ds.set k d) (vs.set k v)
  | [], vs, k, d, v, h, g => by
    simp only [RepDs] at h; subst h; simp [RepDs]
  | x :: ds, vs, 0, d, v, h, g => by
    simp only [RepDs] at h
    obtain ⟨u, vs', e', h1, h2⟩ := h
    subst e'
    simpa using RepDs.cons g h2
  | x :: ds, vs, k + 1, d, v, h, g => by
    simp only [RepDs] at h
    obtain ⟨u, vs', e', h1, h2⟩ := h
    subst e'
    simpa using RepDs.cons h1 (RepDs.set k h2 g)

/-- a store at an address that is free, or of an object that may be written and is not frozen -/
def CanPut (w : Wd) (H : Hp) (a : Addr) : Prop := H a = none ∨ (Mut (H a) ∧ ¬ w.fz a)
theorem sqT_put {K : PySem.W.Frag} {a : Addr} {o : HO} {p : Addr} {vs : List V} (c : H a = none ∨ Mut (H a)) (h : SqT K H p vs) : SqT K (upd H a o) p vs := by
  rcases h with (h | ⟨ob, h⟩) | h
  · refine .inl (.inl ?_)
    rw [upd_ne]; exact h
    rintro rfl
    rcases c with c | c
    · rw [h] at c; cases c
    · rw [h] at c; exact c
  · refine .inl (.inr ⟨ob, ?_⟩)
    rw [upd_ne]; exact h
    rintro rfl
    rcases c with c | c
    · rw [h] at c; cases c
    · rw [h] at c; exact c
  · exact .inr h
mutual
theorem RepD.put {w w' : Wd} {H : Hp} {a : Addr} {o : HO} (c : CanPut w H a) (hn : w.n ≤ w'.n) (hρ : ∀ i, i < w.n → w'.ρ i = w.ρ i) (hf : ∀ b, w.fz b → w'.fz b) : ∀ (d : D) (v : V), RepD G w H d v → RepD G w' (upd H a o) d v
  | .non, v, h => by simpa only [RepD] using h
  | .bl b, v, h => by simpa only [RepD] using h
  | .int i, v, h => by simpa only [RepD] using h
  | .str x, v, h => by simpa only [RepD] using h
  | .gl x, v, h => by simpa only [RepD] using h
  | .ref n, v, h => by
    simp only [RepD] at h ⊢
    exact ⟨Nat.lt_of_lt_of_le h.1 hn, by rw [hρ n h.1]; exact h.2⟩
  | .tup ds, v, h => by
    simp only [RepD] at h ⊢
    obtain ⟨p, vs, e, h1, h2⟩ := h
    exact ⟨p, vs, e, sqT_put (c.imp id fun z => z.1) h1, RepDs.put c hn hρ hf ds vs h2⟩
  | .lst ds, v, h => by
    simp only [RepD] at h ⊢
    obtain ⟨p, vs, e, ⟨h1, h1'⟩, h2⟩ := h
    refine ⟨p, vs, e, ⟨?_, hf _ h1'⟩, RepDs.put c hn hρ hf ds vs h2⟩
    rw [upd_ne]; exact h1
    rintro rfl
    rcases c with c | c
    · rw [h1] at c; cases c
    · exact c.2 h1'
  | .scr ds, v, h => by
    simp only [RepD] at h ⊢
    obtain ⟨p, vs, e, h1, h2⟩ := h
    refine ⟨p, vs, e, ?_, RepDs.put c hn hρ hf ds vs h2⟩
    rcases h1 with ⟨h1, h1'⟩ | ⟨ob, h1⟩ | h1
    · refine .inl ⟨?_, hf _ h1'⟩
      rw [upd_ne]; exact h1
      rintro rfl
      rcases c with c | c
      · rw [h1] at c; cases c
      · exact c.2 h1'
    · refine .inr (.inl ⟨ob, ?_⟩)
      rw [upd_ne]; exact h1
      rintro rfl
      rcases c with c | c
      · rw [h1] at c; cases c
      · rw [h1] at c; exact c.1
    · exact .inr (.inr h1)
theorem RepDs.put {w w' : Wd} {H : Hp} {a : Addr} {o : HO} (c : CanPut w H a) (hn : w.n ≤ w'.n) (hρ : ∀ i, i < w.n → w'.ρ i = w.ρ i) (hf : ∀ b, w.fz b → w'.fz b) : ∀ (ds : List D) (vs : List V), RepDs G w H ds vs → RepDs G w' (upd H a o) ds vs
  | [], vs, h => by simpa only [RepDs] using h
  | d :: ds, vs, h => by
    simp only [RepDs] at h ⊢
    obtain ⟨v, vs', e, h1, h2⟩ := h
    exact ⟨v, vs', e, RepD.put c hn hρ hf d v h1, RepDs.put c hn hρ hf ds vs' h2⟩
end
end

/-! ### what may happen to the heap -/
section
variable {w : Wd} {vh : VH} {H : Hp} {p : Addr}
theorem RelH.new (R : RelH G w vh H) (hp : H p = none) : (∀ i, i < w.n → w.ρ i ≠ p) ∧ ¬ w.fz p :=
  ⟨fun i hi e => (by obtain ⟨vs, q⟩ := R.there i hi; rw [e, hp] at q; cases q), fun z => (by obtain ⟨vs, q⟩ := R.frozen p z; rw [hp] at q; cases q)⟩
theorem RelH.newPin (R : RelH G w vh H) (hp : H p = none) : ∀ a o, w.pin a = some o → a ≠ p := fun a o e q => by
  have := R.pinH a o e
  rw [q, hp] at this; cases this
/-- objects stay over a store that does not touch them -/
theorem RepO.put {w' : Wd} {a : Addr} {o : HO} {i : Nat} {ob : O} (c : CanPut w H a) (hn : w.n ≤ w'.n) (hρ : ∀ i, i < w.n → w'.ρ i = w.ρ i) (hf : ∀ b, w.fz b → w'.fz b) (hi : i < w.n) (hne : w.ρ i ≠ a) (hz : w'.fz (w.ρ i) → w.fz (w.ρ i))
    (h : RepO G w H i ob) : RepO G w' (upd H a o) i ob := by
  cases ob with
  | gone => trivial
  | lst ds =>
    obtain ⟨h0, vs, h1, h2⟩ := h
    refine ⟨?_, vs, ?_, RepDs.put c hn hρ hf _ _ h2⟩
    · rw [hρ i hi]; exact fun z => h0 (hz z)
    · rw [hρ i hi, upd_ne hne]; exact h1
/-- a tuple is made -/
theorem alloc_tup (R : RelH G w vh H) {ds : List D} {vs : List V} (r : RepDs G w H ds vs) (hp : H p = none) :
    Le G w H w (upd H p (.tup vs)) ∧ RelH G w vh (upd H p (.tup vs)) ∧ RepD G w (upd H p (.tup vs)) (.tup ds) (.ref p) := by
  obtain ⟨n1, n2⟩ := R.new hp
  have put := fun d v => RepD.put (G := G) (w := w) (w' := w) (o := .tup vs) (.inl hp) (Nat.le_refl _) (fun _ _ => rfl) (fun _ z => z) d v
  refine ⟨⟨Nat.le_refl _, put, rfl⟩, ⟨R.len, R.inj, fun i hi => ?_, fun a ha => ?_, fun a o e => (upd_ne (R.newPin hp a o e)).trans (R.pinH a o e), R.pinZ, fun i o e => ?_, R.xp⟩, ?_⟩
  · rw [upd_ne (n1 i hi)]; exact R.there i hi
  · rw [upd_ne (b := a) (a := p) (fun (e : a = p) => n2 (by rw [← e]; exact ha))]; exact R.frozen a ha
  · have hi : i < w.n := by have := (List.getElem?_eq_some_iff.mp e).1; rw [R.len] at this; exact this
    exact (R.obj i o e).put (.inl hp) (Nat.le_refl _) (fun _ _ => rfl) (fun _ z => z) hi (n1 i hi) fun z => z
  · simp only [RepD]
    exact ⟨p, vs, rfl, .inl (.inl upd_same), r.mono put⟩
/-- something else is made -/
theorem alloc_any (R : RelH G w vh H) (o : HO) (hp : H p = none) : Le G w H w (upd H p o) ∧ RelH G w vh (upd H p o) := by
  obtain ⟨n1, n2⟩ := R.new hp
  have put := fun d v => RepD.put (G := G) (w := w) (w' := w) (o := o) (.inl hp) (Nat.le_refl _) (fun _ _ => rfl) (fun _ z => z) d v
  refine ⟨⟨Nat.le_refl _, put, rfl⟩, ⟨R.len, R.inj, fun i hi => ?_, fun a ha => ?_, fun a o e => (upd_ne (R.newPin hp a o e)).trans (R.pinH a o e), R.pinZ, fun i o e => ?_, R.xp⟩⟩
  · rw [upd_ne (n1 i hi)]; exact R.there i hi
  · rw [upd_ne (b := a) (a := p) (fun (e : a = p) => n2 (by rw [← e]; exact ha))]; exact R.frozen a ha
  · have hi : i < w.n := by have := (List.getElem?_eq_some_iff.mp e).1; rw [R.len] at this; exact this
    exact (R.obj i o e).put (.inl hp) (Nat.le_refl _) (fun _ _ => rfl) (fun _ z => z) hi (n1 i hi) fun z => z
/-- a list is made that nobody writes -/
theorem alloc_frozen (R : RelH G w vh H) {ds : List D} {vs : List V} (r : RepDs G w H ds vs) (hp : H p = none) :
    Le G w H { w with fz := fun a => w.fz a ∨ a = p } (upd H p (.lst vs)) ∧ RelH G { w with fz := fun a => w.fz a ∨ a = p } vh (upd H p (.lst vs)) ∧
      RepD G { w with fz := fun a => w.fz a ∨ a = p } (upd H p (.lst vs)) (.lst ds) (.ref p) := by
  obtain ⟨n1, n2⟩ := R.new hp
  have put := fun d v => RepD.put (G := G) (w := w) (w' := { w with fz := fun a => w.fz a ∨ a = p }) (o := .lst vs) (.inl hp) (Nat.le_refl _) (fun _ _ => rfl) (fun _ z => .inl z) d v
  refine ⟨⟨Nat.le_refl _, put, rfl⟩, ⟨R.len, R.inj, fun i hi => ?_, fun a ha => ?_, fun a o e => (upd_ne (R.newPin hp a o e)).trans (R.pinH a o e), fun a o e => ⟨fun z => z.elim (R.pinZ a o e).1 fun q => R.newPin hp a o e q, (R.pinZ a o e).2⟩, fun i o e => ?_, R.xp⟩, ?_⟩
  · show ∃ vs', upd H p _ (w.ρ i) = some (.lst vs')
    rw [upd_ne (n1 i hi)]; exact R.there i hi
  · rcases ha with ha | rfl
    · rw [upd_ne (b := a) (a := p) (fun (e : a = p) => n2 (by rw [← e]; exact ha))]; exact R.frozen a ha
    · rw [upd_same]; simp
  · have hi : i < w.n := by have := (List.getElem?_eq_some_iff.mp e).1; rw [R.len] at this; exact this
    exact (R.obj i o e).put (w := w) (w' := { w with fz := fun a => w.fz a ∨ a = p }) (.inl hp) (Nat.le_refl _) (fun _ _ => rfl) (fun _ z => .inl z) hi (n1 i hi) fun z => z.elim (fun q => q) fun e => (n1 i hi e).elim
  · simp only [RepD]
    exact ⟨p, vs, rfl, ⟨upd_same, .inr rfl⟩, r.mono put⟩
/-- a list is made that may be written -/
theorem alloc_lst (R : RelH G w vh H) {ds : List D} {vs : List V} (r : RepDs G w H ds vs) (hp : H p = none) :
    Le G w H { w with ρ := fun i => if i = w.n then p else w.ρ i, n := w.n + 1 } (upd H p (.lst vs)) ∧ RelH G { w with ρ := fun i => if i = w.n then p else w.ρ i, n := w.n + 1 } (vh ++ [.lst ds]) (upd H p (.lst vs)) ∧
      RepD G { w with ρ := fun i => if i = w.n then p else w.ρ i, n := w.n + 1 } (upd H p (.lst vs)) (.ref vh.length) (.ref p) := by
  obtain ⟨n1, n2⟩ := R.new hp
  generalize hw : ({ w with ρ := fun i => if i = w.n then p else w.ρ i, n := w.n + 1 } : Wd) = w'
  have e1 : w'.n = w.n + 1 := by rw [← hw]
  have e2 : ∀ i, i < w.n → w'.ρ i = w.ρ i := fun i hi => by rw [← hw]; show (if i = w.n then p else w.ρ i) = _; rw [if_neg (Nat.ne_of_lt hi)]
  have e3 : w'.ρ w.n = p := by rw [← hw]; show (if w.n = w.n then p else _) = _; rw [if_pos rfl]
  have e4 : w'.fz = w.fz := by rw [← hw]
  have e5 : w'.pin = w.pin := by rw [← hw]
  have put := fun d v => RepD.put (G := G) (w := w) (w' := w') (o := .lst vs) (.inl hp) (by rw [e1]; exact Nat.le_succ _) e2 (fun _ z => by rw [e4]; exact z) d v
  have cases_ : ∀ i, i < w'.n → i < w.n ∨ i = w.n := fun i hi => by rw [e1] at hi; omega
  refine ⟨⟨by rw [e1]; exact Nat.le_succ _, put, e5⟩, ⟨by rw [List.length_append, R.len, e1]; rfl, fun i j hi hj e => ?_, fun i hi => ?_, fun a ha => ?_, fun a o e => by rw [e5] at e; exact (upd_ne (R.newPin hp a o e)).trans (R.pinH a o e),
    fun a o e => by
      rw [e5] at e
      refine ⟨by rw [e4]; exact (R.pinZ a o e).1, fun i hi => ?_⟩
      rcases cases_ i hi with hi | rfl
      · rw [e2 i hi]; exact (R.pinZ a o e).2 i hi
      · rw [e3]; exact (R.newPin hp a o e).symm, fun i o e => ?_, by rw [e5]; exact R.xp⟩, ?_⟩
  · rcases cases_ i hi with hi | rfl <;> rcases cases_ j hj with hj | rfl
    · rw [e2 i hi, e2 j hj] at e; exact R.inj i j hi hj e
    · rw [e2 i hi, e3] at e; exact (n1 i hi e).elim
    · rw [e2 j hj, e3] at e; exact (n1 j hj e.symm).elim
    · rfl
  · rcases cases_ i hi with hi | rfl
    · rw [e2 i hi, upd_ne (n1 i hi)]; exact R.there i hi
    · rw [e3, upd_same]; simp
  · rw [e4] at ha
    rw [upd_ne (b := a) (a := p) (fun (e : a = p) => n2 (by rw [← e]; exact ha))]; exact R.frozen a ha
  · by_cases hi : i < w.n
    · rw [List.getElem?_append_left (by rw [R.len]; exact hi)] at e
      refine (R.obj i o e).put (.inl hp) (by rw [e1]; exact Nat.le_succ _) e2 (fun _ z => by rw [e4]; exact z) hi (n1 i hi) fun z => by rw [e4] at z; exact z
    · have hlt := (List.getElem?_eq_some_iff.mp e).1
      rw [List.length_append, R.len, List.length_singleton] at hlt
      have : i = w.n := by omega
      subst this
      rw [List.getElem?_append_right (by rw [R.len]; exact Nat.le_refl _), R.len, Nat.sub_self] at e
      cases e
      refine ⟨by rw [e3, e4]; exact n2, vs, by rw [e3, upd_same], r.mono put⟩
  · simp only [RepD]
    rw [R.len, e3, e1]
    exact ⟨Nat.lt_succ_self _, rfl⟩
/-- a list is written -/
theorem write_lst (R : RelH G w vh H) {i : Nat} {ds es : List D} {us : List V} (hv : vh[i]? = some (.lst ds)) (r : RepDs G w H es us) :
    Le G w H w (upd H (w.ρ i) (.lst us)) ∧ RelH G w (vh.set i (.lst es)) (upd H (w.ρ i) (.lst us)) := by
  have hi : i < w.n := by have := (List.getElem?_eq_some_iff.mp hv).1; rw [R.len] at this; exact this
  obtain ⟨h0, vs, h1, h2⟩ := R.obj i _ hv
  have can : CanPut w H (w.ρ i) := .inr ⟨by rw [h1]; trivial, h0⟩
  have put := fun d v => RepD.put (G := G) (w := w) (w' := w) (o := .lst us) can (Nat.le_refl _) (fun _ _ => rfl) (fun _ z => z) d v
  refine ⟨⟨Nat.le_refl _, put, rfl⟩, ⟨by rw [List.length_set]; exact R.len, R.inj, fun j hj => ?_, fun a ha => ?_, fun a o e => (upd_ne ((R.pinZ a o e).2 i hi).symm).trans (R.pinH a o e), R.pinZ, fun j o e => ?_, R.xp⟩⟩
  · by_cases e : w.ρ j = w.ρ i
    · rw [e, upd_same]; simp
    · rw [upd_ne e]; exact R.there j hj
  · by_cases e : a = w.ρ i
    · subst e; exact (h0 ha).elim
    · rw [upd_ne e]; exact R.frozen a ha
  · by_cases hji : i = j
    · subst hji
      rw [List.getElem?_set_self (by rw [R.len]; exact hi)] at e
      cases e
      exact ⟨h0, us, upd_same, r.mono put⟩
    · rw [List.getElem?_set_ne hji] at e
      have hj : j < w.n := by have := (List.getElem?_eq_some_iff.mp e).1; rw [R.len] at this; exact this
      exact (R.obj j o e).put can (Nat.le_refl _) (fun _ _ => rfl) (fun _ z => z) hj (fun q => hji (R.inj j i hj hi q).symm) fun z => z
/-- a list is frozen: a step of the mind alone -/
theorem freeze (R : RelH G w vh H) {i : Nat} {ds : List D} (hv : vh[i]? = some (.lst ds)) :
    Le G w H { w with fz := fun a => w.fz a ∨ a = w.ρ i } H ∧ RelH G { w with fz := fun a => w.fz a ∨ a = w.ρ i } (vh.set i .gone) H ∧
      RepD G { w with fz := fun a => w.fz a ∨ a = w.ρ i } H (.lst ds) (.ref (w.ρ i)) := by
  have hi : i < w.n := by have := (List.getElem?_eq_some_iff.mp hv).1; rw [R.len] at this; exact this
  obtain ⟨h0, vs, h1, h2⟩ := R.obj i _ hv
  have same : upd H (w.ρ i) (.lst vs) = H := by
    funext b; unfold upd; split
    · rename_i e; rw [e, h1]
    · rfl
  have put := fun d v => RepD.put (G := G) (w := w) (H := H) (w' := { w with fz := fun a => w.fz a ∨ a = w.ρ i }) (o := .lst vs) (a := w.ρ i) (.inr ⟨by rw [h1]; trivial, h0⟩) (Nat.le_refl _) (fun _ _ => rfl) (fun _ z => .inl z) d v
  rw [same] at put
  refine ⟨⟨Nat.le_refl _, put, rfl⟩, ⟨by rw [List.length_set]; exact R.len, R.inj, R.there, fun a ha => ?_, R.pinH, fun a o e => ⟨fun z => z.elim (R.pinZ a o e).1 fun q => (R.pinZ a o e).2 i hi q.symm, (R.pinZ a o e).2⟩, fun j o e => ?_, R.xp⟩, ?_⟩
  · rcases ha with ha | rfl
    · exact R.frozen a ha
    · rw [h1]; simp
  · by_cases hji : i = j
    · subst hji
      rw [List.getElem?_set_self (by rw [R.len]; exact hi)] at e
      cases e
      trivial
    · rw [List.getElem?_set_ne hji] at e
      have hj : j < w.n := by have := (List.getElem?_eq_some_iff.mp e).1; rw [R.len] at this; exact this
      have z := R.obj j o e
      cases o with
      | gone => trivial
      | lst es =>
        obtain ⟨g0, us, g1, g2⟩ := z
        exact ⟨fun q => q.elim g0 fun q => hji (R.inj j i hj hi q).symm, us, g1, g2.mono put⟩
  · simp only [RepD]
    exact ⟨_, vs, rfl, ⟨h1, .inr rfl⟩, h2.mono put⟩
end

/-! ### behind a call: what it made for itself alone is forgotten -/
mutual
/-- no virtual object is named -/
def D.pure : D → Bool
  | .tup ds => D.pures ds
  | .lst ds => D.pures ds
  | .scr ds => D.pures ds
  | .ref _ => false
  | _ => true
def D.pures : List D → Bool
  | [] => true
  | d :: ds => d.pure && D.pures ds
end
mutual
theorem RepD.cut {w w1 : Wd} {H H1 : Hp} (hn : w.n ≤ w1.n) (hρ : True) : ∀ (d : D) (v : V), (∀ i, d = .ref i → i < w.n) → RepD G w1 H1 d v → (d.pure = true ∨ ∃ v', RepD G w H d v') → RepD G { w1 with n := w.n } H1 d v
  | .non, v, _, h, _ => by simpa only [RepD] using h
  | .bl b, v, _, h, _ => by simpa only [RepD] using h
  | .int i, v, _, h, _ => by simpa only [RepD] using h
  | .str x, v, _, h, _ => by simpa only [RepD] using h
  | .gl x, v, _, h, _ => by simpa only [RepD] using h
  | .ref n, v, hr, h, _ => by
    simp only [RepD] at h ⊢
    exact ⟨hr n rfl, h.2⟩
  | .tup ds, v, _, h, z => by
    simp only [RepD] at h ⊢
    obtain ⟨p, vs, e, h1, h2⟩ := h
    refine ⟨p, vs, e, h1, RepDs.cut (H := H) hn hρ ds vs h2 ?_⟩
    rcases z with z | ⟨v', z⟩
    · exact .inl (by simpa only [D.pure] using z)
    · simp only [RepD] at z
      obtain ⟨_, vs', _, _, z⟩ := z
      exact .inr ⟨vs', z⟩
  | .lst ds, v, _, h, z => by
    simp only [RepD] at h ⊢
    obtain ⟨p, vs, e, h1, h2⟩ := h
    refine ⟨p, vs, e, h1, RepDs.cut (H := H) hn hρ ds vs h2 ?_⟩
    rcases z with z | ⟨v', z⟩
    · exact .inl (by simpa only [D.pure] using z)
    · simp only [RepD] at z
      obtain ⟨_, vs', _, _, z⟩ := z
      exact .inr ⟨vs', z⟩
  | .scr ds, v, _, h, z => by
    simp only [RepD] at h ⊢
    obtain ⟨p, vs, e, h1, h2⟩ := h
    refine ⟨p, vs, e, h1, RepDs.cut (H := H) hn hρ ds vs h2 ?_⟩
    rcases z with z | ⟨v', z⟩
    · exact .inl (by simpa only [D.pure] using z)
    · simp only [RepD] at z
      obtain ⟨_, vs', _, _, z⟩ := z
      exact .inr ⟨vs', z⟩
theorem RepDs.cut {w w1 : Wd} {H H1 : Hp} (hn : w.n ≤ w1.n) (hρ : True) : ∀ (ds : List D) (vs : List V), RepDs G w1 H1 ds vs → (D.pures ds = true ∨ ∃ vs', RepDs G w H ds vs') → RepDs G { w1 with n := w.n } H1 ds vs
  | [], vs, h, _ => by simpa only [RepDs] using h
  | d :: ds, vs, h, z => by
    simp only [RepDs] at h ⊢
    obtain ⟨v, vs', e, h1, h2⟩ := h
    rcases z with z | ⟨us, z⟩
    · simp only [D.pures, Bool.and_eq_true] at z
      exact ⟨v, vs', e, RepD.cut (H := H) hn hρ d v (fun i q => by subst q; simp [D.pure] at z) h1 (.inl z.1), RepDs.cut (H := H) hn hρ ds vs' h2 (.inl z.2)⟩
    · simp only [RepDs] at z
      obtain ⟨u, us', _, z1, z2⟩ := z
      exact ⟨v, vs', e, RepD.cut (H := H) hn hρ d v (fun i q => by subst q; simp only [RepD] at z1; exact z1.1) h1 (.inr ⟨u, z1⟩), RepDs.cut (H := H) hn hρ ds vs' h2 (.inr ⟨us', z2⟩)⟩
end
theorem cut_call {w w1 : Wd} {H H1 : Hp} {vh vh1 : VH} (R : RelH G w vh H) (L : Le G w H w1 H1) (R1 : RelH G w1 vh1 H1) (hv : vh1.take vh.length = vh) {d : D} {v : V} (r : RepD G w1 H1 d v) (hp : d.pure = true) :
    Le G w H { w1 with n := w.n } H1 ∧ RelH G { w1 with n := w.n } vh H1 ∧ RepD G { w1 with n := w.n } H1 d v := by
  have lt : ∀ {d : D} {u : V}, RepD G w H d u → ∀ i, d = .ref i → i < w.n := fun {d u} h i q => by
    subst q; simp only [RepD] at h; exact h.1
  have le : ∀ d u, RepD G w H d u → RepD G { w1 with n := w.n } H1 d u := fun d u h => RepD.cut L.n trivial d u (lt h) (L.rep d u h) (.inr ⟨u, h⟩)
  refine ⟨⟨Nat.le_refl _, le, L.pin⟩, ⟨R.len, fun i j hi hj => R1.inj i j (Nat.lt_of_lt_of_le hi L.n) (Nat.lt_of_lt_of_le hj L.n), fun i hi => R1.there i (Nat.lt_of_lt_of_le hi L.n), R1.frozen, R1.pinH,
    fun a o e => ⟨(R1.pinZ a o e).1, fun i hi => (R1.pinZ a o e).2 i (Nat.lt_of_lt_of_le hi L.n)⟩, fun i o e => ?_, R1.xp⟩, ?_⟩
  · have e1 : vh1[i]? = some o := by
      have hi := (List.getElem?_eq_some_iff.mp e).1
      rw [← hv, List.getElem?_take_of_lt hi] at e
      exact e
    have z := R1.obj i o e1
    have z0 := R.obj i o e
    cases o with
    | gone => trivial
    | lst ds =>
      obtain ⟨h0, vs, h1, h2⟩ := z
      obtain ⟨_, us, _, g2⟩ := z0
      exact ⟨h0, vs, h1, RepDs.cut (w := w) (H := H) L.n trivial _ _ h2 (.inr ⟨us, g2⟩)⟩
  · exact RepD.cut (w := w) (H := H) L.n trivial d v (fun i q => by subst q; simp [D.pure] at hp) r (.inl hp)
end L3
end
section
set_option Elab.async false
set_option linter.all false
set_option maxRecDepth 100000
set_option maxHeartbeats 2000000
namespace L3
open PySem PySem.Spec L2
open PyProof.Rows hiding St

/-! ### what a piece of text does: an answer, an error, or nothing that is told -/
inductive Res (α : Type) where
  | ok (a : α) (vh : VH)
  | exn (c : Nat) (fs : List (Str × D)) (vh : VH)
  | bad
def Res.bind {α β : Type} : Res α → (α → VH → Res β) → Res β
  | .ok a vh, k => k a vh
  | .exn c fs vh, _ => .exn c fs vh
  | .bad, _ => .bad
@[simp] theorem Res.bind_ok {α β : Type} (a : α) (vh : VH) (k : α → VH → Res β) : (Res.ok a vh).bind k = k a vh := rfl
@[simp] theorem Res.bind_exn {α β : Type} (c : Nat) (fs : List (Str × D)) (vh : VH) (k : α → VH → Res β) : (Res.exn c fs vh).bind k = .exn c fs vh := rfl
@[simp] theorem Res.bind_bad {α β : Type} (k : α → VH → Res β) : (Res.bad).bind k = .bad := rfl
def Res.ofO {α : Type} : Option (α × VH) → Res α
  | some (a, vh) => .ok a vh
  | none => .bad
@[simp] theorem Res.ofO_some {α : Type} (a : α) (vh : VH) : Res.ofO (some (a, vh)) = .ok a vh := rfl
@[simp] theorem Res.ofO_none {α : Type} : (Res.ofO none : Res α) = .bad := rfl
abbrev Env3 := List (Option D)

/-- an error's fields -/
def RepFs (G : Gx) (w : Wd) (H : Hp) (fs : List (Str × D)) (fv : List (Str × V)) : Prop := ∀ x d, fs.lookup x = some d → ∃ v, fv.lookup x = some v ∧ RepD G w H d v
theorem RepFs.mono {G : Gx} {w w' : Wd} {H H' : Hp} (f : ∀ d v, RepD G w H d v → RepD G w' H' d v) {fs : List (Str × D)} {fv : List (Str × V)} (h : RepFs G w H fs fv) : RepFs G w' H' fs fv := fun x d e => by
  obtain ⟨v, e', r⟩ := h x d e
  exact ⟨v, e', f _ _ r⟩

section
variable {G : Gx} {α β γ : Type}
/-- what is wanted of the answer: rep tells how it lies -/
def Post (G : Gx) (rep : Wd → Hp → α → β → Prop) (E : XK) (w : Wd) (H : Hp) (Q : β → Hp → Prop) : Res α → Prop
  | .ok a vh => ∀ w' b H', Le G w H w' H' → RelH G w' vh H' → rep w' H' a b → Q b H'
  | .exn c fs vh => ∀ w' dx fv H', Le G w H w' H' → RelH G w' vh H' → H' dx = some (.xd fv) → RepFs G w' H' fs fv → E (.ref (G.ga c)) (some dx) H'
  | .bad => False
theorem Post.of_le {rep : Wd → Hp → α → β → Prop} {E : XK} {w w1 : Wd} {H H1 : Hp} {Q : β → Hp → Prop} {r : Res α} (h : Post G rep E w H Q r) (L : Le G w H w1 H1) : Post G rep E w1 H1 Q r := by
  cases r with
  | ok a vh => exact fun w' b H' l => h w' b H' (L.trans l)
  | exn c fs vh => exact fun w' dx fv H' l => h w' dx fv H' (L.trans l)
  | bad => exact h
theorem Post.mono {rep : Wd → Hp → α → β → Prop} {E : XK} {w : Wd} {H : Hp} {Q Q' : β → Hp → Prop} {r : Res α} (h : Post G rep E w H Q r) (f : ∀ b H', Q b H' → Q' b H') : Post G rep E w H Q' r := by
  cases r with
  | ok a vh => exact fun w' b H' l r q => f _ _ (h w' b H' l r q)
  | exn c fs vh => exact h
  | bad => exact h
theorem Post.bind {δ : Type} {rep : Wd → Hp → α → β → Prop} {rep' : Wd → Hp → γ → δ → Prop} {E : XK} {w : Wd} {H : Hp} {Q : δ → Hp → Prop} {r : Res α} {k : α → VH → Res γ} (h : Post G rep' E w H Q (r.bind k)) :
    Post G rep E w H (fun b H1 => ∃ w1 a vh1, Le G w H w1 H1 ∧ RelH G w1 vh1 H1 ∧ rep w1 H1 a b ∧ Post G rep' E w1 H1 Q (k a vh1)) r := by
  cases r with
  | ok a vh => exact fun w' b H' l r q => ⟨w', a, vh, l, r, q, h.of_le l⟩
  | exn c fs vh => exact h
  | bad => exact h
theorem Post.here {rep : Wd → Hp → α → β → Prop} {E : XK} {w : Wd} {H : Hp} {Q : β → Hp → Prop} {a : α} {vh : VH} {b : β} (h : Post G rep E w H Q (.ok a vh)) (R : RelH G w vh H) (r : rep w H a b) : Q b H := h w b H Le.refl R r

/-- the names' values -/
structure RelE (G : Gx) (w : Wd) (H : Hp) (env : Env3) (σ : St) : Prop where
  len : env.length = σ.length
  at_ : ∀ (i : Nat) (d : D), env[i]? = some (some d) → ∃ v, σ[i]? = some (some v) ∧ RepD G w H d v
theorem RelE.le {w w' : Wd} {H H' : Hp} {env : Env3} {σ : St} (h : RelE G w H env σ) (L : Le G w H w' H') : RelE G w' H' env σ :=
  ⟨h.len, fun i d e => let ⟨v, e', r⟩ := h.at_ i d e; ⟨v, e', L.rep _ _ r⟩⟩
theorem RelE.set {w : Wd} {H : Hp} {env : Env3} {σ : St} {d : D} {v : V} (h : RelE G w H env σ) (i : Nat) (r : RepD G w H d v) : RelE G w H (env.set i (some d)) (σ.set i (some v)) := by
  refine ⟨by rw [List.length_set, List.length_set]; exact h.len, fun j e hj => ?_⟩
  by_cases hij : i = j
  · subst hij
    have hl : i < env.length := by have := (List.getElem?_eq_some_iff.mp hj).1; rwa [List.length_set] at this
    rw [List.getElem?_set_self hl] at hj
    cases hj
    exact ⟨v, by rw [List.getElem?_set_self (by rw [← h.len]; exact hl)], r⟩
  · rw [List.getElem?_set_ne hij] at hj
    obtain ⟨u, e', r'⟩ := h.at_ j e hj
    exact ⟨u, by rw [List.getElem?_set_ne hij]; exact e', r'⟩
theorem RelE.unset {w : Wd} {H : Hp} {env : Env3} {σ : St} (h : RelE G w H env σ) (i : Nat) : RelE G w H (env.set i none) (σ.set i none) := by
  refine ⟨by rw [List.length_set, List.length_set]; exact h.len, fun j e hj => ?_⟩
  by_cases hij : i = j
  · subst hij
    have hl : i < env.length := by have := (List.getElem?_eq_some_iff.mp hj).1; rwa [List.length_set] at this
    rw [List.getElem?_set_self hl] at hj
    cases hj
  · rw [List.getElem?_set_ne hij] at hj
    obtain ⟨u, e', r'⟩ := h.at_ j e hj
    exact ⟨u, by rw [List.getElem?_set_ne hij]; exact e', r'⟩
def wipeE (env : Env3) : List Nat → Env3
  | [] => env
  | v :: vs => (wipeE env vs).set v none
theorem RelE.wipe {w : Wd} {H : Hp} {env : Env3} {σ : St} (h : RelE G w H env σ) : ∀ vs : List Nat, RelE G w H (wipeE env vs) (wipe σ vs)
  | [] => h
  | v :: vs => (h.wipe vs).unset v

/-! ### the readings -/
def repT (_ : Wd) (_ : Hp) (a b : Bool) : Prop := a = b
def tE (G : Gx) (W : WX) (f : Env3 → VH → Res D) : TE := fun σ H Q => ∃ w env vh, RelH G w vh H ∧ RelE G w H env σ ∧ Post G (RepD G) (fun c d H' => W c d σ H') w H Q (f env vh)
def tAs (G : Gx) (W : WX) (f : Env3 → VH → Res (List D)) : TA := fun σ H Q => ∃ w env vh, RelH G w vh H ∧ RelE G w H env σ ∧ Post G (RepDs G) (fun c d H' => W c d σ H') w H Q (f env vh)
def tTs (G : Gx) (W : WX) (f : Env3 → VH → Res Bool) : TT := fun σ H Q => ∃ w env vh, RelH G w vh H ∧ RelE G w H env σ ∧ Post G repT (fun c d H' => W c d σ H') w H Q (f env vh)

variable {X : Cx}
theorem PE.imp {e : Expr} {t t' : TE} (h : PE X e t) (f : ∀ σ H Q, t' σ H Q → t σ H Q) : PE X e t' := ⟨fun pins s σ H Q I q => h.run pins s σ H Q I (f _ _ _ q)⟩
theorem PT.imp {e : Expr} {t t' : TT} (h : PT X e t) (f : ∀ σ H Q, t' σ H Q → t σ H Q) : PT X e t' := ⟨fun pins s σ H Q I q => h.run pins s σ H Q I (f _ _ _ q)⟩
theorem PW.imp {e : Expr} {t t' : TT} (h : PW X e t) (f : ∀ σ H Q, t' σ H Q → t σ H Q) : PW X e t' := ⟨fun wh pins s σ H Q I q => h.run wh pins s σ H Q I (f _ _ _ q)⟩
theorem PA.imp {e : List Expr} {t t' : TA} (h : PA X e t) (f : ∀ σ H Q, t' σ H Q → t σ H Q) : PA X e t' := ⟨fun pos pins s σ H Q I q => h.run pos pins s σ H Q I (f _ _ _ q)⟩
theorem PS.imp {e : Stmt} {t t' : TS} (h : PS X e t) (f : ∀ D σ H, t' D σ H → t D σ H) : PS X e t' := ⟨fun pins s σ H D I q => h.run pins s σ H D I (f _ _ _ q)⟩
theorem PSs.imp {e : List Stmt} {t t' : TS} (h : PSs X e t) (f : ∀ D σ H, t' D σ H → t D σ H) : PSs X e t' := ⟨fun pins s σ H D I q => h.run pins s σ H D I (f _ _ _ q)⟩
theorem PG.imp {e : Expr} {t t' : TG} (h : PG X e t) (f : ∀ v σ H Q, t' v σ H Q → t v σ H Q) : PG X e t' := ⟨fun pins s σ H v u Q I r q => h.run pins s σ H v u Q I r (f _ _ _ _ q)⟩

/-! ### operations by values: what they ask of where things lie -/
/-- an operation's answer, no errors -/
def PostO (G : Gx) (w : Wd) (H : Hp) (Q : VK) : Option (D × VH) → Prop
  | some (d, vh) => ∀ w' v H', Le G w H w' H' → RelH G w' vh H' → RepD G w' H' d v → Q v H'
  | none => False
theorem PostO.of {E : XK} {w : Wd} {H : Hp} {Q : VK} {o : Option (D × VH)} (h : Post G (RepD G) E w H Q (.ofO o)) : PostO G w H Q o := by
  cases o with
  | none => exact h
  | some p => exact h
/-- a two-place operation on data is what the layer's rule says -/
def OpSays (G : Gx) (f : VH → D → D → Option (D × VH)) (r : R2) : Prop := ∀ w vh H a b x y Q, RelH G w vh H → RepD G w H a x → RepD G w H b y → PostO G w H Q (f vh a b) → r x y H Q
def UnSays (G : Gx) (f : VH → D → Option (D × VH)) (r : V → Hp → VK → Prop) : Prop := ∀ w vh H a x Q, RelH G w vh H → RepD G w H a x → PostO G w H Q (f vh a) → r x H Q
def CallSays (G : Gx) (f : VH → List D → Option (D × VH)) (r : List V → Hp → VK → Prop) : Prop := ∀ w vh H as xs Q, RelH G w vh H → RepDs G w H as xs → PostO G w H Q (f vh as) → r xs H Q

section
variable {W : WX} {a b : Expr} {f g : Env3 → VH → Res D} {pos : Pos}
theorem tE_op {o : VH → D → D → Option (D × VH)} {r : R2} (hr : OpSays G o r) : ∀ σ H Q, tE G W (fun env vh => (f env vh).bind fun x vh1 => (g env vh1).bind fun y vh2 => .ofO (o vh2 x y)) σ H Q → tOp r (tE G W f) (tE G W g) σ H Q := fun σ H Q ⟨w, env, vh, R, RE, h⟩ =>
  ⟨w, env, vh, R, RE, (h.bind (rep := RepD G)).mono fun u H1 ⟨w1, x, vh1, L1, R1, r1, h1⟩ => ⟨w1, env, vh1, R1, RE.le L1, (h1.bind (rep := RepD G)).mono fun v H2 ⟨w2, y, vh2, L2, R2, r2, h2⟩ =>
    hr w2 vh2 H2 x y u v Q R2 (L2.rep _ _ r1) r2 (.of h2)⟩⟩
theorem se_bin {op : Operator} {o : VH → D → D → Option (D × VH)} {r : R2} (ho : OpR X (binaryOp op) r) (hr : OpSays G o r) (ha : PE X a (tE G W f)) (hb : PE X b (tE G W g)) :
    PE X (.BinOp a op b pos) (tE G W (fun env vh => (f env vh).bind fun x vh1 => (g env vh1).bind fun y vh2 => .ofO (o vh2 x y))) := PE.imp (pe_op ho ha hb) (tE_op hr)
theorem se_cmp {op : CmpOp} {o : VH → D → D → Option (D × VH)} {r : R2} (ho : OpR X (compareOp op) r) (hr : OpSays G o r) (ha : PE X a (tE G W f)) (hb : PE X b (tE G W g)) (hm : behindInMarks op b = false) :
    PE X (.Compare a [op] [b] pos) (tE G W (fun env vh => (f env vh).bind fun x vh1 => (g env vh1).bind fun y vh2 => .ofO (o vh2 x y))) := PE.imp (pe_cmpR ho ha hb hm) (tE_op hr)
theorem se_idx {o : VH → D → D → Option (D × VH)} {r : R2} (ho : IxR X r) (hr : OpSays G o r) (ha : PE X a (tE G W f)) (hb : PE X b (tE G W g)) (hs : PlainIx b) :
    PE X (.Subscript a b pos) (tE G W (fun env vh => (f env vh).bind fun x vh1 => (g env vh1).bind fun y vh2 => .ofO (o vh2 x y))) := PE.imp (pe_ix ho ha hb hs) (tE_op hr)
theorem se_un {op : UnaryOp} {o : VH → D → Option (D × VH)} {r : V → Hp → VK → Prop} (ho : UnR X (unaryOp op) r) (hr : UnSays G o r) (ha : PE X a (tE G W f)) :
    PE X (.UnaryOp op a pos) (tE G W (fun env vh => (f env vh).bind fun x vh1 => .ofO (o vh1 x))) := PE.imp (pe_un ho ha) fun σ H Q ⟨w, env, vh, R, RE, h⟩ =>
  ⟨w, env, vh, R, RE, (h.bind (rep := RepD G)).mono fun u H1 ⟨w1, x, vh1, L1, R1, r1, h1⟩ => hr w1 vh1 H1 x u Q R1 r1 (.of h1)⟩
theorem se_call {t : List Expr} {x : Str} {id : String} {p : Pos} {fs : Env3 → VH → Res (List D)} {o : VH → List D → Option (D × VH)} {r : List V → Hp → VK → Prop} {e : Expr} (hc : CallR X (.builtin id) r) (hr : CallSays G o r) (hg : Gl X x) (hm : X.mg x = none) (hv : bootBuiltins x = some (.builtin id))
    (ha : PA X (e :: t) (tAs G W fs)) (hn : x ≠ "__name__") (hdb : (x == ("__debug__" : Str)) = false) (he : starEach (e :: t) X.env = (false, eval e X.env) :: starEach t X.env) (hpl : (backTo pos (starEach t X.env)).any (·.1) = false) :
    PE X (.Call (.Name x p) (e :: t) [] pos) (tE G W (fun env vh => (fs env vh).bind fun xs vh1 => .ofO (o vh1 xs))) := PE.imp (pe_callB hc hg hm hv ha hn hdb he hpl) fun σ H Q ⟨w, env, vh, R, RE, h⟩ =>
  ⟨w, env, vh, R, RE, (h.bind (rep := RepDs G)).mono fun u H1 ⟨w1, xs, vh1, L1, R1, r1, h1⟩ => hr w1 vh1 H1 xs u Q R1 r1 (.of h1)⟩
theorem se_callTy {t : List Expr} {x : Str} {T : String} {p : Pos} {fs : Env3 → VH → Res (List D)} {o : VH → List D → Option (D × VH)} {r : List V → Hp → VK → Prop} {e : Expr} (hc : CallR X (.type T) r) (hr : CallSays G o r) (hg : Gl X x) (hm : X.mg x = none) (hv : bootBuiltins x = some (.type T))
    (ha : PA X (e :: t) (tAs G W fs)) (hn : x ≠ "__name__") (hdb : (x == ("__debug__" : Str)) = false) (he : starEach (e :: t) X.env = (false, eval e X.env) :: starEach t X.env) (hpl : (backTo pos (starEach t X.env)).any (·.1) = false) :
    PE X (.Call (.Name x p) (e :: t) [] pos) (tE G W (fun env vh => (fs env vh).bind fun xs vh1 => .ofO (o vh1 xs))) := PE.imp (pe_callTy hc hg hm hv ha hn hdb he hpl) fun σ H Q ⟨w, env, vh, R, RE, h⟩ =>
  ⟨w, env, vh, R, RE, (h.bind (rep := RepDs G)).mono fun u H1 ⟨w1, xs, vh1, L1, R1, r1, h1⟩ => hr w1 vh1 H1 xs u Q R1 r1 (.of h1)⟩

/-! ### names, constants -/
def varE (i : Nat) (env : Env3) (vh : VH) : Res D := match env[i]? with
  | some (some d) => .ok d vh
  | _ => .bad
theorem se_var {i : Nat} {x : Str} (hN : X.N[i]? = some x) (hv : Vis X.env.scope x) (hd : (x == ("__debug__" : Str)) = false) (hcd : (x == ("__classdict__" : Str)) = false) : PE X (.Name x pos) (tE G W (varE i)) :=
  PE.imp (pe_var hN hv hd hcd) fun σ H Q ⟨w, env, vh, R, RE, h⟩ => by
    unfold varE at h
    split at h
    · rename_i d e
      obtain ⟨v, e', r⟩ := RE.at_ i d e
      exact ⟨v, e', h.here R r⟩
    · exact h.elim
def cstD : Const → Option D
  | .none => some .non
  | .bool b => some (.bl b)
  | .int i => some (.int i)
  | .str x => some (.str x)
  | _ => none
theorem se_cst {c : Const} {d : D} {k : Nat} (hc : cstD c = some d) : PE X (.Constant c k pos) (tE G W fun _ vh => .ok d vh) := by
  have go : ∀ {v : V}, (∀ w H, RepD G w H d v) → PE X (.Constant c k pos) (tC v) → PE X (.Constant c k pos) (tE G W fun _ vh => .ok d vh) := fun {v} r h =>
    PE.imp h fun σ H Q ⟨w, env, vh, R, RE, q⟩ => q.here R (r w H)
  cases c with
  | none => cases hc; exact go (v := .non) (fun _ _ => by simp only [RepD]) pe_non
  | bool b => cases hc; exact go (v := .bl b) (fun _ _ => by simp only [RepD]) pe_bl
  | int i => cases hc; exact go (v := .int i) (fun _ _ => by simp only [RepD]) pe_int
  | str x => cases hc; exact go (v := .str x) (fun _ _ => by simp only [RepD]) pe_str
  | float _ => cases hc
  | complex _ _ => cases hc
  | bytes _ => cases hc
  | ellipsis => cases hc
/-- a constant of the module -/
theorem se_glc {x : Str} {d : D} {v : V} {u : Value} (hg : Gl X x) (hm : X.mg x = some u) (rv : RelV v u) (rd : ∀ w H, RepD G w H d v) (hd : (x == ("__debug__" : Str)) = false) : PE X (.Name x pos) (tE G W fun _ vh => .ok d vh) :=
  PE.imp (pe_glob hg hm rv hd) fun σ H Q ⟨w, env, vh, R, RE, q⟩ => q.here R (rd w H)

/-! ### truth, and, or, not, a if t else b -/
def truthD (vh : VH) : D → Option Bool
  | .non => some false
  | .bl b => some b
  | .int i => some (i != 0)
  | .str x => if x.length ≤ sizeLine then some (x.length != 0) else none
  | .tup ds => some !ds.isEmpty
  | .lst ds => some !ds.isEmpty
  | .scr ds => some !ds.isEmpty
  | .ref n => match vh[n]? with
    | some (.lst ds) => some !ds.isEmpty
    | _ => none
  | .gl _ => none
def truthR (d : D) (vh : VH) : Res Bool := .ofO ((truthD vh d).map fun k => (k, vh))
theorem truthR_ok {d : D} {vh : VH} {k : Bool} (h : truthD vh d = some k) : truthR d vh = .ok k vh := by
  unfold truthR; rw [h]; rfl
theorem isEmpty_rep {w : Wd} {H : Hp} {ds : List D} {vs : List V} (h : RepDs G w H ds vs) : vs.isEmpty = ds.isEmpty := by
  have := h.length
  cases ds <;> cases vs <;> simp_all
theorem truth_ok {w : Wd} {vh : VH} {H : Hp} {d : D} {v : V} {k : Bool} (R : RelH G w vh H) (r : RepD G w H d v) (h : truthD vh d = some k) : TruV G.K v H k := by
  cases d with
  | non => cases h; simp only [RepD] at r; subst r; rfl
  | bl b => cases h; simp only [RepD] at r; subst r; rfl
  | int i => cases h; simp only [RepD] at r; subst r; rfl
  | str x =>
    simp only [RepD] at r; subst r
    unfold truthD at h
    dsimp only at h
    split at h
    · rename_i hx
      cases h
      refine ⟨hx, ?_⟩
      rw [bne, bne]; congr 1
      by_cases hz : x.length = 0
      · rw [hz]; rfl
      · have a1 : (x.length == 0) = false := by simp [hz]
        have a2 : (((x.length : Nat) : Int) == 0) = false := by
          rw [beq_eq_false_iff_ne]; omega
        rw [a1, a2]
    · cases h
  | tup ds =>
    cases h; simp only [RepD] at r
    obtain ⟨p, vs, rfl, h1, h2⟩ := r
    exact .inr (.inl ⟨vs, h1, by rw [isEmpty_rep h2]⟩)
  | lst ds =>
    cases h; simp only [RepD] at r
    obtain ⟨p, vs, rfl, h1, h2⟩ := r
    exact .inl ⟨vs, .of h1.1, by rw [isEmpty_rep h2]⟩
  | scr ds =>
    cases h; simp only [RepD] at r
    obtain ⟨p, vs, rfl, h1, h2⟩ := r
    exact .inl ⟨vs, h1.sq, by rw [isEmpty_rep h2]⟩
  | ref n =>
    simp only [RepD] at r
    obtain ⟨hn, rfl⟩ := r
    unfold truthD at h
    dsimp only at h
    split at h
    · rename_i ds e
      cases h
      obtain ⟨_, vs, h1, h2⟩ := R.obj n _ e
      exact .inl ⟨vs, .of h1, by rw [isEmpty_rep h2]⟩
    · cases h
  | gl g => cases h
/-- an expression as a test -/
def testE (f : Env3 → VH → Res D) (env : Env3) (vh : VH) : Res Bool := (f env vh).bind truthR
theorem st_truth (ha : PE X a (tE G W f)) (hK : X.K = G.K) (he : ∀ whole, isTrue a X.env whole = (do let v ← whole; standAt a.pos; holding [v] (truthy v))) : PT X a (tTs G W (testE f)) :=
  PT.imp (pt_truth ha he) fun σ H Q ⟨w, env, vh, R, RE, h⟩ => ⟨w, env, vh, R, RE, (h.bind (rep := RepD G)).mono fun u H1 ⟨w1, x, vh1, L1, R1, r1, h1⟩ => by
    unfold truthR at h1
    cases e : truthD vh1 x with
    | none => rw [e] at h1; exact h1.elim
    | some k =>
      rw [e] at h1
      exact ⟨k, by rw [hK]; exact truth_ok R1 r1 e, h1.here R1 rfl⟩⟩
def andE (f g : Env3 → VH → Res D) (env : Env3) (vh : VH) : Res D := (f env vh).bind fun x vh1 => (truthR x vh1).bind fun k vh2 => if k then g env vh2 else .ok x vh2
def orE (f g : Env3 → VH → Res D) (env : Env3) (vh : VH) : Res D := (f env vh).bind fun x vh1 => (truthR x vh1).bind fun k vh2 => if k then .ok x vh2 else g env vh2
def notE (f : Env3 → VH → Res D) (env : Env3) (vh : VH) : Res D := (f env vh).bind fun x vh1 => (truthR x vh1).bind fun k vh2 => .ok (.bl !k) vh2
def iteE (c f g : Env3 → VH → Res D) (env : Env3) (vh : VH) : Res D := (testE c env vh).bind fun k vh1 => if k then f env vh1 else g env vh1
theorem testE_and (env : Env3) (vh : VH) : testE (andE f g) env vh = (testE f env vh).bind fun k vh1 => if k then testE g env vh1 else .ok false vh1 := by
  unfold testE andE
  cases f env vh with
  | bad => rfl
  | exn => rfl
  | ok x vh1 =>
    simp only [Res.bind_ok]
    cases e : truthD vh1 x with
    | none =>
      have : truthR x vh1 = .bad := by unfold truthR; rw [e]; rfl
      rw [this]; rfl
    | some k =>
      rw [truthR_ok e]
      simp only [Res.bind_ok]
      cases k with
      | true => rfl
      | false => simp only [Bool.false_eq_true, if_false, Res.bind_ok]; exact truthR_ok e
theorem testE_or (env : Env3) (vh : VH) : testE (orE f g) env vh = (testE f env vh).bind fun k vh1 => if k then .ok true vh1 else testE g env vh1 := by
  unfold testE orE
  cases f env vh with
  | bad => rfl
  | exn => rfl
  | ok x vh1 =>
    simp only [Res.bind_ok]
    cases e : truthD vh1 x with
    | none =>
      have : truthR x vh1 = .bad := by unfold truthR; rw [e]; rfl
      rw [this]; rfl
    | some k =>
      rw [truthR_ok e]
      simp only [Res.bind_ok]
      cases k with
      | false => rfl
      | true => simp only [if_true, Res.bind_ok]; exact truthR_ok e
theorem testE_not (env : Env3) (vh : VH) : testE (notE f) env vh = (testE f env vh).bind fun k vh1 => .ok (!k) vh1 := by
  unfold testE notE
  cases f env vh with
  | bad => rfl
  | exn => rfl
  | ok x vh1 =>
    simp only [Res.bind_ok]
    cases e : truthD vh1 x with
    | none =>
      have : truthR x vh1 = .bad := by unfold truthR; rw [e]; rfl
      rw [this]; rfl
    | some k =>
      rw [truthR_ok e]; rfl
theorem se_and {rest : List Expr} (hK : X.K = G.K) (ha : PE X a (tE G W f)) (hb : PE X (.BoolOp .And (b :: rest) pos) (tE G W g)) : PE X (.BoolOp .And (a :: b :: rest) pos) (tE G W (andE f g)) :=
  PE.imp (pe_andT ha hb) fun σ H Q ⟨w, env, vh, R, RE, h⟩ => ⟨w, env, vh, R, RE, (h.bind (rep := RepD G)).mono fun u H1 ⟨w1, x, vh1, L1, R1, r1, h1⟩ => by
    cases e : truthD vh1 x with
    | none =>
      have : truthR x vh1 = .bad := by unfold truthR; rw [e]; rfl
      rw [this] at h1; exact h1.elim
    | some k =>
      rw [truthR_ok e] at h1
      refine ⟨k, by rw [hK]; exact truth_ok R1 r1 e, ?_⟩
      cases k with
      | true => rw [if_pos rfl]; exact ⟨w1, env, vh1, R1, RE.le L1, h1⟩
      | false => rw [if_neg Bool.false_ne_true]; exact Post.here h1 R1 r1⟩
theorem se_or {rest : List Expr} (hK : X.K = G.K) (ha : PE X a (tE G W f)) (hb : PE X (.BoolOp .Or (b :: rest) pos) (tE G W g)) : PE X (.BoolOp .Or (a :: b :: rest) pos) (tE G W (orE f g)) :=
  PE.imp (pe_orT ha hb) fun σ H Q ⟨w, env, vh, R, RE, h⟩ => ⟨w, env, vh, R, RE, (h.bind (rep := RepD G)).mono fun u H1 ⟨w1, x, vh1, L1, R1, r1, h1⟩ => by
    cases e : truthD vh1 x with
    | none =>
      have : truthR x vh1 = .bad := by unfold truthR; rw [e]; rfl
      rw [this] at h1; exact h1.elim
    | some k =>
      rw [truthR_ok e] at h1
      refine ⟨k, by rw [hK]; exact truth_ok R1 r1 e, ?_⟩
      cases k with
      | false => rw [if_neg Bool.false_ne_true]; exact ⟨w1, env, vh1, R1, RE.le L1, h1⟩
      | true => rw [if_pos rfl]; exact Post.here h1 R1 r1⟩
theorem se_not (hK : X.K = G.K) (ha : PE X a (tE G W f)) : PE X (.UnaryOp .Not a pos) (tE G W (notE f)) :=
  PE.imp (pe_notT ha) fun σ H Q ⟨w, env, vh, R, RE, h⟩ => ⟨w, env, vh, R, RE, (h.bind (rep := RepD G)).mono fun u H1 ⟨w1, x, vh1, L1, R1, r1, h1⟩ => by
    cases e : truthD vh1 x with
    | none =>
      have : truthR x vh1 = .bad := by unfold truthR; rw [e]; rfl
      rw [this] at h1; exact h1.elim
    | some k =>
      rw [truthR_ok e] at h1
      exact ⟨k, by rw [hK]; exact truth_ok R1 r1 e, Post.here h1 R1 (by simp only [RepD])⟩⟩
theorem se_ite {c : Expr} {h : Env3 → VH → Res D} (hc : PT X c (tTs G W (testE h))) (ha : PE X a (tE G W f)) (hb : PE X b (tE G W g)) : PE X (.IfExp c a b pos) (tE G W (iteE h f g)) :=
  PE.imp (pe_ifExp hc ha hb) fun σ H Q ⟨w, env, vh, R, RE, q⟩ => ⟨w, env, vh, R, RE, (q.bind (rep := repT)).mono fun u H1 ⟨w1, k, vh1, L1, R1, r1, h1⟩ => by
    obtain rfl : k = u := r1
    cases k with
    | true => rw [if_pos rfl]; exact ⟨w1, env, vh1, R1, RE.le L1, h1⟩
    | false => rw [if_neg Bool.false_ne_true]; exact ⟨w1, env, vh1, R1, RE.le L1, h1⟩⟩
theorem st_and1 (ha : PT X a (tTs G W (testE f))) : PW X (.BoolOp .And [a] pos) (tTs G W (testE f)) := pw_and1 ha
theorem st_or1 (ha : PT X a (tTs G W (testE f))) : PW X (.BoolOp .Or [a] pos) (tTs G W (testE f)) := pw_or1 ha
theorem st_and {rest : List Expr} (ha : PT X a (tTs G W (testE f))) (hb : PW X (.BoolOp .And (b :: rest) pos) (tTs G W (testE g))) : PW X (.BoolOp .And (a :: b :: rest) pos) (tTs G W (testE (andE f g))) :=
  PW.imp (pw_and ha hb) fun σ H Q ⟨w, env, vh, R, RE, q⟩ => ⟨w, env, vh, R, RE, ((testE_and (f := f) (g := g) env vh ▸ q).bind (rep := repT)).mono fun u H1 ⟨w1, k, vh1, L1, R1, r1, h1⟩ => by
    obtain rfl : k = u := r1
    cases k with
    | true => rw [if_pos rfl]; exact ⟨w1, env, vh1, R1, RE.le L1, h1⟩
    | false => rw [if_neg Bool.false_ne_true]; exact Post.here h1 R1 rfl⟩
theorem st_or {rest : List Expr} (ha : PT X a (tTs G W (testE f))) (hb : PW X (.BoolOp .Or (b :: rest) pos) (tTs G W (testE g))) : PW X (.BoolOp .Or (a :: b :: rest) pos) (tTs G W (testE (orE f g))) :=
  PW.imp (pw_or ha hb) fun σ H Q ⟨w, env, vh, R, RE, q⟩ => ⟨w, env, vh, R, RE, ((testE_or (f := f) (g := g) env vh ▸ q).bind (rep := repT)).mono fun u H1 ⟨w1, k, vh1, L1, R1, r1, h1⟩ => by
    obtain rfl : k = u := r1
    cases k with
    | false => rw [if_neg Bool.false_ne_true]; exact ⟨w1, env, vh1, R1, RE.le L1, h1⟩
    | true => rw [if_pos rfl]; exact Post.here h1 R1 rfl⟩
theorem st_not (ha : PT X a (tTs G W (testE f))) : PT X (.UnaryOp .Not a pos) (tTs G W (testE (notE f))) :=
  PT.imp (pt_not ha) fun σ H Q ⟨w, env, vh, R, RE, q⟩ => ⟨w, env, vh, R, RE, ((testE_not (f := f) env vh ▸ q).bind (rep := repT)).mono fun u H1 ⟨w1, k, vh1, L1, R1, r1, h1⟩ => by
    obtain rfl : k = u := r1
    exact Post.here h1 R1 rfl⟩

theorem testE_ite {h : Env3 → VH → Res D} (env : Env3) (vh : VH) : testE (iteE h f g) env vh = (testE h env vh).bind fun k vh1 => if k then testE f env vh1 else testE g env vh1 := by
  unfold iteE
  show ((testE h env vh).bind _).bind truthR = _
  cases testE h env vh with
  | bad => rfl
  | exn => rfl
  | ok k vh1 => cases k <;> rfl
theorem st_ite {c : Expr} {h : Env3 → VH → Res D} (hc : PT X c (tTs G W (testE h))) (ha : PT X a (tTs G W (testE f))) (hb : PT X b (tTs G W (testE g))) : PT X (.IfExp c a b pos) (tTs G W (testE (iteE h f g))) := by
  refine ⟨fun pins s σ H Q I ⟨w, env, vh, R, RE, q⟩ => ?_⟩
  rw [testE_ite] at q
  show wpAny (model X.prog X.w) X.A (do if ← isTrue c X.env (eval c X.env) then isTrue a X.env (eval a X.env) else isTrue b X.env (eval b X.env)) _ _ _
  refine wpAny_bind (thn (hc.run pins s σ H _ I ⟨w, env, vh, R, RE, (Post.bind (rep := repT) q)⟩) fun k s1 ⟨H1, I1, w1, k', vh1, L1, R1, r1, h1⟩ => ?_)
  obtain rfl : k' = k := r1
  cases k' with
  | true => exact ha.run pins s1 σ H1 Q I1 ⟨w1, env, vh1, R1, RE.le L1, h1⟩
  | false => exact hb.run pins s1 σ H1 Q I1 ⟨w1, env, vh1, R1, RE.le L1, h1⟩

/-! ### argument lists, displays -/
def consE (f : Env3 → VH → Res D) (fs : Env3 → VH → Res (List D)) (env : Env3) (vh : VH) : Res (List D) := (f env vh).bind fun x vh1 => (fs env vh1).bind fun xs vh2 => .ok (x :: xs) vh2
theorem sa_nil : PA X [] (tAs G W fun _ vh => .ok [] vh) := PA.imp pa_nil fun σ H Q ⟨w, env, vh, R, RE, h⟩ => h.here R .nil
theorem sa_cons {es : List Expr} {fs : Env3 → VH → Res (List D)} (ha : PE X a (tE G W f)) (hr : PA X es (tAs G W fs)) (hs : starEach (a :: es) X.env = (false, eval a X.env) :: starEach es X.env) : PA X (a :: es) (tAs G W (consE f fs)) :=
  PA.imp (pa_cons ha hr hs) fun σ H Q ⟨w, env, vh, R, RE, h⟩ => ⟨w, env, vh, R, RE, (h.bind (rep := RepD G)).mono fun u H1 ⟨w1, x, vh1, L1, R1, r1, h1⟩ => ⟨w1, env, vh1, R1, RE.le L1, (h1.bind (rep := RepDs G)).mono fun us H2 ⟨w2, xs, vh2, L2, R2, r2, h2⟩ =>
    h2.here R2 (.cons (L2.rep _ _ r1) r2)⟩⟩
/-- a new list: one that may be written (m), or not -/
def mkL (m : Bool) (ds : List D) (vh : VH) : D × VH := if m then (.ref vh.length, vh ++ [.lst ds]) else (.lst ds, vh)
theorem PostO.mkL {w : Wd} {vh : VH} {H : Hp} {m : Bool} {ds : List D} {vs : List V} {Q : VK} (h : PostO G w H Q (some (mkL m ds vh))) (R : RelH G w vh H) (r : RepDs G w H ds vs) : ∀ p, H p = none → Q (.ref p) (upd H p (.lst vs)) := fun p hp => by
  cases m with
  | false =>
    obtain ⟨a, b, c⟩ := alloc_frozen R r hp
    exact h _ _ _ a b c
  | true =>
    obtain ⟨a, b, c⟩ := alloc_lst R r hp
    exact h _ _ _ a b c
theorem PostO.mkT {w : Wd} {vh : VH} {H : Hp} {ds : List D} {vs : List V} {Q : VK} (h : PostO G w H Q (some (.tup ds, vh))) (R : RelH G w vh H) (r : RepDs G w H ds vs) : ∀ p, H p = none → Q (.ref p) (upd H p (.tup vs)) := fun p hp => by
  obtain ⟨a, b, c⟩ := alloc_tup R r hp
  exact h _ _ _ a b c
def lineO {α : Type} (n : Nat) (a : α) : Option α := if n ≤ sizeLine then some a else none
theorem lineO_some {α : Type} {n : Nat} {a b : α} (h : lineO n a = some b) : n ≤ sizeLine ∧ a = b := by
  unfold lineO at h
  split at h
  · exact ⟨by assumption, Option.some.inj h⟩
  · cases h
def tupE (fs : Env3 → VH → Res (List D)) (env : Env3) (vh : VH) : Res D := (fs env vh).bind fun xs vh1 => .ofO (lineO xs.length (.tup xs, vh1))
def lstE (m : Bool) (fs : Env3 → VH → Res (List D)) (env : Env3) (vh : VH) : Res D := (fs env vh).bind fun xs vh1 => .ofO (lineO xs.length (mkL m xs vh1))
theorem se_tup {es : List Expr} {k : Nat} {fs : Env3 → VH → Res (List D)} (h : PA X es (tAs G W fs)) : PE X (.Tuple es k pos) (tE G W (tupE fs)) :=
  PE.imp (pe_tup h) fun σ H Q ⟨w, env, vh, R, RE, q⟩ => ⟨w, env, vh, R, RE, (q.bind (rep := RepDs G)).mono fun us H1 ⟨w1, xs, vh1, L1, R1, r1, h1⟩ => by
    cases e : lineO xs.length (D.tup xs, vh1) with
    | none => rw [e] at h1; exact h1.elim
    | some z =>
      obtain ⟨hl, rfl⟩ := lineO_some e
      rw [e] at h1
      exact ⟨by rw [r1.length]; exact hl, PostO.mkT (.of (o := some _) h1) R1 r1⟩⟩
theorem se_lst {m : Bool} {es : List Expr} {fs : Env3 → VH → Res (List D)} (h : PA X es (tAs G W fs)) : PE X (.List es pos) (tE G W (lstE m fs)) :=
  PE.imp (pe_lst h) fun σ H Q ⟨w, env, vh, R, RE, q⟩ => ⟨w, env, vh, R, RE, (q.bind (rep := RepDs G)).mono fun us H1 ⟨w1, xs, vh1, L1, R1, r1, h1⟩ => by
    cases e : lineO xs.length (mkL m xs vh1) with
    | none => rw [e] at h1; exact h1.elim
    | some z =>
      obtain ⟨hl, rfl⟩ := lineO_some e
      rw [e] at h1
      exact ⟨by rw [r1.length]; exact hl, PostO.mkL (.of (o := some _) h1) R1 r1⟩⟩
end
end
end L3
end
section
set_option Elab.async false
set_option linter.all false
set_option maxRecDepth 100000
set_option maxHeartbeats 2000000
namespace L3
open PySem PySem.Spec L2
open PyProof.Rows hiding St
section
variable {G : Gx} {w : Wd} {vh : VH} {H : Hp}

/-! ### lists, tuples, intsOf, truth values out of data -/
def lstOf (vh : VH) : D → Option (List D)
  | .lst ds => some ds
  | .ref n => match vh[n]? with
    | some (.lst ds) => some ds
    | _ => none
  | _ => none
def seqOf (vh : VH) : D → Option (List D)
  | .lst ds => some ds
  | .scr ds => some ds
  | .ref n => match vh[n]? with
    | some (.lst ds) => some ds
    | _ => none
  | _ => none
@[simp] theorem lstOf_lst (vh : VH) (ds : List D) : lstOf vh (.lst ds) = some ds := rfl
@[simp] theorem seqOf_lst (vh : VH) (ds : List D) : seqOf vh (.lst ds) = some ds := rfl
@[simp] theorem seqOf_scr (vh : VH) (ds : List D) : seqOf vh (.scr ds) = some ds := rfl
theorem lstOf_ok {d : D} {v : V} {ds : List D} (R : RelH G w vh H) (r : RepD G w H d v) (h : lstOf vh d = some ds) : ∃ p vs, v = .ref p ∧ H p = some (.lst vs) ∧ RepDs G w H ds vs := by
  cases d with
  | lst es =>
    cases h; simp only [RepD] at r
    obtain ⟨p, vs, e, h1, h2⟩ := r
    exact ⟨p, vs, e, h1.1, h2⟩
  | ref n =>
    simp only [RepD] at r
    unfold lstOf at h
    dsimp only at h
    split at h
    · rename_i es e
      cases h
      obtain ⟨_, vs, h1, h2⟩ := R.obj n _ e
      exact ⟨_, vs, r.2, h1, h2⟩
    · cases h
  | _ => cases h
theorem seqOf_ok {d : D} {v : V} {ds : List D} (R : RelH G w vh H) (r : RepD G w H d v) (h : seqOf vh d = some ds) : ∃ p vs, v = .ref p ∧ SqL G.K H p vs ∧ RepDs G w H ds vs := by
  cases d with
  | scr es =>
    cases h; simp only [RepD] at r
    obtain ⟨p, vs, e, h1, h2⟩ := r
    exact ⟨p, vs, e, h1.sq, h2⟩
  | lst es =>
    obtain ⟨p, vs, e, h1, h2⟩ := lstOf_ok (ds := ds) R r h
    exact ⟨p, vs, e, .of h1, h2⟩
  | ref n =>
    obtain ⟨p, vs, e, h1, h2⟩ := lstOf_ok (ds := ds) R r h
    exact ⟨p, vs, e, .of h1, h2⟩
  | _ => cases h
theorem tup_ok {v : V} {ds : List D} (r : RepD G w H (.tup ds) v) : ∃ p vs, v = .ref p ∧ SqT G.K H p vs ∧ RepDs G w H ds vs := by
  simpa only [RepD] using r
def intsOf : List D → Option (List Int)
  | [] => some []
  | .int i :: ds => (intsOf ds).map (i :: ·)
  | _ :: _ => none
def boolsOf : List D → Option (List Bool)
  | [] => some []
  | .bl i :: ds => (boolsOf ds).map (i :: ·)
  | _ :: _ => none
@[simp] theorem ints_map (ns : List Int) : intsOf (ns.map D.int) = some ns := by
  induction ns with
  | nil => rfl
  | cons n ns ih => simp [intsOf, ih]
@[simp] theorem bools_map (ns : List Bool) : boolsOf (ns.map D.bl) = some ns := by
  induction ns with
  | nil => rfl
  | cons n ns ih => simp [boolsOf, ih]
theorem ints_eq : ∀ {ds : List D} {ns : List Int}, intsOf ds = some ns → ds = ns.map D.int
  | [], ns, h => by cases h; rfl
  | d :: ds, ns, h => by
    cases d with
    | int i =>
      unfold intsOf at h
      cases e : intsOf ds with
      | none => rw [e] at h; cases h
      | some ms =>
        rw [e] at h; cases h
        simp [ints_eq e]
    | _ => cases h
theorem bools_eq : ∀ {ds : List D} {ns : List Bool}, boolsOf ds = some ns → ds = ns.map D.bl
  | [], ns, h => by cases h; rfl
  | d :: ds, ns, h => by
    cases d with
    | bl i =>
      unfold boolsOf at h
      cases e : boolsOf ds with
      | none => rw [e] at h; cases h
      | some ms =>
        rw [e] at h; cases h
        simp [bools_eq e]
    | _ => cases h
theorem rep_ints : ∀ {ns : List Int} {vs : List V}, RepDs G w H (ns.map D.int) vs → vs = ns.map V.int
  | [], vs, h => by simpa [RepDs] using h
  | n :: ns, vs, h => by
    simp only [List.map_cons, RepDs] at h
    obtain ⟨v, vs', rfl, h1, h2⟩ := h
    simp only [RepD] at h1
    rw [h1, rep_ints h2]; rfl
theorem rep_bools : ∀ {ns : List Bool} {vs : List V}, RepDs G w H (ns.map D.bl) vs → vs = ns.map V.bl
  | [], vs, h => by simpa [RepDs] using h
  | n :: ns, vs, h => by
    simp only [List.map_cons, RepDs] at h
    obtain ⟨v, vs', rfl, h1, h2⟩ := h
    simp only [RepD] at h1
    rw [h1, rep_bools h2]; rfl
theorem rep_of_ints : ∀ (ns : List Int), RepDs G w H (ns.map D.int) (ns.map V.int)
  | [] => .nil
  | n :: ns => .cons (by simp only [RepD]) (rep_of_ints ns)
theorem rep1 {d : D} {vs : List V} (h : RepDs G w H [d] vs) : ∃ v, vs = [v] ∧ RepD G w H d v := by
  simp only [RepDs] at h
  obtain ⟨v, _, rfl, h1, rfl⟩ := h
  exact ⟨v, rfl, h1⟩
theorem rep2 {d e : D} {vs : List V} (h : RepDs G w H [d, e] vs) : ∃ u v, vs = [u, v] ∧ RepD G w H d u ∧ RepD G w H e v := by
  simp only [RepDs] at h
  obtain ⟨u, _, rfl, h1, v, _, rfl, h2, rfl⟩ := h
  exact ⟨u, v, rfl, h1, h2⟩
theorem PostO.here {Q : VK} {d : D} {v : V} (h : PostO G w H Q (some (d, vh))) (R : RelH G w vh H) (r : RepD G w H d v) : Q v H := h w v H Le.refl R r
theorem PostO.line {Q : VK} {n : Nat} {z : D × VH} (h : PostO G w H Q (lineO n z)) : n ≤ sizeLine ∧ PostO G w H Q (some z) := by
  cases e : lineO n z with
  | none => rw [e] at h; exact h.elim
  | some y =>
    obtain ⟨a, b⟩ := lineO_some e
    subst b
    rw [e] at h
    exact ⟨a, h⟩

/-! ### two-place operations -/
def mulOk (i j : Int) : Bool := (decide (-(2 ^ 64) < i) && decide (i < 2 ^ 64)) || (decide (-(2 ^ 64) < j) && decide (j < 2 ^ 64)) || decide (i.natAbs.log2 + j.natAbs.log2 < 1000000)
def addD (m : Bool) (vh : VH) : D → D → Option (D × VH)
  | .int i, .int j => some (.int (i + j), vh)
  | .str x, .str y => lineO (x.length + y.length) (.str (x ++ y), vh)
  | .tup xs, .tup ys => lineO (xs.length + ys.length) (.tup (xs ++ ys), vh)
  | a, b => match lstOf vh a, lstOf vh b with
    | some xs, some ys => lineO (xs.length + ys.length) (mkL m (xs ++ ys) vh)
    | _, _ => none
def subD (vh : VH) : D → D → Option (D × VH)
  | .int i, .int j => some (.int (i - j), vh)
  | _, _ => none
def mulD (m : Bool) (vh : VH) : D → D → Option (D × VH)
  | .int i, .int j => if mulOk i j then some (.int (i * j), vh) else none
  | .tup xs, .int k => if 2 ≤ k ∧ k ≤ 1000 ∧ xs.length ≤ 1000 ∧ xs ≠ [] then some (.tup (List.replicate k.toNat xs).flatten, vh) else none
  | a, .int k => match lstOf vh a with
    | some xs => if -(2 ^ 63) ≤ k ∧ k < 2 ^ 63 then lineO (xs.length * k.toNat) (mkL m (List.replicate k.toNat xs).flatten vh) else none
    | none => none
  | _, _ => none
def fdivD (vh : VH) : D → D → Option (D × VH)
  | .int i, .int j => if 0 < j ∧ j.natAbs.log2 < 9000 then some (.int (i / j), vh) else none
  | _, _ => none
def modD (vh : VH) : D → D → Option (D × VH)
  | .int i, .int j => if 0 < j then some (.int (i % j), vh) else none
  | _, _ => none
def binD (m : Bool) (op : Operator) (vh : VH) (a b : D) : Option (D × VH) := match op with
  | .Add => addD m vh a b
  | .Sub => subD vh a b
  | .Mult => mulD m vh a b
  | .FloorDiv => fdivD vh a b
  | .Mod => modD vh a b
  | _ => none
def binOk : Operator → Bool
  | .Add | .Sub | .Mult | .FloorDiv | .Mod => true
  | _ => false
theorem OpR.false {f : Value → Value → Sem Value} {X : Cx} : OpR X f (fun _ _ _ _ => False) := fun _ _ _ _ _ _ _ _ _ _ _ _ h => h.elim
theorem rep_flat {k : Nat} {ds : List D} {vs : List V} (h : RepDs G w H ds vs) : RepDs G w H (List.replicate k ds).flatten (List.replicate k vs).flatten := by
  induction k with
  | zero => exact .nil
  | succ n ih => rw [List.replicate_succ, List.replicate_succ, List.flatten_cons, List.flatten_cons]; exact h.append ih
theorem addD_lst {m : Bool} {a b : D} {x y : V} {Q : VK} (R : RelH G w vh H) (ra : RepD G w H a x) (rb : RepD G w H b y)
    (h : PostO G w H Q (match lstOf vh a, lstOf vh b with | some xs, some ys => lineO (xs.length + ys.length) (mkL m (xs ++ ys) vh) | _, _ => none)) : rCat x y H Q := by
  cases ea : lstOf vh a with
  | none => rw [ea] at h; exact h.elim
  | some xs =>
    cases eb : lstOf vh b with
    | none => rw [ea, eb] at h; exact h.elim
    | some ys =>
      rw [ea, eb] at h
      obtain ⟨hz, h⟩ := PostO.line h
      obtain ⟨p, vs, rfl, h1, h2⟩ := lstOf_ok R ra ea
      obtain ⟨q, us, rfl, g1, g2⟩ := lstOf_ok R rb eb
      exact ⟨p, q, vs, us, rfl, rfl, h1, g1, by rw [h2.length, g2.length]; exact hz, h.mkL R (h2.append g2)⟩
theorem says_add (m : Bool) {X : Cx} (hK : X.K = G.K) : ∃ r, OpR X (binaryOp .Add) r ∧ OpSays G (addD m) r := by
  refine ⟨_, op_add.or ((op_add_str).or ((op_catA).or op_cat)), fun w vh H a b x y Q R ra rb h => ?_⟩
  rw [hK]
  cases a with
  | int i =>
    cases b with
    | int j =>
      simp only [RepD] at ra rb
      exact .inl ⟨i, j, ra, rb, h.here R (by simp only [RepD])⟩
    | _ => exact .inr (.inr (.inr (addD_lst (m := m) R ra rb h)))
  | str i =>
    cases b with
    | str j =>
      simp only [RepD] at ra rb
      obtain ⟨hz, h⟩ := PostO.line h
      exact .inr (.inl ⟨i, j, ra, rb, hz, h.here R (by simp only [RepD])⟩)
    | _ => exact .inr (.inr (.inr (addD_lst (m := m) R ra rb h)))
  | tup xs =>
    cases b with
    | tup ys =>
      obtain ⟨hz, h⟩ := PostO.line h
      obtain ⟨p, vs, rfl, h1, h2⟩ := tup_ok ra
      obtain ⟨q, us, rfl, g1, g2⟩ := tup_ok rb
      refine .inr (.inr (.inl ⟨p, q, vs, us, rfl, rfl, h1, g1, by rw [h2.length, g2.length]; exact hz, fun e => ?_, fun _ e => ?_, fun _ _ => h.mkT R (h2.append g2)⟩))
      · refine h.here R ?_
        subst e
        have : xs = [] := by have := h2.length; simp at this; exact List.eq_nil_of_length_eq_zero this.symm
        subst this
        simpa using rb
      · refine h.here R ?_
        subst e
        have : ys = [] := by have := g2.length; simp at this; exact List.eq_nil_of_length_eq_zero this.symm
        subst this
        simpa using ra
    | _ => exact .inr (.inr (.inr (addD_lst (m := m) R ra rb h)))
  | _ => exact .inr (.inr (.inr (addD_lst (m := m) R ra rb h)))
theorem says_sub {X : Cx} : ∃ r, OpR X (binaryOp .Sub) r ∧ OpSays G subD r := by
  refine ⟨_, op_sub, fun w vh H a b x y Q R ra rb h => ?_⟩
  cases a with
  | int i =>
    cases b with
    | int j =>
      simp only [RepD] at ra rb
      exact ⟨i, j, ra, rb, h.here R (by simp only [RepD])⟩
    | _ => exact h.elim
  | _ => exact h.elim
theorem says_fdiv {X : Cx} : ∃ r, OpR X (binaryOp .FloorDiv) r ∧ OpSays G fdivD r := by
  refine ⟨_, op_fdivW, fun w vh H a b x y Q R ra rb h => ?_⟩
  cases a with
  | int i =>
    cases b with
    | int j =>
      simp only [RepD] at ra rb
      have h : PostO G w H Q (if 0 < j ∧ j.natAbs.log2 < 9000 then some (.int (i / j), vh) else none) := h
      split at h
      · rename_i hj
        exact ⟨i, j, ra, rb, hj, h.here R (by simp only [RepD])⟩
      · exact h.elim
    | _ => exact h.elim
  | _ => exact h.elim
theorem says_mod {X : Cx} : ∃ r, OpR X (binaryOp .Mod) r ∧ OpSays G modD r := by
  refine ⟨_, op_mod, fun w vh H a b x y Q R ra rb h => ?_⟩
  cases a with
  | int i =>
    cases b with
    | int j =>
      simp only [RepD] at ra rb
      have h : PostO G w H Q (if 0 < j then some (.int (i % j), vh) else none) := h
      split at h
      · rename_i hj
        exact ⟨i, j, ra, rb, hj, h.here R (by simp only [RepD])⟩
      · exact h.elim
    | _ => exact h.elim
  | _ => exact h.elim
theorem mulD_lst {m : Bool} {a : D} {k : Int} {x y : V} {Q : VK} (R : RelH G w vh H) (ra : RepD G w H a x) (rb : RepD G w H (.int k) y)
    (h : PostO G w H Q (match lstOf vh a with | some xs => if -(2 ^ 63) ≤ k ∧ k < 2 ^ 63 then lineO (xs.length * k.toNat) (mkL m (List.replicate k.toNat xs).flatten vh) else none | none => none)) : rRep x y H Q := by
  cases ea : lstOf vh a with
  | none => rw [ea] at h; exact h.elim
  | some xs =>
    rw [ea] at h
    dsimp only at h
    split at h
    · rename_i hk
      obtain ⟨hz, h⟩ := PostO.line h
      obtain ⟨p, vs, rfl, h1, h2⟩ := lstOf_ok R ra ea
      simp only [RepD] at rb
      exact ⟨p, k, vs, rfl, rb, h1, hk.1, hk.2, by rw [h2.length]; exact hz, h.mkL R (rep_flat h2)⟩
    · exact h.elim
theorem says_mul (m : Bool) {X : Cx} (hK : X.K = G.K) : ∃ r, OpR X (binaryOp .Mult) r ∧ OpSays G (mulD m) r := by
  refine ⟨_, (op_mul.or op_mulW).or ((op_repT).or op_rep), fun w vh H a b x y Q R ra rb h => ?_⟩
  rw [hK]
  cases b with
  | int k =>
    cases a with
    | int i =>
      have h : PostO G w H Q (if mulOk i k then some (.int (i * k), vh) else none) := h
      split at h
      · rename_i hm
        simp only [RepD] at ra rb
        refine .inl ?_
        simp only [mulOk, Bool.or_eq_true, Bool.and_eq_true, decide_eq_true_eq] at hm
        rcases hm with hm | hm
        · exact .inl ⟨i, k, ra, rb, hm, h.here R (by simp only [RepD])⟩
        · exact .inr ⟨i, k, ra, rb, hm, h.here R (by simp only [RepD])⟩
      · exact h.elim
    | tup xs =>
      have h : PostO G w H Q (if 2 ≤ k ∧ k ≤ 1000 ∧ xs.length ≤ 1000 ∧ xs ≠ [] then some (.tup (List.replicate k.toNat xs).flatten, vh) else none) := h
      split at h
      · rename_i hk
        obtain ⟨p, vs, rfl, h1, h2⟩ := tup_ok ra
        simp only [RepD] at rb
        refine .inr (.inl ⟨p, k, vs, rfl, rb, h1, fun e => hk.2.2.2 ?_, hk.1, hk.2.1, by rw [h2.length]; exact hk.2.2.1, h.mkT R (rep_flat h2)⟩)
        subst e
        have := h2.length; simp at this; exact List.eq_nil_of_length_eq_zero this.symm
      · exact h.elim
    | _ => exact .inr (.inr (mulD_lst (m := m) R ra rb h))
  | _ => cases a <;> exact h.elim
theorem says_bin (m : Bool) {X : Cx} (hK : X.K = G.K) {op : Operator} (hop : binOk op = true) : ∃ r, OpR X (binaryOp op) r ∧ OpSays G (binD m op) r := by
  cases op with
  | Add => exact says_add m hK
  | Sub => exact says_sub
  | Mult => exact says_mul m hK
  | FloorDiv => exact says_fdiv
  | Mod => exact says_mod
  | _ => cases hop
def negD (vh : VH) : D → Option (D × VH)
  | .int i => some (.int (-i), vh)
  | _ => none
theorem says_neg {X : Cx} : ∃ r, UnR X (unaryOp .USub) r ∧ UnSays G negD r := by
  refine ⟨_, un_neg, fun w vh H a x Q R ra h => ?_⟩
  cases a with
  | int i => simp only [RepD] at ra; exact ⟨i, ra, h.here R (by simp only [RepD])⟩
  | _ => exact h.elim

/-! ### comparisons -/
mutual
def D.py : D → Option PyData
  | .non => some .none
  | .bl b => some (.bool b)
  | .int i => some (.int i)
  | .str x => some (.str x)
  | .tup ds => (D.pys ds).map .tuple
  | .lst ds => (D.pys ds).map .list
  | .scr ds => (D.pys ds).map .list
  | .ref _ => none
  | .gl _ => none
def D.pys : List D → Option (List PyData)
  | [] => some []
  | d :: ds => match d.py, D.pys ds with
    | some a, some b => some (a :: b)
    | _, _ => none
end
def pyTop (vh : VH) (d : D) : Option PyData := match d with
  | .ref n => match vh[n]? with
    | some (.lst ds) => (D.pys ds).map .list
    | _ => none
  | d => d.py
mutual
theorem py_ok : ∀ (d : D) (v : V) (x : PyData), RepD G w H d v → d.py = some x → Dp G.K H v x
  | .non, v, x, r, h => by simp only [RepD] at r; simp only [D.py] at h; subst r; cases h; exact .non
  | .bl b, v, x, r, h => by simp only [RepD] at r; simp only [D.py] at h; subst r; cases h; exact .bl b
  | .int b, v, x, r, h => by simp only [RepD] at r; simp only [D.py] at h; subst r; cases h; exact .int b
  | .str b, v, x, r, h => by simp only [RepD] at r; simp only [D.py] at h; subst r; cases h; exact .str b
  | .tup ds, v, x, r, h => by
    simp only [RepD] at r; simp only [D.py, Option.map_eq_some_iff] at h
    obtain ⟨p, vs, rfl, h1, h2⟩ := r
    obtain ⟨xs, e, rfl⟩ := h
    exact .tup h1 (pys_ok ds vs xs h2 e)
  | .lst ds, v, x, r, h => by
    simp only [RepD] at r; simp only [D.py, Option.map_eq_some_iff] at h
    obtain ⟨p, vs, rfl, h1, h2⟩ := r
    obtain ⟨xs, e, rfl⟩ := h
    exact .lst (.of h1.1) (pys_ok ds vs xs h2 e)
  | .scr ds, v, x, r, h => by
    simp only [RepD] at r; simp only [D.py, Option.map_eq_some_iff] at h
    obtain ⟨p, vs, rfl, h1, h2⟩ := r
    obtain ⟨xs, e, rfl⟩ := h
    exact .lst h1.sq (pys_ok ds vs xs h2 e)
  | .ref n, v, x, r, h => by simp only [D.py] at h; cases h
  | .gl n, v, x, r, h => by simp only [D.py] at h; cases h
theorem pys_ok : ∀ (ds : List D) (vs : List V) (xs : List PyData), RepDs G w H ds vs → D.pys ds = some xs → DpAll G.K H vs xs
  | [], vs, xs, r, h => by simp only [RepDs] at r; simp only [D.pys] at h; subst r; cases h; exact .nil
  | d :: ds, vs, xs, r, h => by
    simp only [RepDs] at r
    obtain ⟨v, vs', rfl, h1, h2⟩ := r
    simp only [D.pys] at h
    split at h
    · rename_i a b e1 e2
      cases h
      exact .cons (py_ok d v a h1 e1) (pys_ok ds vs' b h2 e2)
    · cases h
end
theorem pyTop_ok {d : D} {v : V} {x : PyData} (R : RelH G w vh H) (r : RepD G w H d v) (h : pyTop vh d = some x) : Dp G.K H v x := by
  cases d with
  | ref n =>
    simp only [RepD] at r
    unfold pyTop at h
    dsimp only at h
    split at h
    · rename_i ds e
      obtain ⟨_, vs, h1, h2⟩ := R.obj n _ e
      rw [Option.map_eq_some_iff] at h
      obtain ⟨xs, e', rfl⟩ := h
      rw [r.2]
      exact .lst (.of h1) (pys_ok ds vs xs h2 e')
    · cases h
  | _ => exact py_ok _ _ _ r h
def eqD (vh : VH) (a b : D) : Option Bool := match pyTop vh a, pyTop vh b with
  | some x, some y => if SeqAt.shaped x && SeqAt.shaped y then some (PyData.eqv x y) else none
  | _, _ => none
def inD (vh : VH) (a b : D) : Option Bool := match pyTop vh a, pyTop vh b with
  | some x, some (.list ys) => if SeqAt.shaped x && SeqAt.shaped (.list ys) then some (ys.any fun z => PyData.eqv z x) else none
  | _, _ => none
def isNonD : D → Bool
  | .non => true
  | _ => false
def ltD (p : Int → Int → Bool) (vh : VH) : D → D → Option (D × VH)
  | .int i, .int j => some (.bl (p i j), vh)
  | _, _ => none
def isD (neg : Bool) (vh : VH) : D → D → Option (D × VH)
  | a, .non => some (.bl (isNonD a != neg), vh)
  | .bl x, .bl y => some (.bl (decide (x = y) != neg), vh)
  | _, _ => none
def cmpD (op : CmpOp) (vh : VH) (a b : D) : Option (D × VH) := match op with
  | .Eq => (eqD vh a b).map fun k => (.bl k, vh)
  | .NotEq => (eqD vh a b).map fun k => (.bl !k, vh)
  | .Lt => ltD (fun i j => decide (i < j)) vh a b
  | .LtE => ltD (fun i j => decide (i ≤ j)) vh a b
  | .Gt => ltD (fun i j => decide (j < i)) vh a b
  | .GtE => ltD (fun i j => decide (j ≤ i)) vh a b
  | .Is => isD false vh a b
  | .IsNot => isD true vh a b
  | .In => (inD vh a b).map fun k => (.bl k, vh)
  | .NotIn => (inD vh a b).map fun k => (.bl !k, vh)
theorem eqD_ok {a b : D} {x y : V} {k : Bool} (R : RelH G w vh H) (ra : RepD G w H a x) (rb : RepD G w H b y) (h : eqD vh a b = some k) :
    ∃ d e, Dp G.K H x d ∧ Dp G.K H y e ∧ SeqAt.shaped d = true ∧ SeqAt.shaped e = true ∧ k = PyData.eqv d e := by
  unfold eqD at h
  split at h
  · rename_i p q e1 e2
    split at h
    · rename_i hs
      cases h
      rw [Bool.and_eq_true] at hs
      exact ⟨p, q, pyTop_ok R ra e1, pyTop_ok R rb e2, hs.1, hs.2, rfl⟩
    · cases h
  · cases h
theorem inD_ok {a b : D} {x y : V} {k : Bool} (R : RelH G w vh H) (ra : RepD G w H a x) (rb : RepD G w H b y) (h : inD vh a b = some k) :
    ∃ d ds, Dp G.K H x d ∧ Dp G.K H y (.list ds) ∧ SeqAt.shaped d = true ∧ SeqAt.shaped (.list ds) = true ∧ k = ds.any fun z => PyData.eqv z d := by
  unfold inD at h
  split at h
  · rename_i p q e1 e2
    split at h
    · rename_i hs
      cases h
      rw [Bool.and_eq_true] at hs
      exact ⟨p, q, pyTop_ok R ra e1, pyTop_ok R rb e2, hs.1, hs.2, rfl⟩
    · cases h
  · cases h
theorem PostO.map {Q : VK} {o : Option Bool} {f : Bool → D} (h : PostO G w H Q (o.map fun k => (f k, vh))) : ∃ k, o = some k ∧ PostO G w H Q (some (f k, vh)) := by
  cases o with
  | none => exact h.elim
  | some k => exact ⟨k, rfl, h⟩
theorem isNon_rep {a : D} {x : V} (ra : RepD G w H a x) : decide (x = .non) = isNonD a := by
  cases a with
  | non => simp only [RepD] at ra; subst ra; rfl
  | bl b => simp only [RepD] at ra; subst ra; rfl
  | int b => simp only [RepD] at ra; subst ra; rfl
  | str b => simp only [RepD] at ra; subst ra; rfl
  | tup b => simp only [RepD] at ra; obtain ⟨p, vs, rfl, _⟩ := ra; rfl
  | lst b => simp only [RepD] at ra; obtain ⟨p, vs, rfl, _⟩ := ra; rfl
  | scr b => simp only [RepD] at ra; obtain ⟨p, vs, rfl, _⟩ := ra; rfl
  | ref b => simp only [RepD] at ra; obtain ⟨_, rfl⟩ := ra; rfl
  | gl b => simp only [RepD] at ra; obtain ⟨_, _, rfl⟩ := ra; rfl
theorem says_lt {X : Cx} {op : CmpOp} {p : Int → Int → Bool} (ho : OpR X (compareOp op) (rI0 fun i j => .bl (p i j))) : ∃ r, OpR X (compareOp op) r ∧ OpSays G (ltD p) r := by
  refine ⟨_, ho, fun w vh H a b x y Q R ra rb h => ?_⟩
  cases a with
  | int i =>
    cases b with
    | int j =>
      simp only [RepD] at ra rb
      exact ⟨i, j, ra, rb, h.here R (by simp only [RepD])⟩
    | _ => exact h.elim
  | _ => exact h.elim
theorem says_is {X : Cx} : ∃ r, OpR X (compareOp .Is) r ∧ OpSays G (isD false) r := by
  refine ⟨_, op_isN.or op_isBl, fun w vh H a b x y Q R ra rb h => ?_⟩
  cases b with
  | non =>
    have h : PostO G w H Q (some (.bl (isNonD a != false), vh)) := by cases a <;> exact h
    simp only [RepD] at rb
    refine .inl ⟨rb, h.here R ?_⟩
    rw [isNon_rep ra]; cases isNonD a <;> simp only [RepD] <;> rfl
  | bl j =>
    cases a with
    | bl i =>
      simp only [RepD] at ra rb
      exact .inr ⟨i, j, ra, rb, h.here R (by simp only [RepD]; cases decide (i = j) <;> rfl)⟩
    | _ => exact h.elim
  | _ => cases a <;> exact h.elim
theorem says_isn {X : Cx} : ∃ r, OpR X (compareOp .IsNot) r ∧ OpSays G (isD true) r := by
  refine ⟨_, op_notN.or op_notBl, fun w vh H a b x y Q R ra rb h => ?_⟩
  cases b with
  | non =>
    have h : PostO G w H Q (some (.bl (isNonD a != true), vh)) := by cases a <;> exact h
    simp only [RepD] at rb
    refine .inl ⟨rb, h.here R ?_⟩
    rw [isNon_rep ra]; cases isNonD a <;> simp only [RepD] <;> rfl
  | bl j =>
    cases a with
    | bl i =>
      simp only [RepD] at ra rb
      exact .inr ⟨i, j, ra, rb, h.here R (by simp only [RepD]; cases decide (i = j) <;> rfl)⟩
    | _ => exact h.elim
  | _ => cases a <;> exact h.elim
theorem says_cmp {X : Cx} (hK : X.K = G.K) (hu : X.A.units + 65 < cLine) (op : CmpOp) : ∃ r, OpR X (compareOp op) r ∧ OpSays G (cmpD op) r := by
  have hu' : X.A.units + 64 < cLine := by omega
  cases op with
  | Eq =>
    refine ⟨_, op_eqD hu', fun w vh H a b x y Q R ra rb h => ?_⟩
    rw [hK]
    obtain ⟨k, e, h⟩ := PostO.map h
    obtain ⟨d, f, h1, h2, h3, h4, rfl⟩ := eqD_ok R ra rb e
    exact ⟨d, f, h1, h2, h3, h4, h.here R (by simp only [RepD])⟩
  | NotEq =>
    refine ⟨_, op_neD hu', fun w vh H a b x y Q R ra rb h => ?_⟩
    rw [hK]
    obtain ⟨k, e, h⟩ := PostO.map h
    obtain ⟨d, f, h1, h2, h3, h4, rfl⟩ := eqD_ok R ra rb e
    exact ⟨d, f, h1, h2, h3, h4, h.here R (by simp only [RepD])⟩
  | Lt => exact says_lt op_lt
  | LtE => exact says_lt op_le
  | Gt => exact says_lt op_gt
  | GtE => exact says_lt op_ge
  | Is => exact says_is
  | IsNot => exact says_isn
  | In =>
    refine ⟨_, op_inD hu, fun w vh H a b x y Q R ra rb h => ?_⟩
    rw [hK]
    obtain ⟨k, e, h⟩ := PostO.map h
    obtain ⟨d, f, h1, h2, h3, h4, rfl⟩ := inD_ok R ra rb e
    exact ⟨d, f, h1, h2, h3, h4, h.here R (by simp only [RepD])⟩
  | NotIn =>
    refine ⟨_, op_notInD hu, fun w vh H a b x y Q R ra rb h => ?_⟩
    rw [hK]
    obtain ⟨k, e, h⟩ := PostO.map h
    obtain ⟨d, f, h1, h2, h3, h4, rfl⟩ := inD_ok R ra rb e
    exact ⟨d, f, h1, h2, h3, h4, h.here R (by simp only [RepD])⟩
/-- a < b < c -/
def chainE (op op' : CmpOp) (f g h : Env3 → VH → Res D) (env : Env3) (vh : VH) : Res D := (f env vh).bind fun x vh1 => (g env vh1).bind fun y vh2 => (Res.ofO (cmpD op vh2 x y)).bind fun k vh3 => match k with
  | .bl true => (h env vh3).bind fun z vh4 => .ofO (cmpD op' vh4 y z)
  | .bl false => .ok (.bl false) vh3
  | _ => .bad
theorem cmpD_vh {op : CmpOp} {a b d : D} {vh' : VH} (h : cmpD op vh a b = some (d, vh')) : vh' = vh ∧ ∃ k, d = .bl k := by
  have m : ∀ {o : Option Bool} {f : Bool → Bool}, (o.map fun k => (D.bl (f k), vh)) = some (d, vh') → vh' = vh ∧ ∃ k, d = .bl k := fun {o f} h => by
    cases o with
    | none => cases h
    | some k => cases h; exact ⟨rfl, _, rfl⟩
  have l : ∀ {p : Int → Int → Bool}, ltD p vh a b = some (d, vh') → vh' = vh ∧ ∃ k, d = .bl k := fun {p} h => by
    unfold ltD at h
    split at h
    · cases h; exact ⟨rfl, _, rfl⟩
    · cases h
  have i : ∀ {n : Bool}, isD n vh a b = some (d, vh') → vh' = vh ∧ ∃ k, d = .bl k := fun {n} h => by
    unfold isD at h
    split at h
    · cases h; exact ⟨rfl, _, rfl⟩
    · cases h; exact ⟨rfl, _, rfl⟩
    · cases h
  cases op with
  | Eq => exact m (f := fun k => k) h
  | NotEq => exact m (f := fun k => !k) h
  | In => exact m (f := fun k => k) h
  | NotIn => exact m (f := fun k => !k) h
  | Is => exact i h
  | IsNot => exact i h
  | Lt => exact l h
  | LtE => exact l h
  | Gt => exact l h
  | GtE => exact l h
theorem tE_chain {W : WX} {op op' : CmpOp} {r r' : R2} {f g h : Env3 → VH → Res D} (s1 : OpSays G (cmpD op) r) (s2 : OpSays G (cmpD op') r') :
    ∀ σ H Q, tE G W (chainE op op' f g h) σ H Q → tChain r r' (tE G W f) (tE G W g) (tE G W h) σ H Q := fun σ H Q ⟨w, env, vh, R, RE, q⟩ => by
  refine ⟨w, env, vh, R, RE, (q.bind (rep := RepD G)).mono fun u H1 ⟨w1, x, vh1, L1, R1, r1, h1⟩ => ⟨w1, env, vh1, R1, RE.le L1, (h1.bind (rep := RepD G)).mono fun v H2 ⟨w2, y, vh2, L2, R2, r2, h2⟩ => ?_⟩⟩
  cases e : cmpD op vh2 x y with
  | none => rw [e] at h2; exact h2.elim
  | some z =>
    obtain ⟨d, vh3⟩ := z
    obtain ⟨rfl, k, rfl⟩ := cmpD_vh e
    rw [e] at h2
    refine s1 w2 vh3 H2 x y u v _ R2 (L2.rep _ _ r1) r2 ?_
    rw [e]
    intro w3 zv H3 L3' R3 r3
    simp only [RepD] at r3
    subst r3
    refine ⟨k, rfl, ?_⟩
    have h3 := Post.of_le h2 L3'
    cases k with
    | false => rw [if_neg Bool.false_ne_true]; exact Post.here h3 R3 (by simp only [RepD])
    | true =>
      rw [if_pos rfl]
      refine ⟨w3, env, vh3, R3, (RE.le L1).le (L2.trans L3'), (Post.bind (rep := RepD G) (r := h env vh3) (k := fun z vh4 => .ofO (cmpD op' vh4 y z)) h3).mono fun zv H4 ⟨w4, zz, vh4, L4, R4, r4, h4⟩ => ?_⟩
      exact s2 w4 vh4 H4 y zz v zv _ R4 ((L3'.trans L4).rep _ _ r2) r4 (.of h4)
theorem se_chain {X : Cx} {W : WX} {op op' : CmpOp} {a b c : Expr} {f g h : Env3 → VH → Res D} {pos : Pos} (hK : X.K = G.K) (hu : X.A.units + 65 < cLine) (ha : PE X a (tE G W f)) (hb : PE X b (tE G W g)) (hc : PE X c (tE G W h))
    (hm : lastMarks [op, op'] [b, c] = false) : PE X (.Compare a [op, op'] [b, c] pos) (tE G W (chainE op op' f g h)) := by
  obtain ⟨r, o1, s1⟩ := says_cmp (G := G) hK hu op
  obtain ⟨r', o2, s2⟩ := says_cmp (G := G) hK hu op'
  exact PE.imp (pe_chain o1 o2 ha hb hc hm) (tE_chain s1 s2)
end
end L3
end
section
set_option Elab.async false
set_option linter.all false
set_option maxRecDepth 100000
set_option maxHeartbeats 2000000
/-! ### t[::-1] of a tuple -/
namespace HT
open PySem PyProof.Rows
section
variable {prog : Program} {w : World} {A : Around} {E : Value → Shared → Prop} {s : Shared}
theorem sliceApplied_rev {sl : Addr} {vl vu vs : Value} {n : Nat} {Q : Int × Int × Nat → Shared → Prop} (hs : s.heap.IsSliceOf sl vl vu vs) (pl : IsPart vl none) (pu : IsPart vu none) (ps : IsPart vs (some (-1)))
    (h : Q ((n : Int) - 1, -1, n) s) : wpAny (model prog w) A (Builtin.Slice.sliceApplied (.ref sl) (pure (n : Int))) Q E s := by
  obtain ⟨os, hos, hcs, hds⟩ := id hs
  unfold Builtin.Slice.sliceApplied Builtin.Slice.sliceFields
  refine wpAny_bind (wpAny_bind (wpAny_field hos hds (x := vl) rfl (wpAny_bind (wpAny_field hos hds (x := vu) rfl (wpAny_bind (wpAny_field hos hds (x := vs) rfl (wpAny_pure ?_)))))))
  refine wpAny_bind (slicePart_ ps ?_)
  show wpAny _ _ (if ((-1 : Int) == 0) = true then _ else _) _ _ s
  rw [if_neg (by decide)]
  refine wpAny_bind (slicePart_ pl (wpAny_bind (slicePart_ pu (wpAny_bind (wpAny_pure ?_)))))
  show wpAny _ _ (match Builtin.Slice.sliceAdjust none none (-1) (n : Int) with | (lo, hi) => pure (lo, (-1 : Int), Builtin.Slice.slicePlaces lo hi (-1))) _ _ s
  have e1 : Builtin.Slice.sliceAdjust none none (-1) (n : Int) = ((n : Int) - 1, -1) := rfl
  rw [e1]
  show wpAny _ _ (pure ((n : Int) - 1, (-1 : Int), Builtin.Slice.slicePlaces ((n : Int) - 1) (-1) (-1))) _ _ s
  have e2 : Builtin.Slice.slicePlaces ((n : Int) - 1) (-1) (-1) = n := by
    unfold Builtin.Slice.slicePlaces
    have h1 : ¬ ((-1 : Int) > 0) := by decide
    simp only [h1, if_false]
    split
    · rw [show (-(-1 : Int)) = 1 by decide, Int.ediv_one]; omega
    · omega
  rw [e2]
  exact wpAny_pure h
theorem fmap_congr {α β : Type} {f g : α → Option β} : ∀ {l : List α}, (∀ x ∈ l, f x = g x) → l.filterMap f = l.filterMap g
  | [], _ => rfl
  | a :: r, h => by
    rw [List.filterMap_cons, List.filterMap_cons, h a List.mem_cons_self, fmap_congr fun x hx => h x (List.mem_cons_of_mem _ hx)]
theorem pick_rev (xs : Array Value) : ((List.range xs.size).filterMap fun (m : Nat) => xs[(((xs.size : Int) - 1) + (m : Int) * (-1)).toNat]?).toArray = xs.toList.reverse.toArray := by
  congr 1
  have e : (List.range xs.size).filterMap (fun (m : Nat) => xs[(((xs.size : Int) - 1) + (m : Int) * (-1)).toNat]?) = (List.range xs.size).filterMap (fun m => xs[xs.size - 1 - m]?) := by
    refine fmap_congr fun m hm => ?_
    have := List.mem_range.mp hm
    rw [show (((xs.size : Int) - 1) + (m : Int) * (-1)).toNat = xs.size - 1 - m by omega]
  rw [e]
  have e2 : (List.range xs.size).filterMap (fun m => xs[xs.size - 1 - m]?) = ((List.range xs.size).map fun k => xs.size - 1 - k).filterMap (xs[·]?) := by
    rw [List.filterMap_map]; rfl
  rw [e2, PySem.W.krv_range, List.filterMap_reverse, PySem.W.krv_all]
theorem getItem_tuple_rev {t sl : Addr} {items : Array Value} {vl vu vs : Value} {Q : Value → Shared → Prop} (ht : IsTup s.heap t items) (hs : s.heap.IsSliceOf sl vl vu vs) (pl : IsPart vl none) (pu : IsPart vu none) (ps : IsPart vs (some (-1)))
    (h : Q (.ref s.heap.objs.size) { s with heap := s.heap.push { cls := .type "tuple", data := .seq items.toList.reverse.toArray } })
    (hsz : items.size ≤ sizeLine) : wpAny (model prog w) A (getItem (.ref t) (.ref sl)) Q E s := by
  have htake : sizeOk (.seq items.toList.reverse.toArray) := by
    show items.toList.reverse.toArray.size ≤ sizeLine
    rw [List.size_toArray, List.length_reverse, Array.length_toList]
    omega
  obtain ⟨os, hos, hcs, hds⟩ := id hs
  have hTs : s.TypeIs (.ref sl) "slice" := ⟨os, hos, hcs⟩
  unfold getItem
  try with_reducible refine wpAny_holding ?_
  first | refine wpAny_bind (wpAny_pure ?_) | skip
  refine wpAny_bind (wpAny_sequenceKey ht.typeIs (by decide) ?_)
  refine wpAny_bind (wpAny_callSpecial?_slot (name := Str.ofString "__getitem__") ht.typeIs PyProof.Rows.slot_tuple_getitem
    (wpAny_call_entry PyProof.Rows.slot_tuple_getitem ht.typeIs entry_tuple_getitem ?_ (args_tuple_getitem _ _)))
  show wpAny _ _ (Builtin.Tuple.tupleItemsOf (.ref t) >>= _) _ _ s
  refine wpAny_bind (tupleItemsOf_ ht ?_)
  refine wpAny_bind (wpAny_typeOf hTs ?_)
  rw [if_pos (by decide)]
  refine wpAny_bind (sliceApplied_rev hs pl pu ps ?_)
  have hno : ¬ ((((items.size : Int) - 1 == 0) && (-1 : Int) == 1 && items.size == items.size) = true) := by
    intro q
    rw [Bool.and_eq_true, Bool.and_eq_true] at q
    exact absurd q.1.2 (by decide)
  show wpAny _ _ (if (((items.size : Int) - 1 == 0) && (-1 : Int) == 1 && items.size == items.size) = true then _ else _) _ _ s
  rw [if_neg hno, pick_rev]
  first
    | exact wpAny_bind (m := Builtin.Tuple.tupleExact _) (wpAny_newObj_type (wpAny_pure ⟨_, rfl, wpAny_pure h⟩) htake)
    | exact wpAny_bind (m := Builtin.Tuple.tupleExact _) (wpAny_newObj_type (wpAny_bind (wpAny_pure (wpAny_pure ⟨_, rfl, wpAny_pure h⟩))) htake)
    | exact wpAny_bind (wpAny_bind (m := Builtin.Tuple.tupleExact _) (wpAny_newObj_type (wpAny_pure (wpAny_pure ⟨_, rfl, wpAny_pure h⟩)) htake))
    | exact wpAny_bind (wpAny_bind (m := Builtin.Tuple.tupleExact _) (wpAny_newObj_type (wpAny_pure ⟨_, rfl, wpAny_pure h⟩) htake))
end
end HT
namespace L3
open PySem PySem.Spec L2
open PyProof.Rows hiding St
section
variable {X : Cx}
def tRevA (K : PySem.W.Frag) (te : TE) : TE := fun σ H Q => te σ H fun x H1 => (∃ a xs, x = .ref a ∧ SqL K H1 a xs ∧ ∀ p, H1 p = none → Q (.ref p) (upd H1 p (.lst xs.reverse))) ∨ ∃ a xs, x = .ref a ∧ SqT K H1 a xs ∧ ∀ p, H1 p = none → Q (.ref p) (upd H1 p (.tup xs.reverse))
theorem pe_revA {e : Expr} {te : TE} {k : Nat} {p1 p2 p3 pos : Pos} (he : PE X e te) : PE X (.Subscript e (.Slice none none (some (.UnaryOp .USub (.Constant (.int 1) k p1) p2)) p3) pos) (tRevA X.K te) := by
  refine ⟨fun pins s σ H Q I h => ?_⟩
  refine Subscript_ (thn (he.run pins s σ H _ I h) fun v s1 ⟨x, H1, I1, r1, q1⟩ => ?_)
  have hst : PO X (some (.UnaryOp .USub (.Constant (.int 1) k p1) p2)) (tPart (tUn (rU fun i => .int (-i)) (tC (.int 1)))) := po_some (pe_un un_neg pe_int)
  refine wpAny_Slice (thn (po_none.run pins s1 σ H1 (fun o H2 => o = none ∧ H2 = H1) I1 ⟨rfl, rfl⟩) fun vl s2 ⟨l, H2, I2, pl, el, e2⟩ => ?_)
  subst el e2
  refine thn (po_none.run pins s2 σ H2 (fun o H3 => o = none ∧ H3 = H2) I2 ⟨rfl, rfl⟩) fun vu s3 ⟨u, H3, I3, pu, eu, e3⟩ => ?_
  subst eu e3
  refine thn (hst.run pins s3 σ H3 (fun o H4 => o = some (-1) ∧ H4 = H3) I3 ⟨1, rfl, -1, rfl, rfl, rfl⟩) fun vs s4 ⟨o, H4, I4, ps, eo, e4⟩ => ?_
  subst eo e4
  have I5 : Inv X pins σ H4 { s4 with heap := s4.heap.push { cls := .type "slice", data := .fields #[vl, vu, vs] } } := I4.kept (t' := s4.toks) fun b ob q => Heap.get?_push_of_some _ q
  rcases q1 with ⟨a, xs, ex, hx, q⟩ | ⟨a, xs, ex, hx, q⟩
  · subst ex
    cases r1
    obtain ⟨its, r, ht, hz⟩ := I5.list hx
    have hlen := r.length
    show wpAny (model X.prog X.w) X.A (subscriptTail e (.Slice none none (some (.UnaryOp .USub (.Constant (.int 1) k p1) p2)) p3) (.ref a) (.ref s4.heap.objs.size)) (EP X pins σ Q) X.xe { s4 with heap := s4.heap.push { cls := .type "slice", data := .fields #[vl, vu, vs] } }
    refine tail_any (ops := [.ref a, .ref s4.heap.objs.size]) ht.isList.typeIs (PySem.slot_list_getitem.lookup) ?_ (by with_unfolding_all rfl)
    refine wpAny_getItem_list_slice ht.isList (Heap.IsSliceOf.new _ vl vu vs) pl pu ps (by decide) ?_ (by rw [List.size_toArray]; omega)
    rw [PySem.W.krv_pick]
    refine ⟨.ref _, _, I5.laid (t' := s4.toks) (o := .lst xs.reverse) (fun b ob q => Heap.get?_push_of_some _ q) (Nat.le_refl _) ?_, rfl, q _ (I5.hok.fresh (Nat.le_refl _))⟩
    exact ⟨by rw [List.length_reverse]; exact hz, _, 0, r.reverse, Heap.get?_push_size _ rfl⟩
  · subst ex
    cases r1
    obtain ⟨its, r, ht, hz⟩ := I5.tuple hx
    have hlen := r.length
    show wpAny (model X.prog X.w) X.A (subscriptTail e (.Slice none none (some (.UnaryOp .USub (.Constant (.int 1) k p1) p2)) p3) (.ref a) (.ref s4.heap.objs.size)) (EP X pins σ Q) X.xe { s4 with heap := s4.heap.push { cls := .type "slice", data := .fields #[vl, vu, vs] } }
    refine tail_any (ops := [.ref a, .ref s4.heap.objs.size]) ht.typeIs (PyProof.Rows.slot_tuple_getitem.lookup) ?_ (by with_unfolding_all rfl)
    refine HT.getItem_tuple_rev ht (Heap.IsSliceOf.new _ vl vu vs) pl pu ps ?_ (by rw [List.size_toArray]; omega)
    refine ⟨.ref _, _, I5.laid (t' := s4.toks) (o := .tup xs.reverse) (fun b ob q => Heap.get?_push_of_some _ q) (Nat.le_refl _) ?_, rfl, q _ (I5.hok.fresh (Nat.le_refl _))⟩
    exact ⟨by rw [List.length_reverse]; exact hz, _, r.reverse, IsTup.new _ _⟩
end
end L3
end
section
set_option Elab.async false
set_option linter.all false
set_option maxRecDepth 100000
set_option maxHeartbeats 2000000
namespace L3
open PySem PySem.Spec L2
open PyProof.Rows hiding St
section
variable {G : Gx} {w : Wd} {vh : VH} {H : Hp} {X : Cx}

/-! ### places, slices -/
theorem atI_rep {ds : List D} {vs : List V} {i : Int} {d : D} (h : RepDs G w H ds vs) (e : atI ds i = some d) : ∃ v, atI vs i = some v ∧ RepD G w H d v := by
  unfold atI at e ⊢
  rw [h.length]
  cases q : ixN ds.length i with
  | none => rw [q] at e; cases e
  | some j =>
    rw [q] at e
    exact h.get (i := j) e
def idxD (vh : VH) (a b : D) : Option (D × VH) := match b with
  | .int i => match a with
    | .tup ds => (atI ds i).map fun d => (d, vh)
    | a => match seqOf vh a with
      | some ds => (atI ds i).map fun d => (d, vh)
      | none => none
  | _ => none
theorem says_idx (hK : X.K = G.K) : ∃ r, IxR X r ∧ OpSays G idxD r := by
  refine ⟨_, ix_list.or ix_tup, fun w vh H a b x y Q R ra rb h => ?_⟩
  rw [hK]
  cases b with
  | int i =>
    simp only [RepD] at rb
    have lst : PostO G w H Q (match seqOf vh a with | some ds => (atI ds i).map fun d => (d, vh) | none => none) → rIxL G.K x y H Q := fun h => by
      cases e : seqOf vh a with
      | none => rw [e] at h; exact h.elim
      | some ds =>
        rw [e] at h
        dsimp only at h
        cases q : atI ds i with
        | none => rw [q] at h; exact h.elim
        | some d =>
          rw [q] at h
          obtain ⟨p, vs, rfl, h1, h2⟩ := seqOf_ok R ra e
          obtain ⟨v, q', r⟩ := atI_rep h2 q
          exact ⟨p, vs, i, v, rfl, rb, h1, q', PostO.here h R r⟩
    cases a with
    | tup ds =>
      have h : PostO G w H Q ((atI ds i).map fun d => (d, vh)) := h
      cases q : atI ds i with
      | none => rw [q] at h; exact h.elim
      | some d =>
        rw [q] at h
        obtain ⟨p, vs, rfl, h1, h2⟩ := tup_ok ra
        obtain ⟨v, q', r⟩ := atI_rep h2 q
        exact .inr ⟨p, vs, i, v, rfl, rb, h1, q', PostO.here h R r⟩
    | _ => exact .inl (lst h)
  | _ => exact h.elim
def cutL {α : Type} (xs : List α) (lo hi : Option Int) : List α := (xs.drop (HT.sIx xs.length 0 lo)).take (HT.sIx xs.length xs.length hi - HT.sIx xs.length 0 lo)
theorem cut_rep {ds : List D} {vs : List V} (lo hi : Option Int) (h : RepDs G w H ds vs) : RepDs G w H (cutL ds lo hi) (cutV vs lo hi) := by
  unfold cutL cutV
  rw [h.length]
  exact (h.drop _).take _
def slcD (m : Bool) (vh : VH) (a : D) (lo hi : Option Int) : Option (D × VH) := match a with
  | .tup ds => some (.tup (cutL ds lo hi), vh)
  | a => (seqOf vh a).map fun ds => mkL m (cutL ds lo hi) vh
/-- a part of a slice: left out, or an int -/
def partE : Option (Env3 → VH → Res D) → Env3 → VH → Res (Option Int)
  | none, _, vh => .ok none vh
  | some f, env, vh => (f env vh).bind fun d vh1 => match d with
    | .int i => .ok (some i) vh1
    | _ => .bad
def slcE (m : Bool) (f : Env3 → VH → Res D) (lo hi : Option (Env3 → VH → Res D)) (env : Env3) (vh : VH) : Res D := (f env vh).bind fun x vh1 => (partE lo env vh1).bind fun l vh2 => (partE hi env vh2).bind fun u vh3 => .ofO (slcD m vh3 x l u)
def repO (_ : Wd) (_ : Hp) (a b : Option Int) : Prop := a = b
def tO (G : Gx) (W : WX) (f : Env3 → VH → Res (Option Int)) : TO := fun σ H Q => ∃ w env vh, RelH G w vh H ∧ RelE G w H env σ ∧ Post G repO (fun c d H' => W c d σ H') w H Q (f env vh)
theorem PO.imp {e : Option Expr} {t t' : TO} (h : PO X e t) (f : ∀ σ H Q, t' σ H Q → t σ H Q) : PO X e t' := ⟨fun pins s σ H Q I q => h.run pins s σ H Q I (f _ _ _ q)⟩
theorem so_none {W : WX} : PO X none (tO G W (partE none)) := PO.imp po_none fun σ H Q ⟨w, env, vh, R, RE, h⟩ => Post.here h R rfl
theorem so_some {W : WX} {e : Expr} {f : Env3 → VH → Res D} (he : PE X e (tE G W f)) : PO X (some e) (tO G W (partE (some f))) := PO.imp (po_some he) fun σ H Q ⟨w, env, vh, R, RE, h⟩ =>
  ⟨w, env, vh, R, RE, (h.bind (rep := RepD G)).mono fun u H1 ⟨w1, x, vh1, L1, R1, r1, h1⟩ => by
    cases x with
    | int i =>
      simp only [RepD] at r1
      exact ⟨i, r1, Post.here h1 R1 rfl⟩
    | _ => exact h1.elim⟩
theorem se_slc {W : WX} {m : Bool} {e : Expr} {lo hi : Option Expr} {p2 pos : Pos} {f : Env3 → VH → Res D} {l u : Option (Env3 → VH → Res D)} (hK : X.K = G.K) (he : PE X e (tE G W f)) (hl : PO X lo (tO G W (partE l))) (hu : PO X hi (tO G W (partE u))) :
    PE X (.Subscript e (.Slice lo hi none p2) pos) (tE G W (slcE m f l u)) :=
  PE.imp (pe_slice (sl_list.or sl_tupA) he hl hu) fun σ H Q ⟨w, env, vh, R, RE, h⟩ => ⟨w, env, vh, R, RE, (h.bind (rep := RepD G)).mono fun x H1 ⟨w1, d, vh1, L1, R1, r1, h1⟩ => ⟨w1, env, vh1, R1, RE.le L1, (h1.bind (rep := repO)).mono fun a H2 ⟨w2, a', vh2, L2, R2, r2, h2⟩ =>
    ⟨w2, env, vh2, R2, (RE.le L1).le L2, (h2.bind (rep := repO)).mono fun b H3 ⟨w3, b', vh3, L3, R3, r3, h3⟩ => by
      obtain rfl : a' = a := r2
      obtain rfl : b' = b := r3
      have r1 := (L2.trans L3).rep _ _ r1
      rw [hK]
      have h3 := PostO.of h3
      have lst : PostO G w3 H3 Q ((seqOf vh3 d).map fun ds => mkL m (cutL ds a' b') vh3) → rSlL G.K x a' b' H3 Q := fun h => by
        cases e : seqOf vh3 d with
        | none => rw [e] at h; exact h.elim
        | some ds =>
          rw [e] at h
          obtain ⟨p, vs, rfl, g1, g2⟩ := seqOf_ok R3 r1 e
          exact ⟨p, vs, rfl, g1, PostO.mkL h R3 (cut_rep _ _ g2)⟩
      cases d with
      | tup ds =>
        obtain ⟨p, vs, rfl, g1, g2⟩ := tup_ok r1
        refine .inr ⟨p, vs, rfl, g1, fun hw => PostO.here h3 R3 ?_, fun _ => PostO.mkT h3 R3 (cut_rep _ _ g2)⟩
        have : cutL ds a' b' = ds := by
          unfold cutL
          rw [g2.length] at hw
          rw [hw.1, hw.2]; simp
        rw [this]; exact r1
      | _ => exact .inl (lst h3)⟩⟩⟩
def revD (m : Bool) (vh : VH) (x : D) : Option (D × VH) := match x with
  | .tup ds => some (.tup ds.reverse, vh)
  | x => (seqOf vh x).map fun ds => mkL m ds.reverse vh
def revE (m : Bool) (f : Env3 → VH → Res D) (env : Env3) (vh : VH) : Res D := (f env vh).bind fun x vh1 => .ofO (revD m vh1 x)
theorem RepDs.rev {ds : List D} {vs : List V} (h : RepDs G w H ds vs) : RepDs G w H ds.reverse vs.reverse := by
  induction ds generalizing vs with
  | nil => simp only [RepDs] at h; subst h; exact .nil
  | cons d ds ih =>
    simp only [RepDs] at h
    obtain ⟨v, vs', rfl, h1, h2⟩ := h
    rw [List.reverse_cons, List.reverse_cons]
    exact (ih h2).append (.one h1)
theorem se_rev {W : WX} {m : Bool} {e : Expr} {k : Nat} {p1 p2 p3 pos : Pos} {f : Env3 → VH → Res D} (hK : X.K = G.K) (he : PE X e (tE G W f)) : PE X (.Subscript e (.Slice none none (some (.UnaryOp .USub (.Constant (.int 1) k p1) p2)) p3) pos) (tE G W (revE m f)) :=
  PE.imp (pe_revA he) fun σ H Q ⟨w, env, vh, R, RE, h⟩ => ⟨w, env, vh, R, RE, (h.bind (rep := RepD G)).mono fun x H1 ⟨w1, d, vh1, L1, R1, r1, h1⟩ => by
    rw [hK]
    have h1 := PostO.of h1
    have lst : PostO G w1 H1 Q ((seqOf vh1 d).map fun ds => mkL m ds.reverse vh1) → (∃ a xs, x = .ref a ∧ SqL G.K H1 a xs ∧ ∀ p, H1 p = none → Q (.ref p) (upd H1 p (.lst xs.reverse))) := fun h1 => by
      cases e : seqOf vh1 d with
      | none => rw [e] at h1; exact h1.elim
      | some ds =>
        rw [e] at h1
        obtain ⟨p, vs, rfl, g1, g2⟩ := seqOf_ok R1 r1 e
        exact ⟨p, vs, rfl, g1, PostO.mkL h1 R1 g2.rev⟩
    cases d with
    | tup ds =>
      obtain ⟨p, vs, rfl, g1, g2⟩ := tup_ok r1
      exact .inr ⟨p, vs, rfl, g1, PostO.mkT h1 R1 g2.rev⟩
    | _ => exact .inl (lst h1)⟩

/-! ### built-ins by name -/
inductive Blt where
  | len | abs | max2 | min2 | maxL | minL | sum | all | any | list | tuple | int | sorted
deriving DecidableEq
def Blt.name : Blt → Str
  | .len => "len" | .abs => "abs" | .max2 => "max" | .min2 => "min" | .maxL => "max" | .minL => "min" | .sum => "sum" | .all => "all" | .any => "any" | .list => "list" | .tuple => "tuple" | .int => "int" | .sorted => "sorted"
def maxI : List Int → Option Int
  | [] => none
  | n :: ns => some (ns.foldl max n)
def minI : List Int → Option Int
  | [] => none
  | n :: ns => some (ns.foldl min n)
theorem foldl_max_spec : ∀ (ns : List Int) (n : Int), (ns.foldl max n ∈ n :: ns) ∧ ∀ y ∈ n :: ns, y ≤ ns.foldl max n
  | [], n => by simp
  | m :: ns, n => by
    obtain ⟨h1, h2⟩ := foldl_max_spec ns (max n m)
    rw [List.foldl_cons]
    refine ⟨?_, fun y hy => ?_⟩
    · rcases List.mem_cons.mp h1 with h | h
      · rw [h]
        rcases Int.le_total n m with q | q
        · rw [Int.max_eq_right q]; simp
        · rw [Int.max_eq_left q]; simp
      · simp [h]
    · have hm := h2 (max n m) (by simp)
      have : n ≤ max n m := Int.le_max_left n m
      have : m ≤ max n m := Int.le_max_right n m
      rcases List.mem_cons.mp hy with rfl | hy
      · omega
      · rcases List.mem_cons.mp hy with rfl | hy
        · omega
        · exact h2 y (List.mem_cons_of_mem _ hy)
theorem foldl_min_spec : ∀ (ns : List Int) (n : Int), (ns.foldl min n ∈ n :: ns) ∧ ∀ y ∈ n :: ns, ns.foldl min n ≤ y
  | [], n => by simp
  | m :: ns, n => by
    obtain ⟨h1, h2⟩ := foldl_min_spec ns (min n m)
    rw [List.foldl_cons]
    refine ⟨?_, fun y hy => ?_⟩
    · rcases List.mem_cons.mp h1 with h | h
      · rw [h]
        rcases Int.le_total n m with q | q
        · rw [Int.min_eq_left q]; simp
        · rw [Int.min_eq_right q]; simp
      · simp [h]
    · have hm := h2 (min n m) (by simp)
      have : min n m ≤ n := Int.min_le_left n m
      have : min n m ≤ m := Int.min_le_right n m
      rcases List.mem_cons.mp hy with rfl | hy
      · omega
      · rcases List.mem_cons.mp hy with rfl | hy
        · omega
        · exact h2 y (List.mem_cons_of_mem _ hy)
def insI (n : Int) : List Int → List Int
  | [] => [n]
  | m :: ms => if n ≤ m then n :: m :: ms else m :: insI n ms
def sortI : List Int → List Int
  | [] => []
  | n :: ns => insI n (sortI ns)
theorem sorted_unique : ∀ {xs ys : List Int}, xs.Perm ys → xs.Pairwise (· ≤ ·) → ys.Pairwise (· ≤ ·) → xs = ys := fun h1 h2 h3 =>
  List.Perm.eq_of_pairwise (le := (· ≤ ·)) (fun a b _ _ h1 h2 => Int.le_antisymm h1 h2) h2 h3 h1
theorem insI_perm (n : Int) : ∀ ms : List Int, (insI n ms).Perm (n :: ms)
  | [] => .refl _
  | m :: ms => by
    unfold insI
    split
    · exact .refl _
    · exact ((insI_perm n ms).cons m).trans (.swap n m ms)
theorem sortI_perm : ∀ ns : List Int, (sortI ns).Perm ns
  | [] => .refl _
  | n :: ns => (insI_perm n _).trans ((sortI_perm ns).cons n)
theorem insI_sorted (n : Int) : ∀ {ms : List Int}, ms.Pairwise (· ≤ ·) → (insI n ms).Pairwise (· ≤ ·)
  | [], _ => by simp [insI]
  | m :: ms, h => by
    have h' := List.pairwise_cons.mp h
    unfold insI
    split
    · rename_i hle
      refine List.pairwise_cons.mpr ⟨fun y hy => ?_, h⟩
      rcases List.mem_cons.mp hy with rfl | hy
      · exact hle
      · exact Int.le_trans hle (h'.1 y hy)
    · rename_i hle
      refine List.pairwise_cons.mpr ⟨fun y hy => ?_, insI_sorted n h'.2⟩
      rcases List.mem_cons.mp ((insI_perm n ms).mem_iff.mp hy) with rfl | hy
      · omega
      · exact h'.1 y hy
theorem sortI_sorted : ∀ ns : List Int, (sortI ns).Pairwise (· ≤ ·)
  | [] => .nil
  | n :: ns => insI_sorted n (sortI_sorted ns)
def bltD (b : Blt) (m : Bool) (vh : VH) (as : List D) : Option (D × VH) := match b, as with
  | .len, [.str x] => if x.length ≤ sizeLine then some (.int x.length, vh) else none
  | .len, [.tup ds] => some (.int ds.length, vh)
  | .len, [a] => (seqOf vh a).map fun ds => (.int ds.length, vh)
  | .abs, [.int i] => some (.int (if i < 0 then -i else i), vh)
  | .max2, [.int i, .int j] => some (.int (if j > i then j else i), vh)
  | .min2, [.int i, .int j] => some (.int (if j < i then j else i), vh)
  | .maxL, [a] => ((seqOf vh a).bind intsOf).bind fun ns => (maxI ns).map fun n => (.int n, vh)
  | .minL, [a] => ((seqOf vh a).bind intsOf).bind fun ns => (minI ns).map fun n => (.int n, vh)
  | .sum, [a] => ((seqOf vh a).bind intsOf).map fun ns => (.int ns.sum, vh)
  | .all, [a] => ((seqOf vh a).bind boolsOf).map fun ns => (.bl (ns.all id), vh)
  | .any, [a] => ((seqOf vh a).bind boolsOf).map fun ns => (.bl (ns.any id), vh)
  | .list, [.tup ds] => some (mkL m ds vh)
  | .list, [a] => (seqOf vh a).map fun ds => mkL m ds vh
  | .tuple, [.tup ds] => some (.tup ds, vh)
  | .tuple, [a] => (seqOf vh a).map fun ds => (.tup ds, vh)
  | .int, [.int i] => some (.int i, vh)
  | .int, [.bl k] => some (.int (if k then 1 else 0), vh)
  | .sorted, [a] => ((seqOf vh a).bind intsOf).map fun ns => mkL m ((sortI ns).map D.int) vh
  | _, _ => none
theorem PostO.bnd {α : Type} {Q : VK} {o : Option α} {f : α → Option (D × VH)} (h : PostO G w H Q (o.bind f)) : ∃ a, o = some a ∧ PostO G w H Q (f a) := by
  cases o with
  | none => exact h.elim
  | some a => exact ⟨a, rfl, h⟩
theorem PostO.mp {α : Type} {Q : VK} {o : Option α} {f : α → D × VH} (h : PostO G w H Q (o.map f)) : ∃ a, o = some a ∧ PostO G w H Q (some (f a)) := by
  cases o with
  | none => exact h.elim
  | some a => exact ⟨a, rfl, h⟩
theorem ints_ok {a : D} {v : V} {ns : List Int} (R : RelH G w vh H) (r : RepD G w H a v) (e : (seqOf vh a).bind intsOf = some ns) : ∃ p, v = .ref p ∧ SqL G.K H p (ns.map V.int) := by
  cases q : seqOf vh a with
  | none => rw [q] at e; cases e
  | some ds =>
    rw [q] at e
    obtain rfl := ints_eq e
    obtain ⟨p, vs, rfl, h1, h2⟩ := seqOf_ok R r q
    rw [rep_ints h2] at h1
    exact ⟨p, rfl, h1⟩
theorem bools_ok {a : D} {v : V} {ns : List Bool} (R : RelH G w vh H) (r : RepD G w H a v) (e : (seqOf vh a).bind boolsOf = some ns) : ∃ p, v = .ref p ∧ SqL G.K H p (ns.map V.bl) := by
  cases q : seqOf vh a with
  | none => rw [q] at e; cases e
  | some ds =>
    rw [q] at e
    obtain rfl := bools_eq e
    obtain ⟨p, vs, rfl, h1, h2⟩ := seqOf_ok R r q
    rw [rep_bools h2] at h1
    exact ⟨p, rfl, h1⟩
/-- is it a class by name (list, tuple, int) or a function -/
def Blt.ty : Blt → Option String
  | .list => some "list" | .tuple => some "tuple" | .int => some "int"
  | _ => none
def Blt.id : Blt → String
  | .len => "len" | .abs => "abs" | .max2 => "max" | .min2 => "min" | .maxL => "max" | .minL => "min" | .sum => "sum" | .all => "all" | .any => "any" | .sorted => "sorted" | _ => ""
theorem boot_blt (b : Blt) (h : b.ty = none) : bootBuiltins b.name = some (.builtin b.id) := by
  cases b <;> first | (cases h; done) | (simp only [Blt.name, Blt.id]; decide +kernel)
theorem boot_ty (b : Blt) {t : String} (h : b.ty = some t) : bootBuiltins b.name = some (.type t) := by
  cases b <;> first | (cases h; done) | (cases h; simp only [Blt.name]; decide +kernel)
theorem one_arg {r : V → Hp → VK → Prop} {f : VH → D → Option (D × VH)} {o : VH → List D → Option (D × VH)} (ho : ∀ vh as, (∃ a, as = [a] ∧ o vh as = f vh a) ∨ o vh as = none)
    (h : ∀ w vh H a x Q, RelH G w vh H → RepD G w H a x → PostO G w H Q (f vh a) → r x H Q) : CallSays G o (fun xs H Q => ∃ x, xs = [x] ∧ r x H Q) := fun w vh H as xs Q R ra q => by
  rcases ho vh as with ⟨a, rfl, e⟩ | e
  · rw [e] at q
    obtain ⟨x, rfl, rx⟩ := rep1 ra
    exact ⟨x, rfl, h w vh H a x Q R rx q⟩
  · rw [e] at q; exact q.elim
theorem CallR.imp {f : Value} {r r' : List V → Hp → VK → Prop} (h : CallR X f r) (g : ∀ xs H Q, r' xs H Q → r xs H Q) : CallR X f r' := fun pins s σ H xs us Q I rv q => h pins s σ H xs us Q I rv (g _ _ _ q)
theorem len_ok {a : D} {x : V} {Q : VK} {m : Bool} (R : RelH G w vh H) (ra : RepD G w H a x) (h : PostO G w H Q (bltD .len m vh [a])) : ∃ n : Nat, LenV G.K x H n ∧ Q (.int n) H := by
  have lst : PostO G w H Q ((seqOf vh a).map fun ds => (.int ds.length, vh)) → ∃ n : Nat, LenV G.K x H n ∧ Q (.int n) H := fun h => by
    obtain ⟨ds, e, h⟩ := PostO.mp h
    obtain ⟨p, vs, rfl, h1, h2⟩ := seqOf_ok R ra e
    exact ⟨ds.length, .inl ⟨vs, h1, h2.length.symm⟩, h.here R (by simp only [RepD])⟩
  cases a with
  | str z =>
    have h : PostO G w H Q (if z.length ≤ sizeLine then some (.int z.length, vh) else none) := h
    simp only [RepD] at ra; subst ra
    split at h
    · rename_i hz
      exact ⟨z.length, ⟨hz, rfl⟩, h.here R (by simp only [RepD])⟩
    · exact h.elim
  | tup ds =>
    obtain ⟨p, vs, rfl, h1, h2⟩ := tup_ok ra
    exact ⟨ds.length, .inr ⟨vs, h1, h2.length.symm⟩, PostO.here h R (by simp only [RepD])⟩
  | _ => exact lst h
theorem bs_len (m : Bool) (hK : X.K = G.K) : ∃ r, CallR X (.builtin "len") r ∧ CallSays G (bltD .len m) r := by
  refine ⟨_, call_len, fun w vh H as xs Q R ra q => ?_⟩
  cases as with
  | nil => exact q.elim
  | cons a as =>
    cases as with
    | nil =>
      obtain ⟨x, rfl, rx⟩ := rep1 ra
      obtain ⟨n, h1, h2⟩ := len_ok R rx q
      exact ⟨x, n, rfl, by rw [hK]; exact h1, h2⟩
    | cons _ _ => cases a <;> exact q.elim
theorem bs_abs (m : Bool) : ∃ r, CallR X (.builtin "abs") r ∧ CallSays G (bltD .abs m) r := by
  refine ⟨_, call_abs, fun w vh H as xs Q R ra q => ?_⟩
  unfold bltD at q
  split at q <;> try (rename_i e; cases e)
  all_goals first
    | exact q.elim
    | (obtain ⟨x, rfl, rx⟩ := rep1 ra
       simp only [RepD] at rx
       subst rx
       exact ⟨_, rfl, q.here R (by simp only [RepD])⟩)
theorem bs_max2 {m : Bool} : CallSays G (bltD .max2 m) (fun xs H Q => ∃ i j, xs = [.int i, .int j] ∧ Q (.int (if j > i then j else i)) H) := fun w vh H as xs Q R ra q => by
  unfold bltD at q
  split at q <;> try (rename_i e; cases e)
  all_goals first
    | exact q.elim
    | (obtain ⟨x, y, rfl, rx, ry⟩ := rep2 ra
       simp only [RepD] at rx ry
       subst rx ry
       exact ⟨_, _, rfl, q.here R (by simp only [RepD])⟩)
theorem bs_sum {m : Bool} : CallSays G (bltD .sum m) (rSum G.K) := fun w vh H as xs Q R ra q => by
  cases as with
  | nil => exact q.elim
  | cons a as =>
    cases as with
    | cons _ _ => exact q.elim
    | nil =>
      obtain ⟨ns, e, q⟩ := PostO.mp q
      obtain ⟨x, rfl, rx⟩ := rep1 ra
      obtain ⟨p, rfl, hs⟩ := ints_ok R rx e
      exact ⟨p, ns, rfl, hs, q.here R (by simp only [RepD])⟩
theorem says_blt (b : Blt) (m : Bool) (hK : X.K = G.K) (hc : X.calm = true) (h : b.ty = none) : ∃ r, CallR X (.builtin b.id) r ∧ CallSays G (bltD b m) r := by
  cases b with
  | list => cases h
  | tuple => cases h
  | int => cases h
  | len =>
    refine ⟨_, call_len, fun w vh H as xs Q R ra q => ?_⟩
    cases as with
    | nil => exact q.elim
    | cons a as =>
      cases as with
      | nil =>
        obtain ⟨x, rfl, rx⟩ := rep1 ra
        obtain ⟨n, h1, h2⟩ := len_ok R rx q
        exact ⟨x, n, rfl, by rw [hK]; exact h1, h2⟩
      | cons _ _ => cases a <;> exact q.elim
  | abs =>
    refine ⟨_, call_abs, fun w vh H as xs Q R ra q => ?_⟩
    unfold bltD at q
    split at q <;> try (rename_i e; cases e)
    all_goals first
      | exact q.elim
      | (obtain ⟨x, rfl, rx⟩ := rep1 ra
         simp only [RepD] at rx
         subst rx
         exact ⟨_, rfl, q.here R (by simp only [RepD])⟩)
  | max2 =>
    refine ⟨_, call_max2 hc, fun w vh H as xs Q R ra q => ?_⟩
    unfold bltD at q
    split at q <;> try (rename_i e; cases e)
    all_goals first
      | exact q.elim
      | (obtain ⟨x, y, rfl, rx, ry⟩ := rep2 ra
         simp only [RepD] at rx ry
         subst rx ry
         exact ⟨_, _, rfl, q.here R (by simp only [RepD])⟩)
  | min2 =>
    refine ⟨_, call_min2 hc, fun w vh H as xs Q R ra q => ?_⟩
    unfold bltD at q
    split at q <;> try (rename_i e; cases e)
    all_goals first
      | exact q.elim
      | (obtain ⟨x, y, rfl, rx, ry⟩ := rep2 ra
         simp only [RepD] at rx ry
         subst rx ry
         exact ⟨_, _, rfl, q.here R (by simp only [RepD])⟩)
  | maxL =>
    refine ⟨_, cr_max hc, fun w vh H as xs Q R ra q => ?_⟩
    cases as with
    | nil => exact q.elim
    | cons a as =>
      cases as with
      | cons _ _ => exact q.elim
      | nil =>
        have q : PostO G w H Q (((seqOf vh a).bind intsOf).bind fun ns => (maxI ns).map fun n => (.int n, vh)) := q
        obtain ⟨ns, e, q⟩ := PostO.bnd q
        obtain ⟨k, e2, q⟩ := PostO.mp q
        obtain ⟨x, rfl, rx⟩ := rep1 ra
        obtain ⟨p, rfl, hs⟩ := ints_ok R rx e
        cases ns with
        | nil => cases e2
        | cons n ns =>
          cases e2
          refine ⟨p, n :: ns, rfl, by rw [hK]; exact hs, Nat.succ_pos _, fun k h1 h2 => ?_⟩
          obtain ⟨g1, g2⟩ := foldl_max_spec ns n
          have : k = ns.foldl max n := Int.le_antisymm (g2 k h1) (h2 _ g1)
          rw [this]
          exact q.here R (by simp only [RepD])
  | minL =>
    refine ⟨_, cr_min hc, fun w vh H as xs Q R ra q => ?_⟩
    cases as with
    | nil => exact q.elim
    | cons a as =>
      cases as with
      | cons _ _ => exact q.elim
      | nil =>
        have q : PostO G w H Q (((seqOf vh a).bind intsOf).bind fun ns => (minI ns).map fun n => (.int n, vh)) := q
        obtain ⟨ns, e, q⟩ := PostO.bnd q
        obtain ⟨k, e2, q⟩ := PostO.mp q
        obtain ⟨x, rfl, rx⟩ := rep1 ra
        obtain ⟨p, rfl, hs⟩ := ints_ok R rx e
        cases ns with
        | nil => cases e2
        | cons n ns =>
          cases e2
          refine ⟨p, n :: ns, rfl, by rw [hK]; exact hs, Nat.succ_pos _, fun k h1 h2 => ?_⟩
          obtain ⟨g1, g2⟩ := foldl_min_spec ns n
          have : k = ns.foldl min n := Int.le_antisymm (h2 _ g1) (g2 k h1)
          rw [this]
          exact q.here R (by simp only [RepD])
  | sum =>
    refine ⟨_, cr_sum hc, fun w vh H as xs Q R ra q => ?_⟩
    cases as with
    | nil => exact q.elim
    | cons a as =>
      cases as with
      | cons _ _ => exact q.elim
      | nil =>
        obtain ⟨ns, e, q⟩ := PostO.mp q
        obtain ⟨x, rfl, rx⟩ := rep1 ra
        obtain ⟨p, rfl, hs⟩ := ints_ok R rx e
        exact ⟨p, ns, rfl, by rw [hK]; exact hs, q.here R (by simp only [RepD])⟩
  | all =>
    refine ⟨_, cr_all hc, fun w vh H as xs Q R ra q => ?_⟩
    cases as with
    | nil => exact q.elim
    | cons a as =>
      cases as with
      | cons _ _ => exact q.elim
      | nil =>
        obtain ⟨ns, e, q⟩ := PostO.mp q
        obtain ⟨x, rfl, rx⟩ := rep1 ra
        obtain ⟨p, rfl, hs⟩ := bools_ok R rx e
        exact ⟨p, ns, rfl, by rw [hK]; exact hs, q.here R (by simp only [RepD])⟩
  | any =>
    refine ⟨_, cr_any hc, fun w vh H as xs Q R ra q => ?_⟩
    cases as with
    | nil => exact q.elim
    | cons a as =>
      cases as with
      | cons _ _ => exact q.elim
      | nil =>
        obtain ⟨ns, e, q⟩ := PostO.mp q
        obtain ⟨x, rfl, rx⟩ := rep1 ra
        obtain ⟨p, rfl, hs⟩ := bools_ok R rx e
        exact ⟨p, ns, rfl, by rw [hK]; exact hs, q.here R (by simp only [RepD])⟩
  | sorted =>
    refine ⟨_, cr_sortedI, fun w vh H as xs Q R ra q => ?_⟩
    cases as with
    | nil => exact q.elim
    | cons a as =>
      cases as with
      | cons _ _ => exact q.elim
      | nil =>
        obtain ⟨ns, e, q⟩ := PostO.mp q
        obtain ⟨x, rfl, rx⟩ := rep1 ra
        obtain ⟨p, rfl, hs⟩ := ints_ok R rx e
        refine ⟨p, ns, rfl, by rw [hK]; exact hs, fun ns' l hp hs' hl => ?_⟩
        have : ns' = sortI ns := sorted_unique (hp.trans (sortI_perm ns).symm) hs' (sortI_sorted ns)
        subst this
        exact PostO.mkL q R (rep_of_ints _) l hl
theorem says_ty (b : Blt) (m : Bool) (hK : X.K = G.K) {t : String} (h : b.ty = some t) : ∃ r, CallR X (.type t) r ∧ CallSays G (bltD b m) r := by
  cases b <;> cases h
  case list =>
    refine ⟨_, call_list_of, fun w vh H as xs Q R ra q => ?_⟩
    cases as with
    | nil => exact q.elim
    | cons a as =>
      cases as with
      | cons _ _ => cases a <;> exact q.elim
      | nil =>
        obtain ⟨x, rfl, rx⟩ := rep1 ra
        rw [hK]
        have lst : PostO G w H Q ((seqOf vh a).map fun ds => mkL m ds vh) → ∃ p ys, [x] = [V.ref p] ∧ (SqL G.K H p ys ∨ SqT G.K H p ys) ∧ ∀ l, H l = none → Q (.ref l) (upd H l (.lst ys)) := fun q => by
          obtain ⟨ds, e, q⟩ := PostO.mp q
          obtain ⟨p, vs, rfl, h1, h2⟩ := seqOf_ok R rx e
          exact ⟨p, vs, rfl, .inl h1, PostO.mkL q R h2⟩
        cases a with
        | tup ds =>
          obtain ⟨p, vs, rfl, h1, h2⟩ := tup_ok rx
          exact ⟨p, vs, rfl, .inr h1, PostO.mkL q R h2⟩
        | _ => exact lst q
  case tuple =>
    refine ⟨_, call_tuple_of, fun w vh H as xs Q R ra q => ?_⟩
    cases as with
    | nil => exact q.elim
    | cons a as =>
      cases as with
      | cons _ _ => cases a <;> exact q.elim
      | nil =>
        obtain ⟨x, rfl, rx⟩ := rep1 ra
        rw [hK]
        have lst : PostO G w H Q ((seqOf vh a).map fun ds => (.tup ds, vh)) → ∃ p ys, [x] = [V.ref p] ∧ ((SqL G.K H p ys ∧ ∀ l, H l = none → Q (.ref l) (upd H l (.tup ys))) ∨ (SqT G.K H p ys ∧ Q (.ref p) H)) := fun q => by
          obtain ⟨ds, e, q⟩ := PostO.mp q
          obtain ⟨p, vs, rfl, h1, h2⟩ := seqOf_ok R rx e
          exact ⟨p, vs, rfl, .inl ⟨h1, PostO.mkT q R h2⟩⟩
        cases a with
        | tup ds =>
          have rx' := rx
          obtain ⟨p, vs, rfl, h1, h2⟩ := tup_ok rx
          exact ⟨p, vs, rfl, .inr ⟨h1, PostO.here q R rx'⟩⟩
        | _ => exact lst q
  case int =>
    refine ⟨_, call_int1, fun w vh H as xs Q R ra q => ?_⟩
    cases as with
    | nil => exact q.elim
    | cons a as =>
      cases as with
      | cons _ _ => cases a <;> exact q.elim
      | nil =>
        obtain ⟨x, rfl, rx⟩ := rep1 ra
        cases a with
        | int i => simp only [RepD] at rx; subst rx; exact .inl ⟨i, rfl, PostO.here q R (by simp only [RepD])⟩
        | bl k => simp only [RepD] at rx; subst rx; exact .inr ⟨k, rfl, PostO.here q R (by simp only [RepD])⟩
        | _ => exact q.elim

/-! ### isinstance -/
inductive Ty where
  | non | bl | int | str | list | tuple | dict
deriving DecidableEq
def Ty.name : Ty → String
  | .non => "NoneType" | .bl => "bool" | .int => "int" | .str => "str" | .list => "list" | .tuple => "tuple" | .dict => "dict"
def Ty.isa : Ty → Ty → Bool
  | .bl, .int => true
  | a, b => decide (a = b)
theorem kit_isa (a b : Ty) : kitB a.name b.name = some (a.isa b) := by cases a <;> cases b <;> decide +kernel
def tyD (vh : VH) : D → Option Ty
  | .non => some .non
  | .bl _ => some .bl
  | .int _ => some .int
  | .str _ => some .str
  | .tup _ => some .tuple
  | .lst _ => some .list
  | .scr _ => some .list
  | .ref n => match vh[n]? with
    | some (.lst _) => some .list
    | _ => none
  | .gl _ => none
theorem sqL_ty {K : PySem.W.Frag} {a : Addr} {vs : List V} (h : SqL K H a vs) : TyX K H (.ref a) (.type "list") := by
  rcases h with (h | ⟨o, h⟩) | ⟨o, its, n, h1, h2, _⟩
  · exact .base (.lst h)
  · exact .base (.frz h)
  · exact .kList h1 h2
theorem sqT_ty {K : PySem.W.Frag} {a : Addr} {vs : List V} (h : SqT K H a vs) : TyX K H (.ref a) (.type "tuple") := by
  rcases h with (h | ⟨o, h⟩) | ⟨o, its, n, h1, h2, _⟩
  · exact .base (.tup h)
  · exact .fTuple h
  · exact .kTuple h1 h2
theorem ty_ok {d : D} {v : V} {t : Ty} (R : RelH G w vh H) (r : RepD G w H d v) (h : tyD vh d = some t) : TyX G.K H v (.type t.name) := by
  have lst : ∀ {ds}, seqOf vh d = some ds → TyX G.K H v (.type "list") := fun {ds} e => by
    obtain ⟨p, vs, rfl, h1, _⟩ := seqOf_ok R r e
    exact sqL_ty h1
  cases d with
  | non => cases h; simp only [RepD] at r; subst r; exact .base .non
  | bl b => cases h; simp only [RepD] at r; subst r; exact .base (.bl b)
  | int b => cases h; simp only [RepD] at r; subst r; exact .base (.int b)
  | str b => cases h; simp only [RepD] at r; subst r; exact .base (.str b)
  | tup ds => cases h; obtain ⟨p, vs, rfl, h1, _⟩ := tup_ok r; exact sqT_ty h1
  | lst ds => cases h; exact lst rfl
  | scr ds => cases h; exact lst rfl
  | ref n =>
    unfold tyD at h
    dsimp only at h
    split at h
    · rename_i ds e
      cases h
      refine lst (ds := ds) ?_
      show (match vh[n]? with | some (.lst ds) => some ds | _ => none) = some ds
      rw [e]
    · cases h
  | gl g => cases h
def isiE (t : Ty) (f : Env3 → VH → Res D) (env : Env3) (vh : VH) : Res D := (f env vh).bind fun x vh1 => .ofO ((tyD vh1 x).map fun s => (.bl (s.isa t), vh1))
def Ty.bname : Ty → Str
  | .non => "NoneType" | .bl => "bool" | .int => "int" | .str => "str" | .list => "list" | .tuple => "tuple" | .dict => "dict"
theorem boot_cls (t : Ty) (h : t ≠ .non) : bootBuiltins t.bname = some (.type t.name) := by
  cases t <;> first | exact (h rfl).elim | (simp only [Ty.bname, Ty.name]; decide +kernel)
theorem se_isi {W : WX} {t : Ty} {f : Env3 → VH → Res D} {a : Expr} {p p2 pos : Pos} (hK : X.K = G.K) (ht : t ≠ .non) (ha : PE X a (tE G W f)) (hg : Gl X "isinstance") (hm : X.mg "isinstance" = none) (hg2 : Gl X t.bname) (hm2 : X.mg t.bname = none)
    (he : starEach [a, .Name t.bname p2] X.env = (false, eval a X.env) :: starEach [.Name t.bname p2] X.env) (he2 : starEach [.Name t.bname p2] X.env = [(false, eval (.Name t.bname p2) X.env)]) (hpl : (backTo pos (starEach [.Name t.bname p2] X.env)).any (·.1) = false) :
    PE X (.Call (.Name "isinstance" p) [a, .Name t.bname p2] [] pos) (tE G W (isiE t f)) := by
  have ht2 : PE X (.Name t.bname p2) (tC (.ty t.name)) := pe_bltn hg2 hm2 (boot_cls t ht) rfl (by cases t <;> simp only [Ty.bname] <;> decide) (by cases t <;> simp only [Ty.bname] <;> decide)
  refine PE.imp (pe_callB call_isi hg hm (by decide +kernel) (pa_cons ha (pa_cons ht2 pa_nil he2) he) (by decide) (by decide) he hpl) fun σ H Q ⟨w, env, vh, R, RE, h⟩ =>
    ⟨w, env, vh, R, RE, (h.bind (rep := RepD G)).mono fun u H1 ⟨w1, x, vh1, L1, R1, r1, h1⟩ => ?_⟩
  obtain ⟨s, e, h1⟩ := PostO.mp (.of h1)
  show rIsi X.K [u, .ty t.name] H1 Q
  rw [hK]
  exact ⟨u, .ty t.name, .type s.name, .type t.name, s.isa t, rfl, .ty _, ty_ok R1 r1 e, kit_ty (kit_isa s t), PostO.here h1 R1 (by simp only [RepD])⟩

/-! ### xs.append(e), xs[i] = e -/
def appD (vh : VH) (a d : D) : Option (D × VH) := match a with
  | .ref n => match vh[n]? with
    | some (.lst ds) => if ds.length < sizeLine then some (.non, vh.set n (.lst (ds ++ [d]))) else none
    | _ => none
  | _ => none
def appE (f g : Env3 → VH → Res D) (env : Env3) (vh : VH) : Res D := (f env vh).bind fun x vh1 => if (lstOf vh1 x).isSome then (g env vh1).bind fun y vh2 => .ofO (appD vh2 x y) else .bad
theorem se_app {W : WX} {o e : Expr} {f g : Env3 → VH → Res D} {apos cpos : Pos} (hK : X.K = G.K) (ho : PE X o (tE G W f)) (he : PE X e (tE G W g)) (hbase : attributeBase o "append" X.env (eval o X.env) = eval o X.env)
    (hfew : ((backTo cpos (starEach [e] X.env)).all (fun x => !x.1) && (backToKw cpos (keywordEach [] X.env)).all (fun x => x.1.isSome) && decide ([e].length + ([] : List Keyword).length + (if ([] : List Keyword).isEmpty then 0 else 1) < 30)) = true)
    (hline : (apos.endLine == cpos.line) = true) (hs : starEach [e] X.env = (false, eval e X.env) :: starEach [] X.env) (hplain : (backTo cpos (starEach [] X.env)).any (·.1) = false) :
    PE X (.Call (.Attribute o "append" apos) [e] [] cpos) (tE G W (appE f g)) := by
  refine PE.imp (pe_bm PySem.F.plainAttrs_list PySem.F.slot_list_append PySem.F.type_list_append mt_append ho (pa_cons he pa_nil hs) hbase hfew hline hs hplain) fun σ H Q ⟨w, env, vh, R, RE, h⟩ =>
    ⟨w, env, vh, R, RE, (h.bind (rep := RepD G)).mono fun u H1 ⟨w1, x, vh1, L1, R1, r1, h1⟩ => ?_⟩
  rw [hK]
  cases e : lstOf vh1 x with
  | none => rw [e] at h1; exact h1.elim
  | some ds =>
    rw [e] at h1
    obtain ⟨p, vs, rfl, g1, g2⟩ := lstOf_ok R1 r1 e
    refine ⟨.inl ⟨rfl, vs, .of g1⟩, w1, env, vh1, R1, RE.le L1, (Post.bind (rep := RepD G) (r := g env vh1) (k := fun y vh2 => .ofO (appD vh2 x y)) h1).mono fun v H2 ⟨w2, y, vh2, L2, R2, r2, h2⟩ => ?_⟩
    refine ⟨p, ?_⟩
    have h2 := PostO.of h2
    have r1 := L2.rep _ _ r1
    unfold appD at h2
    cases x with
    | ref n =>
      dsimp only at h2
      split at h2
      · rename_i es ee
        split at h2
        · rename_i hl
          obtain ⟨_, us, k1, k2⟩ := R2.obj n _ ee
          simp only [RepD] at r1
          have hp : p = w2.ρ n := by have := r1.2; cases this; rfl
          subst hp
          obtain ⟨a, b⟩ := write_lst R2 ee (k2.append (.one r2))
          exact ⟨us, v, rfl, rfl, k1, by rw [k2.length]; exact hl, h2 w2 .non _ a b (by simp only [RepD])⟩
        · exact h2.elim
      · exact h2.elim
    | _ => exact h2.elim
end
end L3
end
section
set_option Elab.async false
set_option linter.all false
set_option maxRecDepth 100000
set_option maxHeartbeats 2000000
namespace L3
open PySem PySem.Spec L2
open PyProof.Rows hiding St
section
variable {G : Gx} {w : Wd} {vh : VH} {H : Hp} {X : Cx} {W : WX}

/-! ### comparisons as tests -/
def BlRes (r : Res D) : Prop := ∀ d vh, r = .ok d vh → ∃ k, d = .bl k
theorem post_test {E : XK} {Q : Bool → Hp → Prop} {r : Res D} (hb : BlRes r) (h : Post G repT E w H Q (r.bind truthR)) : Post G (RepD G) E w H (fun x H' => ∃ k, x = .bl k ∧ Q k H') r := by
  cases r with
  | bad => exact h
  | exn c fs vh => exact h
  | ok d vh =>
    obtain ⟨k, rfl⟩ := hb d vh rfl
    intro w' v H' L R r
    simp only [RepD] at r
    exact ⟨k, r, h w' k H' L R rfl⟩
def cmpE (op : CmpOp) (f g : Env3 → VH → Res D) (env : Env3) (vh : VH) : Res D := (f env vh).bind fun x vh1 => (g env vh1).bind fun y vh2 => .ofO (cmpD op vh2 x y)
theorem bl_cmp (op : CmpOp) (f g : Env3 → VH → Res D) (env : Env3) (vh : VH) : BlRes (cmpE op f g env vh) := by
  intro d vh' e
  unfold cmpE at e
  cases h1 : f env vh with
  | bad => rw [h1] at e; cases e
  | exn => rw [h1] at e; cases e
  | ok x vh1 =>
    rw [h1, Res.bind_ok] at e
    cases h2 : g env vh1 with
    | bad => rw [h2] at e; cases e
    | exn => rw [h2] at e; cases e
    | ok y vh2 =>
      rw [h2, Res.bind_ok] at e
      cases h3 : cmpD op vh2 x y with
      | none => rw [h3] at e; cases e
      | some z =>
        rw [h3] at e
        obtain ⟨a, b⟩ := z
        cases e
        exact (cmpD_vh h3).2
theorem bl_chain (op op' : CmpOp) (f g h : Env3 → VH → Res D) (env : Env3) (vh : VH) : BlRes (chainE op op' f g h env vh) := by
  intro d vh' e
  unfold chainE at e
  cases h1 : f env vh with
  | bad => rw [h1] at e; cases e
  | exn => rw [h1] at e; cases e
  | ok x vh1 =>
    rw [h1, Res.bind_ok] at e
    cases h2 : g env vh1 with
    | bad => rw [h2] at e; cases e
    | exn => rw [h2] at e; cases e
    | ok y vh2 =>
      rw [h2, Res.bind_ok] at e
      cases h3 : cmpD op vh2 x y with
      | none => rw [h3] at e; cases e
      | some z =>
        rw [h3] at e
        obtain ⟨a, b⟩ := z
        obtain ⟨rfl, k, rfl⟩ := cmpD_vh h3
        cases k with
        | false => cases e; exact ⟨false, rfl⟩
        | true =>
          simp only [Res.ofO_some, Res.bind_ok] at e
          cases h4 : h env b with
          | bad => rw [h4] at e; cases e
          | exn => rw [h4] at e; cases e
          | ok z vh4 =>
            rw [h4, Res.bind_ok] at e
            cases h5 : cmpD op' vh4 y z with
            | none => rw [h5] at e; cases e
            | some u =>
              rw [h5] at e
              obtain ⟨a', b'⟩ := u
              cases e
              exact (cmpD_vh h5).2
theorem se_cmpE {op : CmpOp} {a b : Expr} {f g : Env3 → VH → Res D} {pos : Pos} (hK : X.K = G.K) (hu : X.A.units + 65 < cLine) (ha : PE X a (tE G W f)) (hb : PE X b (tE G W g)) (hm : behindInMarks op b = false) : PE X (.Compare a [op] [b] pos) (tE G W (cmpE op f g)) := by
  obtain ⟨r, o1, s1⟩ := says_cmp (G := G) hK hu op
  exact se_cmp o1 s1 ha hb hm
theorem st_cmpE {op : CmpOp} {a b : Expr} {f g : Env3 → VH → Res D} {pos : Pos} (hK : X.K = G.K) (hu : X.A.units + 65 < cLine) (ha : PE X a (tE G W f)) (hb : PE X b (tE G W g)) (hm : behindInMarks op b = false) : PT X (.Compare a [op] [b] pos) (tTs G W (testE (cmpE op f g))) := by
  obtain ⟨r, o1, s1⟩ := says_cmp (G := G) hK hu op
  exact PT.imp (pt_cmpR o1 ha hb hm) fun σ H Q ⟨w, env, vh, R, RE, h⟩ => tE_op s1 σ H _ ⟨w, env, vh, R, RE, post_test (bl_cmp op f g env vh) h⟩
theorem st_chain {op op' : CmpOp} {a b c : Expr} {f g h : Env3 → VH → Res D} {pos : Pos} (hK : X.K = G.K) (hu : X.A.units + 65 < cLine) (ha : PE X a (tE G W f)) (hb : PE X b (tE G W g)) (hc : PE X c (tE G W h))
    (hm : lastMarks [op, op'] [b, c] = false) : PT X (.Compare a [op, op'] [b, c] pos) (tTs G W (testE (chainE op op' f g h))) := by
  obtain ⟨r, o1, s1⟩ := says_cmp (G := G) hK hu op
  obtain ⟨r', o2, s2⟩ := says_cmp (G := G) hK hu op'
  exact PT.imp (pt_chain o1 o2 ha hb hc hm) fun σ H Q ⟨w, env, vh, R, RE, q⟩ => tE_chain s1 s2 σ H _ ⟨w, env, vh, R, RE, post_test (bl_chain op op' f g h env vh) q⟩
/-! ### calls of the text's own defs -/
/-- what a def promises: what F says of data -/
def spOf (G : Gx) (n : Nat) (F : List D → VH → Res D) : Sp := fun vs H Q E => ∃ w ds vh, RelH G w vh H ∧ RepDs G w H ds vs ∧ ds.length = n ∧ Post G (RepD G) E w H Q (F ds vh)
theorem spOf_len {n : Nat} {F : List D → VH → Res D} (vs : List V) (H : Hp) (Q : VK) (E : XK) (h : spOf G n F vs H Q E) : vs.length = n := by
  obtain ⟨w, ds, vh, _, r, e, _⟩ := h
  rw [r.length, e]
/-- behind a call: what the callee made for itself is forgotten, where that can be -/
def cutR (vh : VH) : Res D → Res D
  | .ok d vh1 => if vh1.take vh.length = vh ∧ d.pure = true then .ok d vh else .ok d vh1
  | r => r
theorem cut_post {E : XK} {Q : VK} {r : Res D} (R : RelH G w vh H) (h : Post G (RepD G) E w H Q (cutR vh r)) : Post G (RepD G) E w H Q r := by
  cases r with
  | bad => exact h
  | exn c fs vh1 => exact h
  | ok d vh1 =>
    unfold cutR at h
    dsimp only at h
    split at h
    · rename_i hc
      intro w' v H' L R' r
      obtain ⟨a, b, c⟩ := cut_call R L R' hc.1 r hc.2
      exact h _ _ _ a b c
    · exact h
def fnE (n : Nat) (F : List D → VH → Res D) (fs : Env3 → VH → Res (List D)) (env : Env3) (vh : VH) : Res D := (fs env vh).bind fun ds vh1 => if ds.length = n then cutR vh1 (F ds vh1) else .bad
theorem tE_fn {n : Nat} {F : List D → VH → Res D} {fs : Env3 → VH → Res (List D)} : ∀ σ H Q, tE G W (fnE n F fs) σ H Q → tCallS (spOf G n F) (WE W) (tAs G W fs) σ H Q :=
  fun σ H Q ⟨w, env, vh, R, RE, h⟩ =>
    ⟨w, env, vh, R, RE, (h.bind (rep := RepDs G)).mono fun vs H1 ⟨w1, ds, vh1, L1, R1, r1, h1⟩ => by
      split at h1
      · rename_i hn
        exact ⟨w1, ds, vh1, R1, r1, hn, cut_post R1 h1⟩
      · exact h1.elim⟩
theorem se_fn {k : Nat} {f : Addr} {fd : FuncData} {ps : List Str} {n : Nat} {F : List D → VH → Res D} {x : Str} {p pos : Pos} {e : Expr} {es : List Expr} {fs : Env3 → VH → Res (List D)} (tk : L2N.Takes X W)
    (ok : FnOk X.prog X.w X.K X.mg X.base (L2N.CX X.prog X.w) k f fd ps (spOf G n F)) (hr : Room k X.A) (hg : Gl X x) (hm : X.mg x = some (.ref f)) (hk : PySem.W.keepIn X.K (.ref f) = true) (hb : Binds X.K fd ps [])
    (ha : PA X (e :: es) (tAs G W fs)) (hdb : (x == ("__debug__" : Str)) = false) (he : starEach (e :: es) X.env = (false, eval e X.env) :: starEach es X.env) (hpl : (backTo pos (starEach es X.env)).any (·.1) = false) :
    PE X (.Call (.Name x p) (e :: es) [] pos) (tE G W (fnE n F fs)) :=
  PE.imp (pe_callS (E := WE W) ok hr hg hm hk hb (L2N.passAt tk) ha hdb he hpl) tE_fn

/-! ### what is walked -/
structure WalkOk (G : Gx) (J : It) (ds : List D) (keep : Wd → Hp → Prop) : Prop where
  go : ∀ i w H, keep w H → i < ds.length → J.go i H
  yld : ∀ i w H x H', keep w H → i < ds.length → J.yld i H x H' → H' = H ∧ ∃ d, ds[i]? = some d ∧ RepD G w H d x
  stop : ∀ w H, keep w H → J.stop ds.length H
  mono : ∀ w H w' H', (∀ d v, RepD G w H d v → RepD G w' H' d v) → keep w H → keep w' H'
def repI (G : Gx) (w : Wd) (H : Hp) (ds : List D) (J : It) : Prop := ∃ keep, WalkOk G J ds keep ∧ keep w H
def tI (G : Gx) (W : WX) (f : Env3 → VH → Res (List D)) : TI := fun σ H R => ∃ w env vh, RelH G w vh H ∧ RelE G w H env σ ∧ Post G (repI G) (fun c d H' => W c d σ H') w H R (f env vh)
theorem PI.imp {tg e : Expr} {t t' : TI} (h : PI X tg e t) (f : ∀ σ H Q, t' σ H Q → t σ H Q) : PI X tg e t' := ⟨fun pins s σ H Q I q => h.run pins s σ H Q I (f _ _ _ q)⟩
/-- a list or a tuple, as it comes -/
def iSq (K : PySem.W.Frag) (tl : TE) : TI := fun σ H R => tl σ H fun x H1 => ∃ a, x = .ref a ∧ ((∃ xs, SqL K H1 a xs ∧ R (Itl K a) H1) ∨ (∃ xs, SqT K H1 a xs ∧ R (Itt K a) H1))
theorem pi_sq {tg l : Expr} {tl : TE} (hl : PE X l tl) : PI X tg l (iSq X.K tl) := by
  refine ⟨fun pins s σ H R I h => ?_⟩
  refine thn (hl.run pins s σ H _ I h) fun v s1 ⟨x, H1, I1, r1, a, e, q⟩ => ?_
  subst e
  cases r1
  rcases q with ⟨xs, hq, q⟩ | ⟨xs, hq, q⟩
  · obtain ⟨its, rv, p, hz⟩ := I1.list hq
    refine wpAny_pyIter_list p.isList ⟨s1.heap.objs.size, [s1.heap.objs.size], _, _, H1, rfl, I1.kept (t' := s1.toks) fun b o e => Heap.get?_push_of_some _ e, turn_list a _, ⟨_, Heap.get?_push_size _ rfl, rfl, rfl⟩, fun b hb => ?_, q⟩
    obtain rfl : b = s1.heap.objs.size := by simpa using hb
    exact I1.fpOk (Nat.le_refl _) (I1.hok.fresh (Nat.le_refl _))
  · obtain ⟨its, rv, p, hz⟩ := I1.tuple hq
    refine wpAny_pyIter_tuple (show s1.heap.IsTuple a its.toArray from p) ⟨s1.heap.objs.size, [s1.heap.objs.size], _, _, H1, rfl, I1.kept (t' := s1.toks) fun b o e => Heap.get?_push_of_some _ e, turn_tuple a _, ⟨_, Heap.get?_push_size _ rfl, rfl, rfl⟩, fun b hb => ?_, q⟩
    obtain rfl : b = s1.heap.objs.size := by simpa using hb
    exact I1.fpOk (Nat.le_refl _) (I1.hok.fresh (Nat.le_refl _))
/-- the items of what is walked: not a list that may be written meanwhile -/
def itemsD : D → Option (List D)
  | .tup ds => some ds
  | .lst ds => some ds
  | .scr ds => some ds
  | _ => none
def itemsE (f : Env3 → VH → Res D) (env : Env3) (vh : VH) : Res (List D) := (f env vh).bind fun x vh1 => .ofO ((itemsD x).map fun ds => (ds, vh1))
theorem tI_seq {f : Env3 → VH → Res D} {K : PySem.W.Frag} (hK : K = G.K) : ∀ σ H R, tI G W (itemsE f) σ H R → iSq K (tE G W f) σ H R :=
  fun σ H R ⟨w, env, vh, RH, RE, h⟩ => ⟨w, env, vh, RH, RE, (h.bind (rep := RepD G)).mono fun x H1 ⟨w1, d, vh1, L1, R1, r1, h1⟩ => by
    rw [hK]
    have lst : ∀ {ds : List D}, (d = .lst ds ∨ d = .scr ds) → Post G (repI G) (fun c d H' => W c d σ H') w1 H1 R (.ok ds vh1) → ∃ a, x = V.ref a ∧ ((∃ xs, SqL G.K H1 a xs ∧ R (Itl G.K a) H1) ∨ (∃ xs, SqT G.K H1 a xs ∧ R (Itt G.K a) H1)) := fun {ds} hd q => by
      have sq : ∀ w H, RepD G w H d x → ∃ p vs, x = .ref p ∧ SqL G.K H p vs ∧ RepDs G w H ds vs := fun w H r => by
        rcases hd with rfl | rfl
        · simp only [RepD] at r
          obtain ⟨p, vs, e, h1, h2⟩ := r
          exact ⟨p, vs, e, .of h1.1, h2⟩
        · simp only [RepD] at r
          obtain ⟨p, vs, e, h1, h2⟩ := r
          exact ⟨p, vs, e, h1.sq, h2⟩
      obtain ⟨a, vs, rfl, hq, rv⟩ := sq w1 H1 r1
      refine ⟨a, rfl, .inl ⟨vs, hq, Post.here q R1 ⟨fun w H => RepD G w H d (.ref a), ⟨fun i w H k hi => ?_, fun i w H y H' k hi hy => ?_, fun w H k => ?_, fun w H w' H' f k => f _ _ k⟩, r1⟩⟩⟩
      · obtain ⟨p, us, e, h1, h2⟩ := sq w H k
        cases e
        exact ⟨us, us[i]'(by rw [h2.length]; exact hi), h1, List.getElem?_eq_getElem _⟩
      · obtain ⟨p, us, e, h1, h2⟩ := sq w H k
        cases e
        obtain ⟨e', hy⟩ := hy
        exact ⟨e', h2.get' (hy us h1)⟩
      · obtain ⟨p, us, e, h1, h2⟩ := sq w H k
        cases e
        exact ⟨us, h1, Nat.le_of_eq h2.length⟩
    cases d with
    | tup ds =>
      have sq : ∀ w H, RepD G w H (.tup ds) x → ∃ p vs, x = .ref p ∧ SqT G.K H p vs ∧ RepDs G w H ds vs := fun w H r => tup_ok r
      obtain ⟨a, vs, rfl, hq, rv⟩ := sq w1 H1 r1
      refine ⟨a, rfl, .inr ⟨vs, hq, Post.here h1 R1 ⟨fun w H => RepD G w H (.tup ds) (.ref a), ⟨fun i w H k hi => ?_, fun i w H y H' k hi hy => ?_, fun w H k => ?_, fun w H w' H' f k => f _ _ k⟩, r1⟩⟩⟩
      · obtain ⟨p, us, e, h1, h2⟩ := sq w H k
        cases e
        exact ⟨us, us[i]'(by rw [h2.length]; exact hi), h1, List.getElem?_eq_getElem _⟩
      · obtain ⟨p, us, e, h1, h2⟩ := sq w H k
        cases e
        obtain ⟨e', hy⟩ := hy
        exact ⟨e', h2.get' (hy us h1)⟩
      · obtain ⟨p, us, e, h1, h2⟩ := sq w H k
        cases e
        exact ⟨us, h1, Nat.le_of_eq h2.length⟩
    | lst ds => exact lst (.inl rfl) h1
    | scr ds => exact lst (.inr rfl) h1
    | _ => exact h1.elim⟩
theorem si_seq {tg l : Expr} {f : Env3 → VH → Res D} (hK : X.K = G.K) (hl : PE X l (tE G W f)) : PI X tg l (tI G W (itemsE f)) := PI.imp (pi_sq hl) (tI_seq hK)
def rngL (lo hi : Int) : List D := (List.range (hi - lo).toNat).map fun (k : Nat) => .int (lo + k)
def rng1E (f : Env3 → VH → Res D) (env : Env3) (vh : VH) : Res (List D) := (f env vh).bind fun x vh1 => match x with
  | .int j => if -(2 ^ 62) ≤ j ∧ j < 2 ^ 62 then .ok (rngL 0 j) vh1 else .bad
  | _ => .bad
def rng2E (f g : Env3 → VH → Res D) (env : Env3) (vh : VH) : Res (List D) := (f env vh).bind fun x vh1 => (g env vh1).bind fun y vh2 => match x, y with
  | .int i, .int j => if -(2 ^ 62) ≤ i ∧ i < 2 ^ 62 ∧ -(2 ^ 62) ≤ j ∧ j < 2 ^ 62 then .ok (rngL i j) vh2 else .bad
  | _, _ => .bad
theorem walk_rng (lo hi : Int) : WalkOk G (Itr lo (hi - lo).toNat) (rngL lo hi) (fun _ _ => True) where
  go := fun i w H _ h => by
    show i < (hi - lo).toNat
    rw [rngL, List.length_map, List.length_range] at h
    exact h
  yld := fun i w H x H' _ h hy => by
    obtain ⟨e, rfl⟩ := hy
    refine ⟨e, .int (lo + i), ?_, by simp only [RepD]⟩
    rw [rngL, List.length_map, List.length_range] at h
    rw [rngL, List.getElem?_map, List.getElem?_range h]
    rfl
  stop := fun w H _ => by
    show (hi - lo).toNat ≤ (rngL lo hi).length
    simp [rngL]
  mono := fun _ _ _ _ _ _ => trivial
theorem tI_rng1 {f : Env3 → VH → Res D} : ∀ σ H R, tI G W (rng1E f) σ H R → iRng1 (tCons (tE G W f) tNil) σ H R :=
  fun σ H R ⟨w, env, vh, RH, RE, h⟩ => ⟨w, env, vh, RH, RE, (h.bind (rep := RepD G)).mono fun x H1 ⟨w1, d, vh1, L1, R1, r1, h1⟩ => by
    cases d with
    | int j =>
      dsimp only at h1
      split at h1
      · rename_i hj
        simp only [RepD] at r1
        subst r1
        have := walk_rng (G := G) 0 j
        rw [Int.sub_zero] at this
        exact ⟨j, rfl, hj.1, hj.2, Post.here h1 R1 ⟨_, this, trivial⟩⟩
      · exact h1.elim
    | _ => exact h1.elim⟩
theorem si_rng1 {tg a : Expr} {f : Env3 → VH → Res D} {p pos : Pos} (hg : Gl X "range") (hm : X.mg "range" = none) (ha : PE X a (tE G W f)) (hs : starEach [a] X.env = [(false, eval a X.env)]) : PI X tg (.Call (.Name "range" p) [a] [] pos) (tI G W (rng1E f)) :=
  PI.imp (pi_range1 hg hm (pa_cons ha pa_nil hs) hs) tI_rng1
theorem tI_rng2 {f g : Env3 → VH → Res D} : ∀ σ H R, tI G W (rng2E f g) σ H R → iRng2 (tCons (tE G W f) (tCons (tE G W g) tNil)) σ H R :=
  fun σ H R ⟨w, env, vh, RH, RE, h⟩ => ⟨w, env, vh, RH, RE, (h.bind (rep := RepD G)).mono fun x H1 ⟨w1, d, vh1, L1, R1, r1, h1⟩ =>
    ⟨w1, env, vh1, R1, RE.le L1, (h1.bind (rep := RepD G)).mono fun y H2 ⟨w2, e, vh2, L2, R2, r2, h2⟩ => by
      cases d with
      | int i =>
        cases e with
        | int j =>
          dsimp only at h2
          split at h2
          · rename_i hj
            simp only [RepD] at r1 r2
            subst r1 r2
            exact ⟨i, j, rfl, hj, Post.here h2 R2 ⟨_, walk_rng (G := G) i j, trivial⟩⟩
          · exact h2.elim
        | _ => exact h2.elim
      | _ => cases e <;> exact h2.elim⟩⟩
theorem si_rng2 {tg a b : Expr} {f g : Env3 → VH → Res D} {p pos : Pos} (hg : Gl X "range") (hm : X.mg "range" = none) (ha : PE X a (tE G W f)) (hb : PE X b (tE G W g)) (hs : starEach [a, b] X.env = [(false, eval a X.env), (false, eval b X.env)]) (hs2 : starEach [b] X.env = [(false, eval b X.env)]) :
    PI X tg (.Call (.Name "range" p) [a, b] [] pos) (tI G W (rng2E f g)) :=
  PI.imp (pi_range2 hg hm (pa_cons ha (pa_cons hb pa_nil hs2) (by rw [hs, hs2])) hs hs2) tI_rng2
end
end L3
end
section
set_option Elab.async false
set_option linter.all false
set_option maxRecDepth 100000
set_option maxHeartbeats 4000000
/-! ### within an except suite: iterators come to their end there too -/
namespace L3
open PySem PySem.Spec PyProof.Rows L2 L2H HotX
section
variable {prog : Program} {w : World} {A : Around} {E : Value → Shared → Prop} {s : Shared}
theorem HotAt.ext {x1 it : Addr} {h h' : Heap} (c : HotAt A x1 h) (e : Heap.ExtBut it h h') (hne : x1 ≠ it) : HotAt A x1 h' := by
  obtain ⟨hh, o, vs, q1, q2, q3⟩ := c
  exact ⟨hh, o, vs, e x1 o hne q1, q2, q3⟩
theorem endL_hot {it l x1 : Addr} {i : Nat} {items : Array Value} {Q : Option Value → Shared → Prop} (hot : HotAt A x1 s.heap) (hne : x1 ≠ it) (hit : s.heap.IsListIter it l i) (hl : s.heap.IsList l items) (hx : items[i]? = none)
    (hQ : ∀ h', Heap.ExtBut it s.heap h' → Q none { s with heap := h' }) : wpAny (model prog w) A (pyNext (.ref it)) Q E s := by
  obtain ⟨hh, o1, v1, e1, d1, c1⟩ := hot
  obtain ⟨oi, hoi, hci, hdi⟩ := id hit
  obtain ⟨ol, hol, _, nl, hdl⟩ := hl
  unfold pyNext
  refine wpAny_bind (wpAny_attempt (wpAny_callSpecial?_slot (name := Str.ofString "__next__") hit.typeIs slot_listiter_next (wpAny_call_entry slot_listiter_next hit.typeIs entry_listiter_next ?_ (args_listiter_next _))))
  show wpAny _ _ (field (.ref it) 0 >>= _) _ _ s
  refine wpAny_bind (wpAny_field hoi hdi (x := .ref l) rfl ?_)
  rw [if_neg (show ¬ ((Value.ref l == Value.none) = true) from Bool.false_ne_true)]
  refine wpAny_bind (wpAny_field hoi hdi (x := .int i 0) rfl ?_)
  refine wpAny_bind (wpAny_seqItems hol hdl ?_)
  simp only [Int.toNat_natCast, hx]
  refine wpAny_bind (wpAny_rule (wpAny_bind (wpAny_setField hoi hdi (by simp) ?_)))
  have q1 : (s.heap.update it (Obj.mapFields (·.setIfInBounds 0 .none))).get? x1 = some o1 := by rw [Heap.get?_update_other _ _ (Ne.symm hne)]; exact e1
  show wpAny _ _ (newExc (.type "StopIteration") [] >>= _) _ _ _
  refine wpAny_bind ?_
  simp only [newExc, newTuple]
  refine wpAny_bind (wpAny_newObj_type ?_ (by size_fits))
  refine wpAny_bind (m := firstArgMember _ _) (wpAny_of_eq (a := Value.none) (by first | rfl | (simp only [firstArgMember]; rfl)) ?_)
  refine wpAny_newObj_type ?_ (by size_fits)
  refine raiseNew_hot ⟨hh, o1, v1, Heap.get?_push_of_some _ (Heap.get?_push_of_some _ q1), d1, c1⟩ (Nat.ne_of_lt (Heap.lt_size (Heap.get?_push_of_some _ q1))) (Heap.get?_push_size _ rfl) rfl (by first | (simp; done) | (simp; omega) | (simp only [Array.size_append]; simp; omega)) ?_
  refine wpAny_bind (wpAny_isInstance (T := "StopIteration") (b := true) ⟨_, Heap.get?_update_self _ (Heap.get?_push_size _ rfl) rfl, rfl⟩ isSubtype_stop (wpAny_pure (hQ _ fun b o hb e => ?_)))
  have q2 : (s.heap.update it (Obj.mapFields (·.setIfInBounds 0 .none))).get? b = some o := by rw [Heap.get?_update_other _ _ (Ne.symm hb)]; exact e
  rw [Heap.get?_update_other _ _ (Nat.ne_of_gt (Heap.lt_size (Heap.get?_push_of_some _ q2)))]
  exact Heap.get?_push_of_some _ (Heap.get?_push_of_some _ q2)
theorem endT_hot {it l x1 : Addr} {i : Nat} {items : Array Value} {Q : Option Value → Shared → Prop} (hot : HotAt A x1 s.heap) (hne : x1 ≠ it) (hit : s.heap.IsTupleIter it l i) (hl : s.heap.IsTuple l items) (hx : items[i]? = none)
    (hQ : ∀ h', Heap.ExtBut it s.heap h' → Q none { s with heap := h' }) : wpAny (model prog w) A (pyNext (.ref it)) Q E s := by
  obtain ⟨hh, o1, v1, e1, d1, c1⟩ := hot
  obtain ⟨oi, hoi, hci, hdi⟩ := id hit
  obtain ⟨ol, hol, _, nl, hdl⟩ := hl
  unfold pyNext
  refine wpAny_bind (wpAny_attempt (wpAny_callSpecial?_slot (name := Str.ofString "__next__") hit.typeIs F.slot_tuple_iterator_next (wpAny_call_entry F.slot_tuple_iterator_next hit.typeIs F.entry_tuple_iterator_next ?_ (F.args_tuple_iterator_next_1 _))))
  show wpAny _ _ (field (.ref it) 0 >>= _) _ _ s
  refine wpAny_bind (wpAny_field hoi hdi (x := .ref l) rfl ?_)
  rw [if_neg (show ¬ ((Value.ref l == Value.none) = true) from Bool.false_ne_true)]
  refine wpAny_bind (wpAny_field hoi hdi (x := .int i 0) rfl ?_)
  refine wpAny_bind (wpAny_seqItems hol hdl ?_)
  simp only [Int.toNat_natCast, hx]
  refine wpAny_bind (wpAny_rule (wpAny_bind (wpAny_setField hoi hdi (by simp) ?_)))
  have q1 : (s.heap.update it (Obj.mapFields (·.setIfInBounds 0 .none))).get? x1 = some o1 := by rw [Heap.get?_update_other _ _ (Ne.symm hne)]; exact e1
  show wpAny _ _ (newExc (.type "StopIteration") [] >>= _) _ _ _
  refine wpAny_bind ?_
  simp only [newExc, newTuple]
  refine wpAny_bind (wpAny_newObj_type ?_ (by size_fits))
  refine wpAny_bind (m := firstArgMember _ _) (wpAny_of_eq (a := Value.none) (by first | rfl | (simp only [firstArgMember]; rfl)) ?_)
  refine wpAny_newObj_type ?_ (by size_fits)
  refine raiseNew_hot ⟨hh, o1, v1, Heap.get?_push_of_some _ (Heap.get?_push_of_some _ q1), d1, c1⟩ (Nat.ne_of_lt (Heap.lt_size (Heap.get?_push_of_some _ q1))) (Heap.get?_push_size _ rfl) rfl (by first | (simp; done) | (simp; omega) | (simp only [Array.size_append]; simp; omega)) ?_
  refine wpAny_bind (wpAny_isInstance (T := "StopIteration") (b := true) ⟨_, Heap.get?_update_self _ (Heap.get?_push_size _ rfl) rfl, rfl⟩ isSubtype_stop (wpAny_pure (hQ _ fun b o hb e => ?_)))
  have q2 : (s.heap.update it (Obj.mapFields (·.setIfInBounds 0 .none))).get? b = some o := by rw [Heap.get?_update_other _ _ (Ne.symm hb)]; exact e
  rw [Heap.get?_update_other _ _ (Nat.ne_of_gt (Heap.lt_size (Heap.get?_push_of_some _ q2)))]
  exact Heap.get?_push_of_some _ (Heap.get?_push_of_some _ q2)
/-- walks of the library, hot -/
theorem hot_frame {x1 : Addr} {h h' : Heap} (c : HotAt A x1 h) (k : ∀ o, h.get? x1 = some o → h'.get? x1 = some o) : HotAt A x1 h' := by
  obtain ⟨hh, o, vs, q1, q2, q3⟩ := c
  exact ⟨hh, o, vs, k o q1, q2, q3⟩
theorem walksL_hot (I ax x1 : Addr) (hne : ax ≠ I) (hx : x1 ≠ I) (items : Array Value) :
    Walks prog w A I [I, ax, x1] [I] items.size (fun i v => items[i]? = some v) (fun i h => (h.IsListIter I ax i ∧ h.IsList ax items) ∧ HotAt A x1 h) where
  sub := fun b hb => by simp at hb; simp [hb]
  frame := fun _ _ _ st hk => ⟨⟨st.1.1.at fun o e => hk I (by simp) o e, st.1.2.at fun o e => hk ax (by simp) o e⟩, hot_frame st.2 fun o e => hk x1 (by simp) o e⟩
  item := fun i s Q E hi st hQ => by
    obtain ⟨⟨s1, s2⟩, s3⟩ := st
    refine wpAny_pyNext_list_item s1 s2 (x := items[i]) (by simp [hi]) fun h' hit' hs' => ?_
    exact hQ _ h' s.toks (by simp [hi]) ⟨⟨hit', s2.extBut hs'.extBut hne⟩, HotAt.ext s3 hs'.extBut hx⟩ fun b o hb e => hs'.extBut b o (fun h => hb (by simp [h])) e
  done := fun s Q E st hQ => endL_hot st.2 hx st.1.1 st.1.2 (by simp) fun h' he' => hQ h' s.toks fun b o hb e => he' b o (fun h => hb (by simp [h])) e
  self := fun _ _ _ _ st hQ => wpAny_pyIter_listiter st.1.1 hQ
theorem walksT_hot (I ax x1 : Addr) (hne : ax ≠ I) (hx : x1 ≠ I) (items : Array Value) :
    Walks prog w A I [I, ax, x1] [I] items.size (fun i v => items[i]? = some v) (fun i h => (h.IsTupleIter I ax i ∧ h.IsTuple ax items) ∧ HotAt A x1 h) where
  sub := fun b hb => by simp at hb; simp [hb]
  frame := fun _ _ _ st hk => ⟨⟨st.1.1.at fun o e => hk I (by simp) o e, st.1.2.at fun o e => hk ax (by simp) o e⟩, hot_frame st.2 fun o e => hk x1 (by simp) o e⟩
  item := fun i s Q E hi st hQ => by
    obtain ⟨⟨s1, s2⟩, s3⟩ := st
    refine wpAny_pyNext_tuple_item s1 s2 (x := items[i]) (by simp [hi]) fun h' hit' hs' => ?_
    exact hQ _ h' s.toks (by simp [hi]) ⟨⟨hit', s2.extBut hs'.extBut hne⟩, HotAt.ext s3 hs'.extBut hx⟩ fun b o hb e => hs'.extBut b o (fun h => hb (by simp [h])) e
  done := fun s Q E st hQ => endT_hot st.2 hx st.1.1 st.1.2 (by simp) fun h' he' => hQ h' s.toks fun b o hb e => he' b o (fun h => hb (by simp [h])) e
  self := fun _ _ _ _ st hQ => wpAny_pyIter_tupleiter st.1.1 hQ
end
/-! ### for: the layer's own iterators -/
theorem hot_fresh {X : Cx} {pins : List (Addr × Obj)} {σ : L2.St} {H : Hp} {s : Shared} {fp : List Addr} (hc : HotC X) (I : Inv X pins σ H s) : ∃ x1, HotAt X.A x1 s.heap ∧ ∀ it, FpOk X pins H it → x1 ≠ it := by
  obtain ⟨p, ⟨hh, v1, e1, c1⟩, hp⟩ := hc
  refine ⟨p.1, ⟨hh, p.2, v1, (I.pin p (List.mem_append_left _ hp)).1, e1, c1⟩, fun it f z => ?_⟩
  obtain ⟨f0, f1, f2, f3, f4, f5⟩ := f
  exact f5 p (List.mem_append_left _ hp) z
theorem turnL_hot {P : Program} {w : World} {K : PySem.W.Frag} {tg : Expr} (a it : Addr) : TurnH P w K tg (Itl K a) [it] it (fun i h => h.IsListIter it a i) where
  mem := by simp
  obj := (turn_list (P := P) (w := w) (K := K) (tg := tg) a it).obj
  keep := (turn_list (P := P) (w := w) (K := K) (tg := tg) a it).keep
  item := by
    intro X hP hw hK hc i pins s σ H E I hf st hg
    subst hP hw hK
    obtain ⟨xs, x, hq, hx⟩ := hg
    obtain ⟨its, rv, p, hz⟩ := I.list hq
    obtain ⟨u, hu, ru⟩ := rv.get hx
    obtain ⟨f0, f1, f2, f3, f4, f5⟩ := hf it (by simp)
    refine wpAny_pyNext_list_item st p.isList (x := u) (by simpa using hu) fun h' st' sb => ?_
    obtain ⟨o, e, c, d⟩ := id st'
    exact ⟨u, rfl, go_of (s := { s with heap := h' }) e c d (by decide) ⟨x, H, I.turned (t' := s.toks) (fun b o hb e => (sb.2 b hb).trans e) f0 f1 f3 f4 f5, ru, ⟨rfl, fun ys hy => by rw [I.list_inj hy hq]; exact hx⟩, st', fun b hb => (hf b hb).1⟩⟩
  done := by
    intro X hP hw hK hc i pins s σ H E I hf st hg
    subst hP hw hK
    obtain ⟨xs, hq, hx⟩ := hg
    obtain ⟨its, rv, p, hz⟩ := I.list hq
    have fi := hf it (by simp)
    obtain ⟨x1, hot, ne⟩ := hot_fresh (fp := [it]) hc I
    have hl := rv.length
    refine endL_hot hot (ne it fi) st p.isList (by simp; omega) fun h' eb => ⟨rfl, ?_⟩
    obtain ⟨f0, f1, f2, f3, f4, f5⟩ := fi
    exact I.turned (t' := s.toks) (fun b o hb e => eb b o hb e) f0 f1 f3 f4 f5
  self := (turn_list (P := P) (w := w) (K := K) (tg := tg) a it).self
theorem turnT_hot {P : Program} {w : World} {K : PySem.W.Frag} {tg : Expr} (a it : Addr) : TurnH P w K tg (Itt K a) [it] it (fun i h => h.IsTupleIter it a i) where
  mem := by simp
  obj := (turn_tuple (P := P) (w := w) (K := K) (tg := tg) a it).obj
  keep := (turn_tuple (P := P) (w := w) (K := K) (tg := tg) a it).keep
  item := by
    intro X hP hw hK hc i pins s σ H E I hf st hg
    subst hP hw hK
    obtain ⟨xs, x, hq, hx⟩ := hg
    obtain ⟨its, rv, p, hz⟩ := I.tuple hq
    obtain ⟨u, hu, ru⟩ := rv.get hx
    obtain ⟨f0, f1, f2, f3, f4, f5⟩ := hf it (by simp)
    refine wpAny_pyNext_tuple_item st (show s.heap.IsTuple a its.toArray from p) (x := u) (by simpa using hu) fun h' st' sb => ?_
    obtain ⟨o, e, c, d⟩ := id st'
    exact ⟨u, rfl, go_of (s := { s with heap := h' }) e c d (by decide) ⟨x, H, I.turned (t' := s.toks) (fun b o hb e => (sb.2 b hb).trans e) f0 f1 f3 f4 f5, ru, ⟨rfl, fun ys hy => by rw [I.tuple_inj hy hq]; exact hx⟩, st', fun b hb => (hf b hb).1⟩⟩
  done := by
    intro X hP hw hK hc i pins s σ H E I hf st hg
    subst hP hw hK
    obtain ⟨xs, hq, hx⟩ := hg
    obtain ⟨its, rv, p, hz⟩ := I.tuple hq
    have fi := hf it (by simp)
    obtain ⟨x1, hot, ne⟩ := hot_fresh (fp := [it]) hc I
    have hl := rv.length
    refine endT_hot hot (ne it fi) st (show s.heap.IsTuple a its.toArray from p) (by simp; omega) fun h' eb => ⟨rfl, ?_⟩
    obtain ⟨f0, f1, f2, f3, f4, f5⟩ := fi
    exact I.turned (t' := s.toks) (fun b o hb e => eb b o hb e) f0 f1 f3 f4 f5
  self := (turn_tuple (P := P) (w := w) (K := K) (tg := tg) a it).self
end L3
end
section
set_option Elab.async false
set_option linter.all false
set_option maxRecDepth 100000
set_option maxHeartbeats 4000000
/-! ### within an except suite: what is walked, a tuple taken apart -/
namespace L3
open PySem PySem.Spec PyProof.Rows L2 L2H HotX
section
variable {X : Cx} {tg : Expr}
theorem PIH.imp {e : Expr} {t t' : TI} (h : PIH X tg e t) (f : ∀ σ H Q, t' σ H Q → t σ H Q) : PIH X tg e t' := ⟨fun pins s σ H Q I q => h.run pins s σ H Q I (f _ _ _ q)⟩
theorem pi_sqH {l : Expr} {tl : TE} (hl : PE X l tl) : PIH X tg l (iSq X.K tl) := by
  refine ⟨fun pins s σ H R I h => thn (hl.run pins s σ H _ I h) fun v s1 ⟨x, H1, I1, r1, a, e, q⟩ => ?_⟩
  subst e
  cases r1
  have fr : ∀ b ∈ [s1.heap.objs.size], FpOk X pins H1 b := fun b hb => by
    obtain rfl : b = s1.heap.objs.size := by simpa using hb
    exact I1.fpOk (Nat.le_refl _) (I1.hok.fresh (Nat.le_refl _))
  rcases q with ⟨xs, hq, q⟩ | ⟨xs, hq, q⟩
  · obtain ⟨its, rv, p, hz⟩ := I1.list hq
    exact wpAny_pyIter_list p.isList ⟨s1.heap.objs.size, [s1.heap.objs.size], _, _, H1, rfl, I1.kept (t' := s1.toks) fun b o e => Heap.get?_push_of_some _ e, turnL_hot a _, ⟨_, Heap.get?_push_size _ rfl, rfl, rfl⟩, fr, q⟩
  · obtain ⟨its, rv, p, hz⟩ := I1.tuple hq
    exact wpAny_pyIter_tuple (show s1.heap.IsTuple a its.toArray from p) ⟨s1.heap.objs.size, [s1.heap.objs.size], _, _, H1, rfl, I1.kept (t' := s1.toks) fun b o e => Heap.get?_push_of_some _ e, turnT_hot a _, ⟨_, Heap.get?_push_size _ rfl, rfl, rfl⟩, fr, q⟩
theorem pi_range2H {a b : Expr} {ta : TA} {p pos : Pos} (hg : Gl X "range") (hm : X.mg "range" = none) (ha : PA X [a, b] ta) (hs : starEach [a, b] X.env = [(false, eval a X.env), (false, eval b X.env)]) (hs2 : starEach [b] X.env = [(false, eval b X.env)]) :
    PIH X tg (.Call (.Name "range" p) [a, b] [] pos) (iRng2 ta) := by
  refine ⟨fun pins s σ H R I h => Call_ (ld_blt I hg hm boot_range (PyProof.Rows.callWith_type1 (thn (ha.run pos pins s σ H _ I h) fun us s1 ⟨vs, H1, I1, r1, i, j, e, ⟨q1, q2, q3, q4⟩, q⟩ => ?_) (by rw [hs, hs2]) (by rw [hs2]; rfl)))⟩
  subst e
  obtain ⟨u1, u2, rfl, ⟨t1, rfl⟩, ⟨t2, rfl⟩⟩ := vals2 r1
  exact call_range_2 (range_itH I1 q1 q2 q3 q4 q)
end
/-! ### a, b = t -/
section
variable {prog : Program} {w : World} {A : Around} {E : Value → Shared → Prop} {s : Shared}
theorem unpack_hot {t x1 : Addr} {items : Array Value} {Q : List Value → Shared → Prop} (hot : HotAt A x1 s.heap) (ht : IsTup s.heap t items) (hQ : ∀ h', Heap.ExtBut s.heap.objs.size s.heap h' → Q items.toList { s with heap := h' }) :
    wpAny (model prog w) A (unpackItems (.ref t) items.size none) Q E s := by
  have lt : t ≠ s.heap.objs.size := by obtain ⟨o, ho, _⟩ := ht; exact Nat.ne_of_lt (Heap.lt_size ho)
  have lx : x1 ≠ s.heap.objs.size := by obtain ⟨_, o, _, ho, _⟩ := hot; exact Nat.ne_of_lt (Heap.lt_size ho)
  unfold unpackItems notIterableAtAll
  refine wpAny_bind (wpAny_bind (wpAny_specialOf ht.typeIs slot_tuple_iter.lookup (wpAny_pure ?_)))
  simp only [Bool.false_eq_true, if_false]
  refine wpAny_bind (wpAny_holding (iter_tuple ht (wpAny_bind (wpAny_holding (draw_tuple lt items.size 0 _ _ ⟨_, Heap.get?_push_size _ rfl, rfl, rfl⟩ (ht.push _) (by omega) fun h₁ hit₁ hs₁ => ?_)))))
  have hall : List.take items.size (List.drop 0 items.toList) = items.toList := by rw [List.drop_zero]; exact List.take_of_length_le (by simp)
  rw [hall, if_neg (by simp)]
  have ht₁ : IsTup h₁ t items := (ht.push _).extBut hs₁.extBut lt
  have hot1 : HotAt A x1 h₁ := HotAt.ext (hot_frame hot fun o e => Heap.get?_push_of_some _ e) hs₁.extBut lx
  refine wpAny_bind (wpAny_holding (endT_hot (s := { s with heap := h₁ }) hot1 lx hit₁ ht₁ (by simp) fun h₂ he₂ => ?_))
  simp only [Option.isSome_none, Bool.false_eq_true, if_false]
  exact wpAny_pure (hQ h₂ fun b o hb e => he₂ b o hb (hs₁.extBut b o hb (Heap.get?_push_of_some _ e)))
end
section
variable {X : Cx}
theorem pg_tupH {es : List Expr} {k : Nat} {t : TGs} {n : Nat} {pos : Pos} (hc : HotC X) (h : PGs X es t) (hn : (assignEach es X.env).length = n) (hst : (assignEach es X.env).findIdx? (·.1) = none) : PG X (.Tuple es k pos) (gTup X.K n t) := by
  refine ⟨fun pins s σ H v u Q I r ⟨a, xs, e1, hq, hl, hw⟩ => ?_⟩
  subst e1
  cases r
  obtain ⟨its, rv, ht, hz⟩ := I.tuple hq
  obtain ⟨x1, hot⟩ := hc.at I
  rw [assign_Tuple]
  refine wpAny_bind (wpAny_standAt ?_)
  unfold unpack
  have hlen : (assignEach es X.env).length = its.toArray.size := by simp [hn, ← hl, rv.length]
  rw [hlen, hst]
  refine wpAny_bind (wpAny_holding (unpack_hot hot ht fun h' hx => ?_))
  exact h.run pins _ σ H xs _ Q (I.kept (t' := s.toks) fun b o e => hx b o (Nat.ne_of_lt (Heap.lt_size e)) e) (by simpa using rv) hw
theorem ps_parH {i j : Nat} {x y : Str} {a b : Expr} {ta : TA} {px py pt pos : Pos} {kt k2 : Nat} {pt2 : Pos} (hc : HotC X) (hN : X.N.Nodup) (hi : X.N[i]? = some x) (hj : X.N[j]? = some y) (hij : i ≠ j)
    (hx : X.env.scope.names.lookup x = some .local) (hy : X.env.scope.names.lookup y = some .local) (ha : PA X [a, b] ta)
    (hw : swappedStores [.Tuple [.Name x px, .Name y py] kt pt] (.Tuple [a, b] k2 pt2) X.env = pure (some [x, y]))
    (hs : swapsWithSole [.Tuple [.Name x px, .Name y py] kt pt] (.Tuple [a, b] k2 pt2) pos.line X.env = pure false) :
    PS X (.Assign [.Tuple [.Name x px, .Name y py] kt pt] (.Tuple [a, b] k2 pt2) pos) (tPar i j ta) := by
  refine ⟨fun pins s σ H D I h => ?_⟩
  rw [exec_Assign_arm]
  refine wpAny_bind (wpAny_standAt ?_)
  rw [hs]
  refine wpAny_bind (wpAny_pure ?_)
  rw [if_neg (by decide)]
  refine wpAny_bind (Tuple_ (thn (ha.run _ pins s σ H _ I h) fun us s1 ⟨vs, H1, I1, r1, v, w, e1, q1⟩ => ?_))
  subst e1
  obtain ⟨u1, u2, rfl, rv, rw'⟩ := vals2 r1
  refine wpAny_newObj_type ?_ (by show 2 ≤ sizeLine; decide)
  have I2 : Inv X pins σ H1 { s1 with heap := s1.heap.push { cls := .type "tuple", data := .seq [u1, u2].toArray } } := I1.kept (t' := s1.toks) fun b o e => Heap.get?_push_of_some _ e
  obtain ⟨x1, hot⟩ := hc.at I2
  rw [hw]
  refine wpAny_bind (wpAny_pure ?_)
  show wpAny (model X.prog X.w) X.A (do rule "assign.swapped-stores"; let items ← unpackItems (.ref s1.heap.objs.size) 2 none; assignInOrder [fun v => bindName X.env y v, fun v => bindName X.env x v] items.reverse; pure Flow.next) _ _ _
  refine wpAny_bind (wpAny_rule (wpAny_bind (unpack_hot (items := #[u1, u2]) hot (IsTup.new s1.heap _) fun h' hx' => ?_)))
  have I3 := I2.kept (h' := h') (t' := s1.toks) fun b o e => hx' b o (Nat.ne_of_lt (Heap.lt_size e)) e
  show wpAny _ _ (assignInOrder [fun v => bindName X.env y v, fun v => bindName X.env x v] [u2, u1] >>= fun _ => pure Flow.next) _ _ _
  refine wpAny_bind (assignInOrder_cons (wpAny_bindName (store_ok I3 hN hj (.inl hy) rw' (fun s2 I4 => assignInOrder_cons (wpAny_bindName (store_ok I4 hN hi (.inl hx) rv (fun s3 I5 => assignInOrder_nil (wpAny_pure ?_)) (.inr hx)))) (.inr hy))))
  rw [List.set_comm _ _ (Ne.symm hij)] at I5
  exact ⟨_, H1, I5, q1⟩
end
end L3
end
section
set_option Elab.async false
set_option linter.all false
set_option maxRecDepth 100000
set_option maxHeartbeats 8000000
/-! ### within an except suite: comprehensions -/
namespace L3
open PySem PySem.Spec PyProof.Rows L2 L2H HotX
/-- the block's context, with the pins of the place where it stands -/
abbrev blkP (X : Cx) (s : Shared) (H : Hp) (scope : Scope) (cenv : Env) (fp : List Addr) : Cx := { X.blk s H scope cenv fp with pn := X.pn }
theorem HotC.blk {X : Cx} (c : HotC X) (s : Shared) (H : Hp) (scope : Scope) (cenv : Env) (fp : List Addr) : HotC (blkP X s H scope cenv fp) := c
section
variable {X : Cx} {pins : List (Addr × Obj)} {σ : L2.St} {H : Hp} {s : Shared}
theorem blkP_start {scope : Scope} {own : List (Str × Nat)} {fp : List Addr} (I : Inv X pins σ H s) (ok : BlkOk X.N X.env.scope scope own) (hN : X.N.Nodup) (hfp : ∀ b ∈ fp, FpOk X pins H b ∧ b < s.heap.objs.size) :
    Inv (blkP X s H scope (compEnvC scope (cellsFrom (s.heap.objs.size + 1) scope.names (cloFrom X.env.cells scope.names [])) s.heap.objs.size X.env) fp) [] (wipe σ (own.map (·.2))) H { s with heap := pushCells (s.heap.push { cls := .type "dict", data := .dict #[] }) scope.names } := by
  have J := block_start I ok hN hfp
  refine ⟨⟨J.ok.mod, J.ok.kind, J.ok.glob, J.ok.blt, J.ok.above, J.ok.inj, J.ok.has, J.ok.cab, J.ok.hd, J.ok.frames, J.ok.stk, J.ok.exf, J.ok.bs, J.ok.bsz, J.ok.noex, J.ok.exfs, J.ok.funs, J.ok.frf⟩, J.os, J.bare, J.base, J.loc, J.cell, J.free, J.freeC, fun p hp => ?_, J.hok, J.len⟩
  have P := I.pin p (List.mem_append_left _ (show p ∈ X.pn by simpa using hp))
  refine ⟨pushCells_keeps _ _ _ _ (Heap.get?_push_of_some _ P.1), P.2.1, Nat.ne_of_lt (Heap.lt_size P.1), fun hm => ?_, P.2.2.2.2⟩
  exact (List.mem_cons.mp (I.stkSub p.1 hm)).elim P.2.2.1 P.2.2.2.1
/-- a turn of the block: from its slots at the turn's end back to those at its start -/
theorem turn_fin {Y : Cx} {fp : List Addr} {h7 : Heap} {it : Addr} {tn : Nat → Heap → Prop} {J : It} {P : Program} {w : World} {K : PySem.W.Frag} {tg : Expr} {σ0 σ8 : L2.St} {H' : Hp} {s' : Shared} {ps : List (Addr × Obj)} {i : Nat}
    (T : TurnH P w K tg J fp it tn) (st7 : tn i h7) (I' : Inv Y (ps ++ pinsAt fp h7) σ8 H' s') (hl : σ0.length = σ8.length) (hk : ∀ (j : Nat) v, σ0[j]? = some (some v) → σ8[j]? = some (some v)) :
    Inv Y ps σ0 H' s' ∧ tn i s'.heap ∧ ∀ b ∈ fp, H' b = none := by
  have pin' : ∀ b ∈ fp, ∀ o, h7.get? b = some o → s'.heap.get? b = some o ∧ H' b = none := fun b hb o e =>
    let z := I'.pin (b, o) (List.mem_append_right _ (List.mem_append_right _ (mem_pinsAt hb e)))
    ⟨z.1, z.2.1⟩
  refine ⟨I'.unpinned.weak hl hk, T.keep _ _ _ st7 fun b hb o e => (pin' b hb o e).1, fun b hb => ?_⟩
  obtain ⟨o, e, _⟩ := T.obj _ _ st7 b hb
  exact (pin' b hb o e).2
theorem lc_hot {Q : VK} {elt tg iter : Expr} {ifs : List Expr} {scope : Scope} {own : List (Str × Nat)} {pos pos' : Pos} {wi : TI} {g : TG} {tt : TT} {te : TE} {use : Option (Value → Sem Unit)} {Qf : Value → Shared → Prop}
    (hc : HotC X) (hN : X.N.Nodup) (I : Inv X pins σ H s) (hi : PIH X tg iter wi) (ok : BlkOk X.N X.env.scope scope own)
    (hg : ∀ (s : Shared) (H : Hp) (C : Addr) (cl : List (Str × Addr)) (fp : List Addr), PG (blkP X s H scope (compEnvC scope cl C X.env) fp) tg g) (ht : ∀ (s : Shared) (H : Hp) (C : Addr) (cl : List (Str × Addr)) (fp : List Addr), PTs (blkP X s H scope (compEnvC scope cl C X.env) fp) ifs tt)
    (he : ∀ (s : Shared) (H : Hp) (C : Addr) (cl : List (Str × Addr)) (fp : List Addr), PE (blkP X s H scope (compEnvC scope cl C X.env) fp) elt te) (hs : ∀ x, foldedSetIterable iter X.env x = pure x)
    (h : tLc wi g tt te (own.map (·.2)) σ H Q)
    (hRR : ∀ D C s' m H', Inv X pins σ H' s' → Q (.ref D) H' → s'.heap.Ns C m → FpOk X pins H' C → compPost (model X.prog X.w) X.A X.xe use Qf (.ref D) C (.ok .next) s') :
    wpAny (model X.prog X.w) X.A (comprehension (.ListComp elt [⟨tg, iter, ifs, 0⟩] scope pos) scope X.env pos' (newList []) false (eval iter X.env) use) Qf X.xe s := by
  have hfree : ∀ y ∈ scope.names, y.2 = .free → ∃ c, X.env.cells.lookup y.1 = some c := fun y hy e => (ok.free y hy e).elim (fun k => I.ok.has _ (.inl k)) fun k => I.ok.has _ (.inr k)
  refine wpAny_comprehension_free (use := use) rfl hs (closure_ok hfree) ok.kind (fun y hy e => by rw [ok.uniq y hy, e])
    (thn (hi.run pins s σ H _ I h) fun xv s1 hx => thn hx fun itv s2 ⟨it, fp, tn, J, H2, e, I2, T, st2, f2, q⟩ => ?_)
  subst e
  refine wpAny_newObj_type (newEnv_comp ?_) (by show 0 ≤ sizeLine; decide)
  generalize hD : s2.heap.objs.size = D
  have hDn : H2 D = none := I2.hok.fresh (Nat.le_of_eq hD)
  obtain ⟨W, ⟨m0, w0⟩, turn⟩ := q D hDn
  generalize hs3 : ({ s2 with heap := s2.heap.push { cls := .type "list", data := .seq ([] : List Value).toArray } } : Shared) = s3
  have h3 : s3.heap = s2.heap.push { cls := .type "list", data := .seq ([] : List Value).toArray } := by rw [← hs3]
  have I3 : Inv X pins σ (upd H2 D (.lst [])) s3 := by
    rw [← hs3]
    refine I2.laid (t' := s2.toks) (fun b o e => Heap.get?_push_of_some _ e) (Nat.le_of_eq hD) ⟨Nat.zero_le _, [], 0, .nil, ?_⟩
    rw [← hD]
    exact Heap.get?_push_size _ rfl
  have f3 : ∀ b ∈ fp, FpOk X pins (upd H2 D (.lst [])) b ∧ b < s3.heap.objs.size := fun b hb => by
    obtain ⟨o, e, _⟩ := T.obj _ _ st2 b hb
    have hlt := Heap.lt_size e
    refine ⟨⟨?_, (f2 b hb).2⟩, by rw [h3, Heap.size_push]; exact Nat.lt_succ_of_lt hlt⟩
    rw [upd_ne (by rw [← hD]; exact Nat.ne_of_lt hlt)]
    exact (f2 b hb).1
  have st3 : tn 0 s3.heap := T.keep _ _ _ st2 fun b _ o e => by rw [h3]; exact Heap.get?_push_of_some _ e
  have I4 := blkP_start I3 ok hN f3
  have pg := hg s3 (upd H2 D (.lst [])) s3.heap.objs.size (cellsFrom (s3.heap.objs.size + 1) scope.names (cloFrom X.env.cells scope.names [])) fp
  have pt := ht s3 (upd H2 D (.lst [])) s3.heap.objs.size (cellsFrom (s3.heap.objs.size + 1) scope.names (cloFrom X.env.cells scope.names [])) fp
  have pe := he s3 (upd H2 D (.lst [])) s3.heap.objs.size (cellsFrom (s3.heap.objs.size + 1) scope.names (cloFrom X.env.cells scope.names [])) fp
  show codeAny _ _ (.compStart (.ListComp elt [⟨tg, iter, ifs, 0⟩] scope pos) 0 (.ref it) (.ref D) (compEnvC scope (cellsFrom (s3.heap.objs.size + 1) scope.names (cloFrom X.env.cells scope.names [])) s3.heap.objs.size X.env)) (compPost (model X.prog X.w) X.A X.xe use Qf (.ref D) s3.heap.objs.size) { s3 with heap := pushCells (s3.heap.push { cls := .type "dict", data := .dict #[] }) scope.names }
  have nfp : ∀ b ∈ fp, (upd H2 D (.lst [])) b = none := fun b hb => (f3 b hb).1.1
  generalize hce : compEnvC scope (cellsFrom (s3.heap.objs.size + 1) scope.names (cloFrom X.env.cells scope.names [])) s3.heap.objs.size X.env = ce at I4 pg pt pe ⊢
  have cL : ce.locals = s3.heap.objs.size := by subst hce; rfl
  generalize hH3 : upd H2 D (.lst []) = H3 at I3 I4 pg pt pe w0 nfp f3
  generalize hs4 : ({ s3 with heap := pushCells (s3.heap.push { cls := .type "dict", data := .dict #[] }) scope.names } : Shared) = s4 at I4 ⊢
  have st4 : tn 0 s4.heap := T.keep _ _ _ st3 fun b _ o e => by rw [← hs4]; exact pushCells_keeps _ _ _ _ (Heap.get?_push_of_some _ e)
  have hcb : HotC (blkP X s3 H3 scope ce fp) := hc
  have stat : ∀ {σ' : L2.St} {H' : Hp} {s' : Shared}, Inv (blkP X s3 H3 scope ce fp) [] σ' H' s' → (∀ b ∈ fp, H' b = none) → ∀ b ∈ fp, FpOk (blkP X s3 H3 scope ce fp) [] H' b := fun {σ' H' s'} I' hn b hb =>
    ⟨hn b hb, (I'.ok.exf b hb).1, I'.ok.exfs b hb, .inl hb, fun x c e => (I'.ok.exf b hb).2 x c e, fun p hp => (f3 b hb).1.2.2.2.2.2 p (List.mem_append_left _ (show p ∈ X.pn by simpa using hp))⟩
  have loop : codeAny (model X.prog X.w) X.A (.compLoop (.ListComp elt [⟨tg, iter, ifs, 0⟩] scope pos) 0 (.ref it) (.ref D) ce) (compPost (model X.prog X.w) X.A X.xe use Qf (.ref D) s3.heap.objs.size) s4 := by
    refine compLoop_any (fun n s' => ∃ i H', (Inv (blkP X s3 H3 scope ce fp) [] (wipe σ (own.map (·.2))) H' s' ∧ tn i s'.heap ∧ ∀ b ∈ fp, H' b = none) ∧ W i n H') ?_ m0 ⟨0, H3, ⟨I4, st4, nfp⟩, w0⟩
    rintro n s5 ⟨i, H5, ⟨I5, st5, n5⟩, w5⟩
    rcases turn i n H5 w5 with ⟨stop, qq⟩ | ⟨go, Nx, hNx, step⟩
    · refine thnF (T.done (blkP X s3 H3 scope ce fp) rfl rfl rfl hcb i [] s5 _ H5 (fun _ _ => False) I5 (stat I5 n5) st5 stop) fun r s6 ⟨hr, I6⟩ => ?_
      subst hr
      have I7 : Inv X pins σ H5 s6 := I3.call' (ch := fp) I6.os I6.base I6.hok I6.bare fun b hb => ⟨(f3 b hb).1.2.2.2.1, (f3 b hb).1.2.1, (f3 b hb).1.2.2.2.2.1, (f3 b hb).1.2.2.2.2.2⟩
      have nC : H5 ce.locals = none := I6.free
      obtain ⟨m, hn, _⟩ := I6.loc
      have hn : s6.heap.Ns ce.locals m := hn
      rw [cL] at hn nC
      exact hRR D s3.heap.objs.size s6 m H5 I7 qq hn (I3.fpOk (Nat.le_refl _) nC)
    · refine thnF (T.item (blkP X s3 H3 scope ce fp) rfl rfl rfl hcb i [] s5 _ H5 (fun _ _ => False) I5 (stat I5 n5) st5 go) fun r s6 ⟨u, hr, h6⟩ => ?_
      subst hr
      refine thnF h6 fun _ s7 ⟨x, H7, I7, r7, y7, st7, n7⟩ => ?_
      refine thnF (pg.run _ s7 _ H7 x u _ (I7.pinned (stat I7 n7) (T.obj _ _ st7)) r7 (step x H7 y7)) fun _ s8 ⟨σ8, H8, I8, hw8, q8⟩ => ?_
      refine thnF (pt.run _ s8 σ8 H8 _ I8 q8) fun b s9 ⟨H9, I9, q9⟩ => ?_
      have fin : ∀ {s' : Shared} {H' : Hp}, Inv (blkP X s3 H3 scope ce fp) ([] ++ pinsAt fp s7.heap) σ8 H' s' → Nx H' → ∃ m, m < n ∧ ∃ i H', (Inv (blkP X s3 H3 scope ce fp) [] (wipe σ (own.map (·.2))) H' s' ∧ tn i s'.heap ∧ ∀ b ∈ fp, H' b = none) ∧ W i m H' := fun {s' H'} I' nx => by
        obtain ⟨m', hm, w'⟩ := hNx H' nx
        exact ⟨m', hm, i + 1, H', turn_fin T st7 I' (by rw [← hw8, wipe_length]) (fun j v e => by rw [← hw8] at e; exact (wipe_some e).1), w'⟩
      cases b with
      | false => exact fin I9 q9
      | true =>
        refine thnF (pe.run _ s9 σ8 H9 _ I9 q9) fun z s10 ⟨yv, H10, I10, r10, acc, hD10, hz10, nx⟩ => ?_
        exact app_ok (X := blkP X s3 H3 scope ce fp) I10 hD10 hz10 r10 fun s11 I11 => fin I11 nx
  exact codeAny_compStart_list loop (T.self X.A 0 _ _ _ st4 loop)
theorem pe_lcH {elt tg iter : Expr} {ifs : List Expr} {scope : Scope} {own : List (Str × Nat)} {pos : Pos} {wi : TI} {g : TG} {tt : TT} {te : TE} (hc : HotC X) (hN : X.N.Nodup) (hi : PIH X tg iter wi) (ok : BlkOk X.N X.env.scope scope own)
    (hg : ∀ (s : Shared) (H : Hp) (C : Addr) (cl : List (Str × Addr)) (fp : List Addr), PG (blkP X s H scope (compEnvC scope cl C X.env) fp) tg g) (ht : ∀ (s : Shared) (H : Hp) (C : Addr) (cl : List (Str × Addr)) (fp : List Addr), PTs (blkP X s H scope (compEnvC scope cl C X.env) fp) ifs tt)
    (he : ∀ (s : Shared) (H : Hp) (C : Addr) (cl : List (Str × Addr)) (fp : List Addr), PE (blkP X s H scope (compEnvC scope cl C X.env) fp) elt te) (hs : ∀ x, foldedSetIterable iter X.env x = pure x) :
    PE X (.ListComp elt [⟨tg, iter, ifs, 0⟩] scope pos) (tLc wi g tt te (own.map (·.2))) := by
  refine ⟨fun pins s σ H Q I h => ?_⟩
  rw [eval_ListComp]
  refine lc_hot hc hN I hi ok hg ht he hs h fun D C s' m H' I' q hn ⟨f0, f1, f2, f3, f4, f5⟩ => ⟨m, hn, fun h'' sb => ?_⟩
  exact ⟨.ref D, H', I'.turned (t' := s'.toks) (fun b o hb e => (sb.2 b hb).trans e) f0 f1 f3 f4 f5, rfl, q⟩
end
end L3
end
section
set_option Elab.async false
set_option linter.all false
set_option maxRecDepth 100000
set_option maxHeartbeats 8000000
/-! ### within an except suite: comprehensions of two clauses; their lists stored -/
namespace L3
open PySem PySem.Spec PyProof.Rows L2 L2H HotX
section
variable {X : Cx} {pins : List (Addr × Obj)} {σ : L2.St} {H : Hp} {s : Shared}
/-- the list goes to the name within the comprehension -/
theorem store_end {i : Nat} {y : Str} {py : Pos} {D0 : Ends} {L C : Addr} {m : Str → Option Value} {H' : Hp} {s' : Shared} (hN : X.N.Nodup) (hy : X.N[i]? = some y) (hyl : X.env.scope.names.lookup y = some .local)
    (I' : Inv X pins σ H' s') (q : gName i (.ref L) σ H' D0.nx) (hn : s'.heap.Ns C m) (f : FpOk X pins H' C) :
    compPost (model X.prog X.w) X.A X.xe (some (assign (.Name y py) X.env)) (fun _ s' => SP X pins D0 .next s') (.ref L) C (.ok .next) s' := by
  show wpAny _ _ (assign (.Name y py) X.env (.ref L)) _ _ _
  refine wpAny_assign_Name (store_ok2 (v := V.ref L) I' hN hy (.inl hyl) rfl (fun s2 I2 ⟨a, sb, ha⟩ => ?_) (.inr hyl))
  obtain ⟨f0, f1, f2, f3, f4, f5⟩ := f
  have ne : C ≠ a := ha.elim (fun z => by rw [z]; exact f1) fun z e => f4 y a z e.symm
  exact ⟨m, hn.sameBut sb ne, fun h3 sb3 => ⟨_, H', I2.turned (t' := s2.toks) (fun b o hb e => (sb3.2 b hb).trans e) f0 f1 f3 f4 f5, q⟩⟩
theorem ps_setLcH {i : Nat} {y : Str} {py : Pos} {elt tg iter : Expr} {ifs : List Expr} {scope : Scope} {own : List (Str × Nat)} {pos spos : Pos} {wi : TI} {g : TG} {tt : TT} {te : TE} (hc : HotC X) (hN : X.N.Nodup) (hy : X.N[i]? = some y) (hyl : X.env.scope.names.lookup y = some .local)
    (hsw : swapsWith (.ListComp elt [⟨tg, iter, ifs, 0⟩] scope pos) (some (.Name y py)) spos.line X.env = pure true) (hi : PIH X tg iter wi) (ok : BlkOk X.N X.env.scope scope own)
    (hg : ∀ (s : Shared) (H : Hp) (C : Addr) (cl : List (Str × Addr)) (fp : List Addr), PG (blkP X s H scope (compEnvC scope cl C X.env) fp) tg g) (ht : ∀ (s : Shared) (H : Hp) (C : Addr) (cl : List (Str × Addr)) (fp : List Addr), PTs (blkP X s H scope (compEnvC scope cl C X.env) fp) ifs tt)
    (he : ∀ (s : Shared) (H : Hp) (C : Addr) (cl : List (Str × Addr)) (fp : List Addr), PE (blkP X s H scope (compEnvC scope cl C X.env) fp) elt te) (hs : ∀ x, foldedSetIterable iter X.env x = pure x) :
    PS X (.Assign [.Name y py] (.ListComp elt [⟨tg, iter, ifs, 0⟩] scope pos) spos) (tAsg (tLc wi g tt te (own.map (·.2))) (gName i)) := by
  refine ⟨fun pins s σ H D I h => ?_⟩
  rw [exec_Assign_Name_used _ _ _ _ hsw]
  refine wpAny_bind (wpAny_standAt (wpAny_bind (wpAny_bind (thn (lc_hot (Qf := fun _ s' => SP X pins D .next s') hc hN I hi ok hg ht he hs (show tLc wi g tt te (own.map (·.2)) σ H (fun x H1 => gName i x σ H1 D.nx) from h) ?_) fun _ s' hq => wpAny_pure (wpAny_pure hq)))))
  exact fun L C s' m H' I' q hn f => store_end hN hy hyl I' q hn f
theorem lc2_hot {Q : VK} {elt tg iter tg1 iter1 : Expr} {ifs ifs1 : List Expr} {scope : Scope} {own : List (Str × Nat)} {vs1 : List Nat} {pos pos' : Pos} {wi wi1 : TI} {g g1 : TG} {tt tt1 : TT} {te : TE} {use : Option (Value → Sem Unit)} {Qf : Value → Shared → Prop}
    (hc : HotC X) (hN : X.N.Nodup) (I : Inv X pins σ H s) (hi : PIH X tg iter wi) (ok : BlkOk X.N X.env.scope scope own) (hv : ∀ i ∈ vs1, i ∈ own.map (·.2))
    (hg : ∀ (s : Shared) (H : Hp) (C : Addr) (cl : List (Str × Addr)) (fp : List Addr), PG (blkP X s H scope (compEnvC scope cl C X.env) fp) tg g) (ht : ∀ (s : Shared) (H : Hp) (C : Addr) (cl : List (Str × Addr)) (fp : List Addr), PTs (blkP X s H scope (compEnvC scope cl C X.env) fp) ifs tt)
    (he : ∀ (s : Shared) (H : Hp) (C : Addr) (cl : List (Str × Addr)) (fp : List Addr), PE (blkP X s H scope (compEnvC scope cl C X.env) fp) elt te) (hs : ∀ x, foldedSetIterable iter X.env x = pure x)
    (hi1 : ∀ (s : Shared) (H : Hp) (C : Addr) (cl : List (Str × Addr)) (fp : List Addr), PIH (blkP X s H scope (compEnvC scope cl C X.env) fp) tg1 iter1 wi1)
    (hg1 : ∀ (s : Shared) (H : Hp) (C : Addr) (cl : List (Str × Addr)) (fp : List Addr), PG (blkP X s H scope (compEnvC scope cl C X.env) fp) tg1 g1)
    (ht1 : ∀ (s : Shared) (H : Hp) (C : Addr) (cl : List (Str × Addr)) (fp : List Addr), PTs (blkP X s H scope (compEnvC scope cl C X.env) fp) ifs1 tt1)
    (hs1 : ∀ env x, foldedSetIterable iter1 env x = pure x)
    (h : tLc2 wi g tt wi1 g1 tt1 te (own.map (·.2)) vs1 σ H Q)
    (hRR : ∀ D C s' m H', Inv X pins σ H' s' → Q (.ref D) H' → s'.heap.Ns C m → FpOk X pins H' C → compPost (model X.prog X.w) X.A X.xe use Qf (.ref D) C (.ok .next) s') :
    wpAny (model X.prog X.w) X.A (comprehension (.ListComp elt [⟨tg, iter, ifs, 0⟩, ⟨tg1, iter1, ifs1, 0⟩] scope pos) scope X.env pos' (newList []) false (eval iter X.env) use) Qf X.xe s := by
  have hfree : ∀ y ∈ scope.names, y.2 = .free → ∃ c, X.env.cells.lookup y.1 = some c := fun y hy e => (ok.free y hy e).elim (fun k => I.ok.has _ (.inl k)) fun k => I.ok.has _ (.inr k)
  refine wpAny_comprehension_free (use := use) rfl hs (closure_ok hfree) ok.kind (fun y hy e => by rw [ok.uniq y hy, e])
    (thn (hi.run pins s σ H _ I h) fun xv s1 hx => thn hx fun itv s2 ⟨it, fp, tn, J, H2, e, I2, T, st2, f2, q⟩ => ?_)
  subst e
  refine wpAny_newObj_type (newEnv_comp ?_) (by show 0 ≤ sizeLine; decide)
  generalize hD : s2.heap.objs.size = D
  have hDn : H2 D = none := I2.hok.fresh (Nat.le_of_eq hD)
  obtain ⟨W, ⟨m0, w0⟩, turn⟩ := q D hDn
  generalize hs3 : ({ s2 with heap := s2.heap.push { cls := .type "list", data := .seq ([] : List Value).toArray } } : Shared) = s3
  have h3 : s3.heap = s2.heap.push { cls := .type "list", data := .seq ([] : List Value).toArray } := by rw [← hs3]
  have I3 : Inv X pins σ (upd H2 D (.lst [])) s3 := by
    rw [← hs3]
    refine I2.laid (t' := s2.toks) (fun b o e => Heap.get?_push_of_some _ e) (Nat.le_of_eq hD) ⟨Nat.zero_le _, [], 0, .nil, ?_⟩
    rw [← hD]
    exact Heap.get?_push_size _ rfl
  have f3 : ∀ b ∈ fp, FpOk X pins (upd H2 D (.lst [])) b ∧ b < s3.heap.objs.size := fun b hb => by
    obtain ⟨o, e, _⟩ := T.obj _ _ st2 b hb
    have hlt := Heap.lt_size e
    refine ⟨⟨?_, (f2 b hb).2⟩, by rw [h3, Heap.size_push]; exact Nat.lt_succ_of_lt hlt⟩
    rw [upd_ne (by rw [← hD]; exact Nat.ne_of_lt hlt)]
    exact (f2 b hb).1
  have st3 : tn 0 s3.heap := T.keep _ _ _ st2 fun b _ o e => by rw [h3]; exact Heap.get?_push_of_some _ e
  have I4 := blkP_start I3 ok hN f3
  have pg := hg s3 (upd H2 D (.lst [])) s3.heap.objs.size (cellsFrom (s3.heap.objs.size + 1) scope.names (cloFrom X.env.cells scope.names [])) fp
  have pt := ht s3 (upd H2 D (.lst [])) s3.heap.objs.size (cellsFrom (s3.heap.objs.size + 1) scope.names (cloFrom X.env.cells scope.names [])) fp
  have pe := he s3 (upd H2 D (.lst [])) s3.heap.objs.size (cellsFrom (s3.heap.objs.size + 1) scope.names (cloFrom X.env.cells scope.names [])) fp
  have pi1 := hi1 s3 (upd H2 D (.lst [])) s3.heap.objs.size (cellsFrom (s3.heap.objs.size + 1) scope.names (cloFrom X.env.cells scope.names [])) fp
  have pg1 := hg1 s3 (upd H2 D (.lst [])) s3.heap.objs.size (cellsFrom (s3.heap.objs.size + 1) scope.names (cloFrom X.env.cells scope.names [])) fp
  have pt1 := ht1 s3 (upd H2 D (.lst [])) s3.heap.objs.size (cellsFrom (s3.heap.objs.size + 1) scope.names (cloFrom X.env.cells scope.names [])) fp
  show codeAny _ _ (.compStart (.ListComp elt [⟨tg, iter, ifs, 0⟩, ⟨tg1, iter1, ifs1, 0⟩] scope pos) 0 (.ref it) (.ref D) (compEnvC scope (cellsFrom (s3.heap.objs.size + 1) scope.names (cloFrom X.env.cells scope.names [])) s3.heap.objs.size X.env)) (compPost (model X.prog X.w) X.A X.xe use Qf (.ref D) s3.heap.objs.size) { s3 with heap := pushCells (s3.heap.push { cls := .type "dict", data := .dict #[] }) scope.names }
  have nfp : ∀ b ∈ fp, (upd H2 D (.lst [])) b = none := fun b hb => (f3 b hb).1.1
  generalize hce : compEnvC scope (cellsFrom (s3.heap.objs.size + 1) scope.names (cloFrom X.env.cells scope.names [])) s3.heap.objs.size X.env = ce at I4 pg pt pe pi1 pg1 pt1 ⊢
  have cL : ce.locals = s3.heap.objs.size := by subst hce; rfl
  generalize hH3 : upd H2 D (.lst []) = H3 at I3 I4 pg pt pe pi1 pg1 pt1 w0 nfp f3
  generalize hs4 : ({ s3 with heap := pushCells (s3.heap.push { cls := .type "dict", data := .dict #[] }) scope.names } : Shared) = s4 at I4 ⊢
  have st4 : tn 0 s4.heap := T.keep _ _ _ st3 fun b _ o e => by rw [← hs4]; exact pushCells_keeps _ _ _ _ (Heap.get?_push_of_some _ e)
  have hcb : HotC (blkP X s3 H3 scope ce fp) := hc
  have stat : ∀ {σ' : L2.St} {H' : Hp} {s' : Shared}, Inv (blkP X s3 H3 scope ce fp) [] σ' H' s' → (∀ b ∈ fp, H' b = none) → ∀ b ∈ fp, FpOk (blkP X s3 H3 scope ce fp) [] H' b := fun {σ' H' s'} I' hn b hb =>
    ⟨hn b hb, (I'.ok.exf b hb).1, I'.ok.exfs b hb, .inl hb, fun x c e => (I'.ok.exf b hb).2 x c e, fun p hp => (f3 b hb).1.2.2.2.2.2 p (List.mem_append_left _ (show p ∈ X.pn by simpa using hp))⟩
  have loop : codeAny (model X.prog X.w) X.A (.compLoop (.ListComp elt [⟨tg, iter, ifs, 0⟩, ⟨tg1, iter1, ifs1, 0⟩] scope pos) 0 (.ref it) (.ref D) ce) (compPost (model X.prog X.w) X.A X.xe use Qf (.ref D) s3.heap.objs.size) s4 := by
    refine compLoop2_out (hs1 ce) (fun n s' => ∃ i H', (Inv (blkP X s3 H3 scope ce fp) [] (wipe σ (own.map (·.2))) H' s' ∧ tn i s'.heap ∧ ∀ b ∈ fp, H' b = none) ∧ W i n H') ?_ m0 ⟨0, H3, ⟨I4, st4, nfp⟩, w0⟩
    rintro n s5 ⟨i, H5, ⟨I5, st5, n5⟩, w5⟩
    rcases turn i n H5 w5 with ⟨stop, qq⟩ | ⟨go, Nx, hNx, step⟩
    · refine thnF (T.done (blkP X s3 H3 scope ce fp) rfl rfl rfl hcb i [] s5 _ H5 (fun _ _ => False) I5 (stat I5 n5) st5 stop) fun r s6 ⟨hr, I6⟩ => ?_
      subst hr
      have I7 : Inv X pins σ H5 s6 := I3.call' (ch := fp) I6.os I6.base I6.hok I6.bare fun b hb => ⟨(f3 b hb).1.2.2.2.1, (f3 b hb).1.2.1, (f3 b hb).1.2.2.2.2.1, (f3 b hb).1.2.2.2.2.2⟩
      have nC : H5 ce.locals = none := I6.free
      obtain ⟨m, hn, _⟩ := I6.loc
      have hn : s6.heap.Ns ce.locals m := hn
      rw [cL] at hn nC
      exact hRR D s3.heap.objs.size s6 m H5 I7 qq hn (I3.fpOk (Nat.le_refl _) nC)
    · refine thnF (T.item (blkP X s3 H3 scope ce fp) rfl rfl rfl hcb i [] s5 _ H5 (fun _ _ => False) I5 (stat I5 n5) st5 go) fun r s6 ⟨u, hr, h6⟩ => ?_
      subst hr
      refine thnF h6 fun _ s7 ⟨x, H7, I7, r7, y7, st7, n7⟩ => ?_
      refine thnF (pg.run _ s7 _ H7 x u _ (I7.pinned (stat I7 n7) (T.obj _ _ st7)) r7 (step x H7 y7)) fun _ s8 ⟨σ8, H8, I8, hw8, q8⟩ => ?_
      refine thnF (pt.run _ s8 σ8 H8 _ I8 q8) fun b s9 ⟨H9, I9, q9⟩ => ?_
      have fin : ∀ {σ9 : L2.St} {s' : Shared} {H' : Hp}, Inv (blkP X s3 H3 scope ce fp) ([] ++ pinsAt fp s7.heap) σ9 H' s' → (wipe σ (own.map (·.2))).length = σ9.length → (∀ (j : Nat) v, (wipe σ (own.map (·.2)))[j]? = some (some v) → σ9[j]? = some (some v)) → Nx H' →
          ∃ m, m < n ∧ ∃ i H', (Inv (blkP X s3 H3 scope ce fp) [] (wipe σ (own.map (·.2))) H' s' ∧ tn i s'.heap ∧ ∀ b ∈ fp, H' b = none) ∧ W i m H' := fun {σ9 s' H'} I' hl hk nx => by
        obtain ⟨m', hm, w'⟩ := hNx H' nx
        exact ⟨m', hm, i + 1, H', turn_fin T st7 I' hl hk, w'⟩
      have hl8 : (wipe σ (own.map (·.2))).length = σ8.length := by rw [← hw8, wipe_length]
      have hk8 : ∀ (j : Nat) v, (wipe σ (own.map (·.2)))[j]? = some (some v) → σ8[j]? = some (some v) ∧ j ∉ own.map (·.2) := fun j v e => by
        rw [← hw8] at e
        exact wipe_some e
      cases b with
      | false => exact fin I9 hl8 (fun j v e => (hk8 j v e).1) q9
      | true =>
        refine thnF (pi1.run _ s9 σ8 H9 _ I9 q9) fun xv s10 hx => thnF hx fun itv s11 ⟨it1, fp1, tn1, J1, H11, e1, I11, T1, st11, f11, W1, ⟨m1, w1⟩, turn1⟩ => ?_
        subst e1
        have stat1 : ∀ {H' : Hp}, (∀ b ∈ fp1, H' b = none) → ∀ b ∈ fp1, FpOk (blkP X s3 H3 scope ce fp) ([] ++ pinsAt fp s7.heap) H' b := fun hn b hb => ⟨hn b hb, (f11 b hb).2⟩
        have loop1 : codeAny (model X.prog X.w) X.A (.compLoop (.ListComp elt [⟨tg, iter, ifs, 0⟩, ⟨tg1, iter1, ifs1, 0⟩] scope pos) 1 (.ref it1) (.ref D) ce)
            (fun r s' => match r with
              | .ok _ => ∃ m, m < n ∧ ∃ i H', (Inv (blkP X s3 H3 scope ce fp) [] (wipe σ (own.map (·.2))) H' s' ∧ tn i s'.heap ∧ ∀ b ∈ fp, H' b = none) ∧ W i m H'
              | .error _ => False) s11 := by
          refine compLoop2_in (fun k s' => ∃ j H', (Inv (blkP X s3 H3 scope ce fp) ([] ++ pinsAt fp s7.heap) (wipe σ8 vs1) H' s' ∧ tn1 j s'.heap ∧ ∀ b ∈ fp1, H' b = none) ∧ W1 j k H') ?_ m1 ⟨0, H11, ⟨I11.weak (wipe_length _ _) (fun j v e => (wipe_some e).1), st11, fun b hb => (f11 b hb).1⟩, w1⟩
          rintro k s12 ⟨j, H12, ⟨I12, st12, n12⟩, w12⟩
          rcases turn1 j k H12 w12 with ⟨stop1, nx1⟩ | ⟨go1, Nx1, hNx1, step1⟩
          · refine thnF (T1.done (blkP X s3 H3 scope ce fp) rfl rfl rfl hcb j _ s12 (wipe σ8 vs1) H12 (fun _ _ => False) I12 (stat1 n12) st12 stop1) fun r s13 ⟨hr, I13⟩ => ?_
            subst hr
            refine fin I13 (hl8.trans (wipe_length σ8 vs1).symm) (fun j v e => ?_) nx1
            obtain ⟨z1, z2⟩ := hk8 j v e
            rw [wipe_out fun z => z2 (hv j z)]
            exact z1
          · refine thnF (T1.item (blkP X s3 H3 scope ce fp) rfl rfl rfl hcb j _ s12 (wipe σ8 vs1) H12 (fun _ _ => False) I12 (stat1 n12) st12 go1) fun r s13 ⟨u1, hr, h13⟩ => ?_
            subst hr
            refine thnF h13 fun _ s14 ⟨x1, H14, I14, r14, y14, st14, n14⟩ => ?_
            refine thnF (pg1.run _ s14 (wipe σ8 vs1) H14 x1 u1 _ (I14.pinned (stat1 n14) (T1.obj _ _ st14)) r14 (step1 x1 H14 y14)) fun _ s15 ⟨σ15, H15, I15, hw15, q15⟩ => ?_
            refine thnF (pt1.run _ s15 σ15 H15 _ I15 q15) fun b1 s16 ⟨H16, I16, q16⟩ => ?_
            have fin1 : ∀ {s' : Shared} {H' : Hp}, Inv (blkP X s3 H3 scope ce fp) (([] ++ pinsAt fp s7.heap) ++ pinsAt fp1 s14.heap) σ15 H' s' → Nx1 H' →
                ∃ m, m < k ∧ ∃ j H', (Inv (blkP X s3 H3 scope ce fp) ([] ++ pinsAt fp s7.heap) (wipe σ8 vs1) H' s' ∧ tn1 j s'.heap ∧ ∀ b ∈ fp1, H' b = none) ∧ W1 j m H' := fun {s' H'} I' nx => by
              obtain ⟨m', hm, w'⟩ := hNx1 H' nx
              exact ⟨m', hm, j + 1, H', turn_fin T1 st14 I' (by rw [← hw15, wipe_length]) (fun j v e => by rw [← hw15] at e; exact (wipe_some e).1), w'⟩
            cases b1 with
            | false => exact fin1 I16 q16
            | true =>
              refine thnF (pe.run _ s16 σ15 H16 _ I16 q16) fun z s17 ⟨yv, H17, I17, r17, acc, hD17, hz17, nx⟩ => ?_
              exact app_ok (X := blkP X s3 H3 scope ce fp) I17 hD17 hz17 r17 fun s18 I18 => fin1 I18 nx
        exact compStart1_ok loop1 (T1.self X.A 0 _ _ _ st11 loop1)
  exact codeAny_compStart_list loop (T.self X.A 0 _ _ _ st4 loop)
theorem pe_lc2H {elt tg iter tg1 iter1 : Expr} {ifs ifs1 : List Expr} {scope : Scope} {own : List (Str × Nat)} {vs1 : List Nat} {pos : Pos} {wi wi1 : TI} {g g1 : TG} {tt tt1 : TT} {te : TE} (hc : HotC X) (hN : X.N.Nodup) (hi : PIH X tg iter wi) (ok : BlkOk X.N X.env.scope scope own) (hv : ∀ i ∈ vs1, i ∈ own.map (·.2))
    (hg : ∀ (s : Shared) (H : Hp) (C : Addr) (cl : List (Str × Addr)) (fp : List Addr), PG (blkP X s H scope (compEnvC scope cl C X.env) fp) tg g) (ht : ∀ (s : Shared) (H : Hp) (C : Addr) (cl : List (Str × Addr)) (fp : List Addr), PTs (blkP X s H scope (compEnvC scope cl C X.env) fp) ifs tt)
    (hi1 : ∀ (s : Shared) (H : Hp) (C : Addr) (cl : List (Str × Addr)) (fp : List Addr), PIH (blkP X s H scope (compEnvC scope cl C X.env) fp) tg1 iter1 wi1)
    (hg1 : ∀ (s : Shared) (H : Hp) (C : Addr) (cl : List (Str × Addr)) (fp : List Addr), PG (blkP X s H scope (compEnvC scope cl C X.env) fp) tg1 g1) (ht1 : ∀ (s : Shared) (H : Hp) (C : Addr) (cl : List (Str × Addr)) (fp : List Addr), PTs (blkP X s H scope (compEnvC scope cl C X.env) fp) ifs1 tt1)
    (he : ∀ (s : Shared) (H : Hp) (C : Addr) (cl : List (Str × Addr)) (fp : List Addr), PE (blkP X s H scope (compEnvC scope cl C X.env) fp) elt te) (hs : ∀ x, foldedSetIterable iter X.env x = pure x) (hs1 : ∀ env x, foldedSetIterable iter1 env x = pure x) :
    PE X (.ListComp elt [⟨tg, iter, ifs, 0⟩, ⟨tg1, iter1, ifs1, 0⟩] scope pos) (tLc2 wi g tt wi1 g1 tt1 te (own.map (·.2)) vs1) := by
  refine ⟨fun pins s σ H Q I h => ?_⟩
  rw [eval_ListComp]
  refine lc2_hot hc hN I hi ok hv hg ht he hs hi1 hg1 ht1 hs1 h fun D C s' m H' I' q hn ⟨f0, f1, f2, f3, f4, f5⟩ => ⟨m, hn, fun h'' sb => ?_⟩
  exact ⟨.ref D, H', I'.turned (t' := s'.toks) (fun b o hb e => (sb.2 b hb).trans e) f0 f1 f3 f4 f5, rfl, q⟩
theorem ps_setLc2H {i : Nat} {y : Str} {py : Pos} {elt tg iter tg1 iter1 : Expr} {ifs ifs1 : List Expr} {scope : Scope} {own : List (Str × Nat)} {vs1 : List Nat} {pos spos : Pos} {wi wi1 : TI} {g g1 : TG} {tt tt1 : TT} {te : TE} (hc : HotC X) (hN : X.N.Nodup) (hy : X.N[i]? = some y) (hyl : X.env.scope.names.lookup y = some .local)
    (hsw : swapsWith (.ListComp elt [⟨tg, iter, ifs, 0⟩, ⟨tg1, iter1, ifs1, 0⟩] scope pos) (some (.Name y py)) spos.line X.env = pure true) (hi : PIH X tg iter wi) (ok : BlkOk X.N X.env.scope scope own) (hv : ∀ i ∈ vs1, i ∈ own.map (·.2))
    (hg : ∀ (s : Shared) (H : Hp) (C : Addr) (cl : List (Str × Addr)) (fp : List Addr), PG (blkP X s H scope (compEnvC scope cl C X.env) fp) tg g) (ht : ∀ (s : Shared) (H : Hp) (C : Addr) (cl : List (Str × Addr)) (fp : List Addr), PTs (blkP X s H scope (compEnvC scope cl C X.env) fp) ifs tt)
    (hi1 : ∀ (s : Shared) (H : Hp) (C : Addr) (cl : List (Str × Addr)) (fp : List Addr), PIH (blkP X s H scope (compEnvC scope cl C X.env) fp) tg1 iter1 wi1)
    (hg1 : ∀ (s : Shared) (H : Hp) (C : Addr) (cl : List (Str × Addr)) (fp : List Addr), PG (blkP X s H scope (compEnvC scope cl C X.env) fp) tg1 g1) (ht1 : ∀ (s : Shared) (H : Hp) (C : Addr) (cl : List (Str × Addr)) (fp : List Addr), PTs (blkP X s H scope (compEnvC scope cl C X.env) fp) ifs1 tt1)
    (he : ∀ (s : Shared) (H : Hp) (C : Addr) (cl : List (Str × Addr)) (fp : List Addr), PE (blkP X s H scope (compEnvC scope cl C X.env) fp) elt te) (hs : ∀ x, foldedSetIterable iter X.env x = pure x) (hs1 : ∀ env x, foldedSetIterable iter1 env x = pure x) :
    PS X (.Assign [.Name y py] (.ListComp elt [⟨tg, iter, ifs, 0⟩, ⟨tg1, iter1, ifs1, 0⟩] scope pos) spos) (tAsg (tLc2 wi g tt wi1 g1 tt1 te (own.map (·.2)) vs1) (gName i)) := by
  refine ⟨fun pins s σ H D I h => ?_⟩
  rw [exec_Assign_Name_used _ _ _ _ hsw]
  refine wpAny_bind (wpAny_standAt (wpAny_bind (wpAny_bind (thn (lc2_hot (Qf := fun _ s' => SP X pins D .next s') hc hN I hi ok hv hg ht he hs hi1 hg1 ht1 hs1 (show tLc2 wi g tt wi1 g1 tt1 te (own.map (·.2)) vs1 σ H (fun x H1 => gName i x σ H1 D.nx) from h) ?_) fun _ s' hq => wpAny_pure (wpAny_pure hq)))))
  exact fun L C s' m H' I' q hn f => store_end hN hy hyl I' q hn f
end
end L3
end
section
set_option Elab.async false
set_option linter.all false
set_option maxRecDepth 100000
set_option maxHeartbeats 4000000
/-! ### within an except suite: max of two, sum -/
namespace L3
open PySem PySem.Spec PyProof.Rows L2 L2H HotX
section
variable {prog : Program} {w : World} {A : Around} {E : Value → Shared → Prop} {s : Shared}
theorem old1 {h h' : Heap} {fp : List Addr} {N : Nat} (hN : h.objs.size ≤ N) (k : ∀ b o, b ∉ [N] → h.get? b = some o → h'.get? b = some o) : ∀ b o, h.get? b = some o → h'.get? b = some o := fun b o e => k b o (fun hm => by
  obtain rfl : b = N := by simpa using hm
  exact Nat.lt_irrefl _ (Nat.lt_of_lt_of_le (Heap.lt_size e) hN)) e
theorem max2_hot {x1 : Addr} {a b : Int} {t u : Tok} {Q : Value → Shared → Prop} (hot : HotAt A x1 s.heap)
    (h : ∀ h' tk, (∀ c o, s.heap.get? c = some o → h'.get? c = some o) → Q (if b > a then .int b u else .int a t) { s with heap := h', toks := tk }) :
    wpAny (model prog w) A (call (.builtin "max") [.int a t, .int b u]) Q E s := by
  have hT : (s.heap.push { cls := .type "tuple", data := .seq #[.int a t, .int b u] }).IsTuple s.heap.objs.size (intItems #[(a, t), (b, u)]) := ⟨_, Heap.get?_push_size _ rfl, rfl, 0, by simp [intItems]⟩
  have hsz : (s.heap.push { cls := .type "tuple", data := .seq #[.int a t, .int b u] }).objs.size = s.heap.objs.size + 1 := Heap.size_push ..
  have lx : x1 < s.heap.objs.size := by obtain ⟨_, o, _, ho, _⟩ := hot; exact Heap.lt_size ho
  refine call_max_two (wpAny_pyIter_tuple hT ?_)
  refine ⟨_, [_, s.heap.objs.size, x1], [_], _, _, _, _, rfl, walksT_hot (A := A.in1) _ s.heap.objs.size x1 (by rw [hsz]; exact Nat.ne_of_lt (Nat.lt_succ_self _)) (by rw [hsz]; exact Nat.ne_of_lt (Nat.lt_succ_of_lt lx)) (intItems #[(a, t), (b, u)]),
    ⟨⟨⟨_, Heap.get?_push_size _ rfl, rfl, rfl⟩, hT.push _⟩, hot_frame (A := A.in1) (h := s.heap) hot fun o e => Heap.get?_push_of_some _ (Heap.get?_push_of_some _ e)⟩, fun c hc => ?_, by simp [intItems], CmpOf.ints_gt (numAt #[(a, t), (b, u)]) (fun _ _ => intItems_at), fun v h' tk hP hk => ?_⟩
  · show c < ((s.heap.push _).push _).objs.size
    rw [Heap.size_push, hsz]
    have hc : c = (s.heap.push { cls := .type "tuple", data := .seq #[.int a t, .int b u] }).objs.size ∨ c = s.heap.objs.size ∨ c = x1 := by simpa using hc
    rw [hsz] at hc
    rcases hc with rfl | rfl | rfl
    · exact Nat.lt_succ_self _
    · exact Nat.lt_succ_of_lt (Nat.lt_succ_self _)
    · exact Nat.lt_succ_of_lt (Nat.lt_succ_of_lt lx)
  · have hold : ∀ c o, s.heap.get? c = some o → h'.get? c = some o := fun c o e => by
      refine hk c o (fun hm => ?_) (Heap.get?_push_of_some _ (Heap.get?_push_of_some _ e))
      have hc : c = (s.heap.push { cls := .type "tuple", data := .seq #[.int a t, .int b u] }).objs.size := by simpa using hm
      have hl := Heap.lt_size e
      rw [hsz] at hc
      rw [hc] at hl
      exact Nat.lt_irrefl _ (Nat.lt_of_succ_lt hl)
    have this := h h' tk hold
    have hv : v = if b > a then Value.int b u else Value.int a t := by
      have hP' : (intItems #[(a, t), (b, u)])[argBest (fun i j => decide (numAt #[(a, t), (b, u)] i > numAt #[(a, t), (b, u)] j)) 1]? = some v := by
        have hsz2 : (intItems #[(a, t), (b, u)]).size - 1 = 1 := by simp [intItems]
        rw [← hsz2]; exact hP
      by_cases hba : b > a
      · have e : argBest (fun i j => decide (numAt #[(a, t), (b, u)] i > numAt #[(a, t), (b, u)] j)) 1 = 1 := by simp [argBest, numAt, hba]
        rw [e] at hP'
        simpa [intItems, hba] using hP'.symm
      · have e : argBest (fun i j => decide (numAt #[(a, t), (b, u)] i > numAt #[(a, t), (b, u)] j)) 1 = 0 := by simp [argBest, numAt, hba]
        rw [e] at hP'
        simpa [intItems, hba] using hP'.symm
    rw [hv]
    exact this
theorem sum_hot {x1 l : Addr} {its : List Value} {ns : List Int} {Q : Value → Shared → Prop} (hot : HotAt A x1 s.heap) (hl : s.heap.IsList l its.toArray) (hi : IntsAre its ns)
    (h : ∀ h' tk t', (∀ b o, s.heap.get? b = some o → h'.get? b = some o) → Q (.int ns.sum t') { s with heap := h', toks := tk }) : wpAny (model prog w) A (call (.builtin "sum") [.ref l]) Q E s := by
  obtain ⟨xs, e⟩ := hi.allInts.items
  have hn : numsOf (intItems xs).toList = ns := by rw [← e]; exact hi.numsOf
  rw [nums_intItems] at hn
  rw [e] at hl
  have lx : x1 < s.heap.objs.size := by obtain ⟨_, o, _, ho, _⟩ := hot; exact Heap.lt_size ho
  refine call_sum_walkG (iter_intList hl fun s₂ e st hfp hlI => ?_)
  subst e
  refine ⟨_, _, _, _, _, _, numAt xs, rfl, walksL_hot (A := A.in1) _ l x1 hlI (Nat.ne_of_lt lx) (intItems xs), ⟨st, hot_frame (A := A.in1) (h := s.heap) hot fun o e => Heap.get?_push_of_some _ e⟩, fun b hb => ?_, (fun _ _ => intItems_at), fun h' tk t' hk => ?_⟩
  · have hb : b = s.heap.objs.size ∨ b = l ∨ b = x1 := by simpa using hb
    rcases hb with rfl | rfl | rfl
    · exact hfp _ (by simp)
    · exact hfp _ (by simp)
    · show _ < (s.heap.push _).objs.size
      rw [Heap.size_push]; exact Nat.lt_succ_of_lt lx
  · have this := h h' tk t' (old_kept hk)
    have es : preSum (numAt xs) (intItems xs).size = ns.sum := by
      have z : (intItems xs).size = xs.size := by simp [intItems]
      rw [z, preSum_eq, List.take_of_length_le (by simp), hn]
    rw [es]
    exact this
end
section
variable {X : Cx}
theorem call_max2H (hc : HotC X) : CallR X (.builtin "max") (fun xs H Q => ∃ i j, xs = [.int i, .int j] ∧ Q (.int (if j > i then j else i)) H) := by
  intro pins s σ H xs us Q I r h
  obtain ⟨i, j, rfl, q⟩ := h
  obtain ⟨t, u, rfl⟩ := Vals.int2 r
  obtain ⟨x1, hot⟩ := hc.at I
  refine max2_hot hot fun h' tk k => ⟨_, H, I.kept k, ?_, q⟩
  by_cases hj : j > i
  · rw [if_pos hj, if_pos hj]; exact ⟨_, rfl⟩
  · rw [if_neg hj, if_neg hj]; exact ⟨_, rfl⟩
theorem cr_sumH (hc : HotC X) : CallR X (.builtin "sum") (rSum X.K) := by
  intro pins s σ H vs us Q I r h
  obtain ⟨a, ns, rfl, hs, q⟩ := h
  obtain ⟨its, rv, hl, _⟩ := I.list hs
  rw [Vals.ref1 r]
  obtain ⟨x1, hot⟩ := hc.at I
  exact sum_hot hot hl.isList rv.ints fun h' tk t' hk => ⟨.int _, H, I.kept hk, ⟨_, rfl⟩, q⟩
end
end L3
end
section
set_option Elab.async false
set_option linter.all false
set_option maxRecDepth 100000
set_option maxHeartbeats 4000000
namespace L3
open PySem PySem.Spec L2
open PyProof.Rows hiding St
section
variable {G : Gx} {w : Wd} {vh : VH} {H : Hp} {X : Cx} {W : WX}

/-! ### targets: a name, a tuple of names -/
inductive CT where
  | nm (i : Nat) | tp (is : List Nat)
deriving DecidableEq
def CT.slots : CT → List Nat
  | .nm i => [i]
  | .tp is => is
def setsE : List Nat → List D → Env3 → Env3
  | i :: is, d :: ds, env => setsE is ds (env.set i (some d))
  | _, _, env => env
def setsV : List Nat → List V → L2.St → L2.St
  | i :: is, d :: ds, σ => setsV is ds (σ.set i (some d))
  | _, _, σ => σ
def setCT : CT → D → Env3 → Option Env3
  | .nm i, d, env => some (env.set i (some d))
  | .tp is, .tup ds, env => if is.length = ds.length then some (setsE is ds env) else none
  | _, _, _ => none
def gNames : List Nat → TGs
  | [] => gNil
  | i :: is => gCons (gName i) (gNames is)
def gCT (K : PySem.W.Frag) : CT → TG
  | .nm i => gName i
  | .tp is => gTup K is.length (gNames is)
theorem gNames_ok : ∀ (is : List Nat) (vs : List V) (σ : L2.St) (H : Hp) (Q : L2.St → Hp → Prop), vs.length = is.length → Q (setsV is vs σ) H → gNames is vs σ H Q
  | [], [], σ, H, Q, _, h => ⟨rfl, h⟩
  | [], v :: vs, σ, H, Q, e, h => by simp at e
  | i :: is, [], σ, H, Q, e, h => by simp at e
  | i :: is, v :: vs, σ, H, Q, e, h => ⟨v, vs, rfl, gNames_ok is vs _ H Q (by simpa using e) h⟩
theorem RelE.sets : ∀ (is : List Nat) {ds : List D} {vs : List V} {env : Env3} {σ : L2.St}, RelE G w H env σ → RepDs G w H ds vs → RelE G w H (setsE is ds env) (setsV is vs σ)
  | [], ds, vs, env, σ, h, r => by cases ds <;> cases vs <;> exact h
  | i :: is, [], vs, env, σ, h, r => by simp only [RepDs] at r; subst r; exact h
  | i :: is, d :: ds, vs, env, σ, h, r => by
    simp only [RepDs] at r
    obtain ⟨v, vs', rfl, h1, h2⟩ := r
    exact RelE.sets is (h.set i h1) h2
theorem wipe_set {σ : L2.St} {i : Nat} {v : Option V} : ∀ {vs : List Nat}, i ∈ vs → wipe (σ.set i v) vs = wipe σ vs
  | j :: js, h => by
    show (wipe (σ.set i v) js).set j none = (wipe σ js).set j none
    by_cases hj : i ∈ js
    · rw [wipe_set hj]
    · have e : i = j := by simpa [hj] using h
      subst e
      have go : ∀ ks : List Nat, (wipe (σ.set i v) ks).set i none = (wipe σ ks).set i none := by
        intro ks
        induction ks with
        | nil => show (σ.set i v).set i none = σ.set i none; rw [List.set_set]
        | cons k ks ih =>
          show ((wipe (σ.set i v) ks).set k none).set i none = ((wipe σ ks).set k none).set i none
          by_cases e : k = i
          · subst e; rw [List.set_set, List.set_set]; exact ih
          · rw [List.set_comm _ _ e, List.set_comm _ _ e, ih]
      exact go js
theorem wipe_sets : ∀ {is : List Nat} {us : List V} {σ : L2.St} {vs : List Nat}, (∀ i ∈ is, i ∈ vs) → wipe (setsV is us σ) vs = wipe σ vs
  | [], us, σ, vs, h => by cases us <;> rfl
  | i :: is, [], σ, vs, h => rfl
  | i :: is, u :: us, σ, vs, h => by
    show wipe (setsV is us (σ.set i (some u))) vs = _
    rw [wipe_sets fun j hj => h j (List.mem_cons_of_mem _ hj)]
    exact wipe_set (h i List.mem_cons_self)
theorem wipe_none {σ : L2.St} {i : Nat} : ∀ {vs : List Nat}, i ∈ vs → (wipe σ vs).set i none = wipe σ vs
  | j :: js, h => by
    show ((wipe σ js).set j none).set i none = (wipe σ js).set j none
    by_cases e : j = i
    · subst e; rw [List.set_set]
    · have hi : i ∈ js := by
        rcases List.mem_cons.mp h with q | q
        · exact (e q.symm).elim
        · exact q
      rw [List.set_comm _ _ e, wipe_none hi]
theorem wipe_wipe {σ : L2.St} {vs : List Nat} : ∀ {us : List Nat}, (∀ i ∈ us, i ∈ vs) → wipe (wipe σ vs) us = wipe σ vs
  | [], _ => rfl
  | u :: us, h => by
    show (wipe (wipe σ vs) us).set u none = wipe σ vs
    rw [wipe_wipe fun j hj => h j (List.mem_cons_of_mem _ hj)]
    exact wipe_none (h u List.mem_cons_self)
theorem ct_ok {t : CT} {d : D} {v : V} {env env1 : Env3} {σ : L2.St} (RE : RelE G w H env σ) (r : RepD G w H d v) (e : setCT t d env = some env1) :
    ∃ σ1, RelE G w H env1 σ1 ∧ (∀ Q : L2.St → Hp → Prop, Q σ1 H → gCT G.K t v σ H Q) ∧ ∀ vs : List Nat, (∀ i ∈ t.slots, i ∈ vs) → wipe σ1 vs = wipe σ vs := by
  cases t with
  | nm i =>
    cases e
    exact ⟨_, RE.set i r, fun Q q => q, fun vs h => wipe_set (h i (by simp [CT.slots]))⟩
  | tp is =>
    cases d with
    | tup ds =>
      have e : (if is.length = ds.length then some (setsE is ds env) else none) = some env1 := e
      split at e
      · rename_i hl
        cases e
        obtain ⟨p, vs, rfl, h1, h2⟩ := tup_ok r
        have hv : vs.length = is.length := by rw [h2.length]; exact hl.symm
        exact ⟨_, RE.sets is h2, fun Q q => ⟨p, vs, rfl, h1, hv, gNames_ok is vs _ H Q hv q⟩, fun vs h => wipe_sets h⟩
      · cases e
    | _ => cases e

/-! ### the list that a comprehension makes -/
def pinAt (D : Addr) (o : HO) (p : Addr → Option HO) : Addr → Option HO := fun a => if a = D then some o else p a
theorem pinAt_self {D : Addr} {o : HO} {p : Addr → Option HO} : pinAt D o p D = some o := by unfold pinAt; rw [if_pos rfl]
theorem pinAt_ne {D a : Addr} {o : HO} {p : Addr → Option HO} (h : a ≠ D) : pinAt D o p a = p a := by unfold pinAt; rw [if_neg h]
theorem pin_new {D : Addr} {vs : List V} (R : RelH G w vh H) (hD : H D = none) :
    RelH G { w with pin := pinAt D (.lst vs) w.pin } vh (upd H D (.lst vs)) ∧ w.pin D = none ∧ ∀ d v, RepD G w H d v → RepD G { w with pin := pinAt D (.lst vs) w.pin } (upd H D (.lst vs)) d v := by
  obtain ⟨n1, n2⟩ := R.new hD
  have put := fun d v => RepD.put (G := G) (w := w) (w' := { w with pin := pinAt D (.lst vs) w.pin }) (o := .lst vs) (.inl hD) (Nat.le_refl _) (fun _ _ => rfl) (fun _ z => z) d v
  have hp : w.pin D = none := by
    cases q : w.pin D with
    | none => rfl
    | some o => have := R.pinH D o q; rw [hD] at this; cases this
  refine ⟨⟨R.len, R.inj, fun i hi => ?_, fun a ha => ?_, fun a o e => ?_, fun a o e => ?_, fun i o e => ?_, fun x ex => (pinAt_ne (R.newPin hD _ _ (R.xp x ex))).trans (R.xp x ex)⟩, hp, put⟩
  · show ∃ vs', upd H D _ (w.ρ i) = some (.lst vs')
    rw [upd_ne (n1 i hi)]; exact R.there i hi
  · rw [upd_ne (b := a) (a := D) (fun (e : a = D) => n2 (by rw [← e]; exact ha))]; exact R.frozen a ha
  · have e : pinAt D (.lst vs) w.pin a = some o := e
    by_cases ha : a = D
    · subst ha; rw [pinAt_self] at e; cases e; exact upd_same
    · rw [pinAt_ne ha] at e; rw [upd_ne ha]; exact R.pinH a o e
  · have e : pinAt D (.lst vs) w.pin a = some o := e
    by_cases ha : a = D
    · subst ha; exact ⟨n2, n1⟩
    · rw [pinAt_ne ha] at e; exact R.pinZ a o e
  · have hi : i < w.n := by have := (List.getElem?_eq_some_iff.mp e).1; rw [R.len] at this; exact this
    exact (R.obj i o e).put (w := w) (w' := { w with pin := pinAt D (.lst vs) w.pin }) (.inl hD) (Nat.le_refl _) (fun _ _ => rfl) (fun _ z => z) hi (n1 i hi) fun z => z
theorem pin_put {D : Addr} {vs us : List V} {p0 : Addr → Option HO} (R : RelH G w vh H) (hp : w.pin = pinAt D (.lst vs) p0) (h0 : p0 D = none) :
    RelH G { w with pin := pinAt D (.lst us) p0 } vh (upd H D (.lst us)) ∧ ∀ d v, RepD G w H d v → RepD G { w with pin := pinAt D (.lst us) p0 } (upd H D (.lst us)) d v := by
  have hD : H D = some (.lst vs) := R.pinH D _ (by rw [hp]; exact pinAt_self)
  obtain ⟨z1, z2⟩ := R.pinZ D _ (by rw [hp]; exact pinAt_self)
  have can : CanPut w H D := .inr ⟨by rw [hD]; trivial, z1⟩
  have put := fun d v => RepD.put (G := G) (w := w) (w' := { w with pin := pinAt D (.lst us) p0 }) (o := .lst us) can (Nat.le_refl _) (fun _ _ => rfl) (fun _ z => z) d v
  refine ⟨⟨R.len, R.inj, fun i hi => ?_, fun a ha => ?_, fun a o e => ?_, fun a o e => ?_, fun i o e => ?_, fun x ex => ?_⟩, put⟩
  rotate_right
  · have z := R.xp x ex
    rw [hp] at z
    by_cases hd : x.2.1 = D
    · rw [hd, pinAt_self] at z; cases z
    · rw [pinAt_ne hd] at z
      exact (pinAt_ne hd).trans z
  · show ∃ vs', upd H D _ (w.ρ i) = some (.lst vs')
    rw [upd_ne (z2 i hi)]; exact R.there i hi
  · rw [upd_ne (b := a) (a := D) (fun (e : a = D) => z1 (by rw [← e]; exact ha))]; exact R.frozen a ha
  · have e : pinAt D (.lst us) p0 a = some o := e
    by_cases ha : a = D
    · subst ha; rw [pinAt_self] at e; cases e; exact upd_same
    · rw [pinAt_ne ha] at e; rw [upd_ne ha]; exact R.pinH a o (by rw [hp, pinAt_ne ha]; exact e)
  · have e : pinAt D (.lst us) p0 a = some o := e
    by_cases ha : a = D
    · subst ha; exact ⟨z1, z2⟩
    · rw [pinAt_ne ha] at e; exact R.pinZ a o (by rw [hp, pinAt_ne ha]; exact e)
  · have hi : i < w.n := by have := (List.getElem?_eq_some_iff.mp e).1; rw [R.len] at this; exact this
    exact (R.obj i o e).put (w := w) (w' := { w with pin := pinAt D (.lst us) p0 }) can (Nat.le_refl _) (fun _ _ => rfl) (fun _ z => z) hi (z2 i hi) fun z => z
/-- the list is done: it is nobody's, or an object of the virtual heap -/
theorem pin_done {D : Addr} {vs : List V} {ds : List L3.D} {p0 : Addr → Option HO} (m : Bool) (R : RelH G w vh H) (hp : w.pin = pinAt D (.lst vs) p0) (h0 : p0 D = none) (r : RepDs G w H ds vs) :
    ∃ w', w'.pin = p0 ∧ w.n ≤ w'.n ∧ (∀ d v, RepD G w H d v → RepD G w' H d v) ∧ RelH G w' (mkL m ds vh).2 H ∧ RepD G w' H (mkL m ds vh).1 (.ref D) := by
  have hD : H D = some (.lst vs) := R.pinH D _ (by rw [hp]; exact pinAt_self)
  obtain ⟨z1, z2⟩ := R.pinZ D _ (by rw [hp]; exact pinAt_self)
  have can : CanPut w H D := .inr ⟨by rw [hD]; trivial, z1⟩
  have same : upd H D (.lst vs) = H := by
    funext b; unfold upd; split
    · rename_i e; rw [e, hD]
    · rfl
  have ne0 : ∀ a o, p0 a = some o → a ≠ D := fun a o e q => by rw [q, h0] at e; cases e
  have xp0 : ∀ x, G.xa = some x → p0 x.2.1 = some (.xd x.2.2) := fun x ex => by
    have z := R.xp x ex
    rw [hp] at z
    by_cases hd : x.2.1 = D
    · rw [hd, pinAt_self] at z; cases z
    · rwa [pinAt_ne hd] at z
  cases m with
  | false =>
    have put := fun d v => RepD.put (G := G) (w := w) (H := H) (w' := { w with fz := fun a => w.fz a ∨ a = D, pin := p0 }) (o := .lst vs) can (Nat.le_refl _) (fun _ _ => rfl) (fun _ z => .inl z) d v
    rw [same] at put
    refine ⟨{ w with fz := fun a => w.fz a ∨ a = D, pin := p0 }, rfl, Nat.le_refl _, put, ⟨R.len, R.inj, R.there, fun a ha => ?_, fun a o e => ?_, fun a o e => ⟨fun z => ?_, ?_⟩, fun i o e => ?_, xp0⟩, ?_⟩
    · rcases ha with ha | rfl
      · exact R.frozen a ha
      · rw [hD]; simp
    · exact R.pinH a o (by rw [hp, pinAt_ne (ne0 a o e)]; exact e)
    · rcases z with z | z
      · exact (R.pinZ a o (by rw [hp, pinAt_ne (ne0 a o e)]; exact e)).1 z
      · exact ne0 a o e z
    · exact (R.pinZ a o (by rw [hp, pinAt_ne (ne0 a o e)]; exact e)).2
    · have e : vh[i]? = some o := e
      have hi : i < w.n := by have := (List.getElem?_eq_some_iff.mp e).1; rw [R.len] at this; exact this
      have := (R.obj i o e).put (w := w) (w' := { w with fz := fun a => w.fz a ∨ a = D, pin := p0 }) (o := .lst vs) can (Nat.le_refl _) (fun _ _ => rfl) (fun _ z => .inl z) hi (z2 i hi) fun z => z.elim (fun q => q) fun q => (z2 i hi q).elim
      rw [same] at this
      exact this
    · show RepD G _ H (.lst ds) (.ref D)
      simp only [RepD]
      exact ⟨D, vs, rfl, ⟨hD, .inr rfl⟩, r.mono put⟩
  | true =>
    generalize hw : ({ w with ρ := fun i => if i = w.n then D else w.ρ i, n := w.n + 1, pin := p0 } : Wd) = w'
    have e1 : w'.n = w.n + 1 := by rw [← hw]
    have e2 : ∀ i, i < w.n → w'.ρ i = w.ρ i := fun i hi => by rw [← hw]; show (if i = w.n then D else w.ρ i) = _; rw [if_neg (Nat.ne_of_lt hi)]
    have e3 : w'.ρ w.n = D := by rw [← hw]; show (if w.n = w.n then D else _) = _; rw [if_pos rfl]
    have e4 : w'.fz = w.fz := by rw [← hw]
    have e5 : w'.pin = p0 := by rw [← hw]
    have put := fun d v => RepD.put (G := G) (w := w) (H := H) (w' := w') (o := .lst vs) can (by rw [e1]; exact Nat.le_succ _) e2 (fun _ z => by rw [e4]; exact z) d v
    rw [same] at put
    have cases_ : ∀ i, i < w'.n → i < w.n ∨ i = w.n := fun i hi => by rw [e1] at hi; omega
    refine ⟨w', e5, by rw [e1]; exact Nat.le_succ _, put, ⟨by show (vh ++ [O.lst ds]).length = _; rw [List.length_append, R.len, e1]; rfl, fun i j hi hj e => ?_, fun i hi => ?_, fun a ha => ?_, fun a o e => ?_, fun a o e => ⟨?_, fun i hi => ?_⟩, fun i o e => ?_, by rw [e5]; exact xp0⟩, ?_⟩
    · rcases cases_ i hi with hi | rfl <;> rcases cases_ j hj with hj | rfl
      · rw [e2 i hi, e2 j hj] at e; exact R.inj i j hi hj e
      · rw [e2 i hi, e3] at e; exact (z2 i hi e).elim
      · rw [e2 j hj, e3] at e; exact (z2 j hj e.symm).elim
      · rfl
    · rcases cases_ i hi with hi | rfl
      · rw [e2 i hi]; exact R.there i hi
      · rw [e3, hD]; simp
    · rw [e4] at ha; exact R.frozen a ha
    · rw [e5] at e
      exact R.pinH a o (by rw [hp, pinAt_ne (ne0 a o e)]; exact e)
    · rw [e5] at e
      rw [e4]
      exact (R.pinZ a o (by rw [hp, pinAt_ne (ne0 a o e)]; exact e)).1
    · rw [e5] at e
      rcases cases_ i hi with hi | rfl
      · rw [e2 i hi]; exact (R.pinZ a o (by rw [hp, pinAt_ne (ne0 a o e)]; exact e)).2 i hi
      · rw [e3]; exact (ne0 a o e).symm
    · have e : (vh ++ [O.lst ds])[i]? = some o := e
      by_cases hi : i < w.n
      · rw [List.getElem?_append_left (by rw [R.len]; exact hi)] at e
        have := (R.obj i o e).put (w := w) (w' := w') (o := .lst vs) can (by rw [e1]; exact Nat.le_succ _) e2 (fun _ z => by rw [e4]; exact z) hi (z2 i hi) fun z => by rw [e4] at z; exact z
        rw [same] at this
        exact this
      · have hlt := (List.getElem?_eq_some_iff.mp e).1
        rw [List.length_append, R.len, List.length_singleton] at hlt
        have : i = w.n := by omega
        subst this
        rw [List.getElem?_append_right (by rw [R.len]; exact Nat.le_refl _), R.len, Nat.sub_self] at e
        cases e
        exact ⟨by rw [e3, e4]; exact z1, vs, by rw [e3]; exact hD, r.mono put⟩
    · show RepD G w' H (.ref vh.length) (.ref D)
      simp only [RepD]
      rw [R.len, e3, e1]
      exact ⟨Nat.lt_succ_self _, rfl⟩

/-! ### comprehensions -/
def toO {α : Type} : Res α → Option (α × VH)
  | .ok a vh => some (a, vh)
  | _ => none
@[simp] theorem toO_ok {α : Type} (a : α) (vh : VH) : toO (.ok a vh) = some (a, vh) := rfl
/-- what one turn brings -/
def compStep (own : List Nat) (t : CT) (c : Env3 → VH → Res Bool) (e : Env3 → VH → Res D) (env : Env3) (d : D) (vh : VH) : Option (List D × VH) :=
  (setCT t d (wipeE env own)).bind fun env1 => (toO (c env1 vh)).bind fun (k, vh1) => if k then (toO (e env1 vh1)).map fun (y, vh2) => ([y], vh2) else some ([], vh1)
def compL (step : D → VH → Option (List D × VH)) : List D → VH → Option (List D × VH)
  | [], vh => some ([], vh)
  | d :: ds, vh => (step d vh).bind fun (ys, vh1) => (compL step ds vh1).map fun (zs, vh2) => (ys ++ zs, vh2)
abbrev W0 : WX := fun _ _ _ _ => False
theorem takes0 {X : Cx} : L2N.Takes X W0 := fun _ _ x => by
  obtain ⟨_, _, _, _, _, _, _, _, _, _, _, _, _, _, _, _, z⟩ := x
  exact z.elim
def yesE (_ : Env3) (vh : VH) : Res Bool := .ok true vh
/-- what is left of a walk, of which acc is made: fin is wanted of all -/
def inRest (fin : List D → VH → Prop) (step : D → VH → Option (List D × VH)) (acc ds : List D) (vh : VH) : Prop := match compL step ds vh with
  | none => False
  | some (ys, vh2) => fin (acc ++ ys) vh2
theorem inRest.nil {fin : List D → VH → Prop} {step : D → VH → Option (List D × VH)} {acc : List D} {vh : VH} (h : inRest fin step acc [] vh) : fin acc vh := by
  unfold inRest compL at h
  dsimp only at h
  rw [List.append_nil] at h
  exact h
theorem inRest.turn {fin : List D → VH → Prop} {step : D → VH → Option (List D × VH)} {acc : List D} {d : D} {ds : List D} {vh : VH} (h : inRest fin step acc (d :: ds) vh) : ∃ ys vh1, step d vh = some (ys, vh1) ∧ inRest fin step (acc ++ ys) ds vh1 := by
  unfold inRest at h ⊢
  simp only [compL] at h
  cases e : step d vh with
  | none => rw [e] at h; exact h.elim
  | some z =>
    obtain ⟨ys, vh1⟩ := z
    refine ⟨ys, vh1, rfl, ?_⟩
    rw [e, Option.bind_some] at h
    dsimp only at h
    cases e2 : compL step ds vh1 with
    | none => rw [e2] at h; exact h.elim
    | some z =>
      obtain ⟨zs, vh2⟩ := z
      rw [e2] at h
      simpa [List.append_assoc] using h
theorem inRest.line {fin : List D → VH → Prop} (hf : ∀ acc vh, fin acc vh → acc.length ≤ sizeLine) {step : D → VH → Option (List D × VH)} {acc ds : List D} {vh : VH} (h : inRest fin step acc ds vh) : acc.length ≤ sizeLine := by
  unfold inRest at h
  split at h
  · exact h.elim
  · have := hf _ _ h
    rw [List.length_append] at this
    omega
/-- between two turns: K is wanted yet -/
structure CompInv (G : Gx) (w1 : Wd) (H1 : Hp) (A : Addr) (K : List D → VH → Prop) (w : Wd) (vh : VH) (H : Hp) (acc : List D) (accV : List V) : Prop where
  R : RelH G w vh H
  pin : w.pin = pinAt A (.lst accV) w1.pin
  n : w1.n ≤ w.n
  rep : ∀ d v, RepD G w1 H1 d v → RepD G w H d v
  racc : RepDs G w H acc accV
  rest : K acc vh
theorem CompInv.app {w1 w2 : Wd} {H1 H2 : Hp} {vh2 : VH} {A : Addr} {K K' : List D → VH → Prop} {acc : List D} {accV : List V} {y : D} {yv : V} (h0 : w1.pin A = none)
    (I : CompInv G w1 H1 A K w vh H acc accV) (L : Le G w H w2 H2) (R2 : RelH G w2 vh2 H2) (r : RepD G w2 H2 y yv) (rest : K' (acc ++ [y]) vh2) (hl : (acc ++ [y]).length ≤ sizeLine) :
    H2 A = some (.lst accV) ∧ accV.length < sizeLine ∧ ∃ w3, CompInv G w1 H1 A K' w3 vh2 (upd H2 A (.lst (accV ++ [yv]))) (acc ++ [y]) (accV ++ [yv]) := by
  have hp2 : w2.pin = pinAt A (.lst accV) w1.pin := L.pin.trans I.pin
  obtain ⟨R3, put⟩ := pin_put (us := accV ++ [yv]) R2 hp2 h0
  refine ⟨R2.pinH A _ (by rw [hp2]; exact pinAt_self), ?_, _, R3, rfl, Nat.le_trans I.n L.n, fun d v q => put d v (L.rep d v (I.rep d v q)), ((I.racc.mono L.rep).append (.one r)).mono put, rest⟩
  simp only [List.length_append, List.length_singleton] at hl
  rw [I.racc.length]; omega
theorem CompInv.skip {w1 w2 : Wd} {H1 H2 : Hp} {vh2 : VH} {A : Addr} {K K' : List D → VH → Prop} {acc : List D} {accV : List V}
    (I : CompInv G w1 H1 A K w vh H acc accV) (L : Le G w H w2 H2) (R2 : RelH G w2 vh2 H2) (rest : K' acc vh2) : CompInv G w1 H1 A K' w2 vh2 H2 acc accV :=
  ⟨R2, L.pin.trans I.pin, Nat.le_trans I.n L.n, fun d v q => L.rep d v (I.rep d v q), I.racc.mono L.rep, rest⟩
/-- the turns of one clause: Fin is wanted behind the last one -/
theorem walk1 {w1 w4 : Wd} {H1 H4 : Hp} {vh4 : VH} {A : Addr} {fin : List D → VH → Prop} {own : List Nat} {t : CT} {c : Env3 → VH → Res Bool} {e : Env3 → VH → Res D} {env : Env3} {σ : L2.St} {J : It} {ds : List D} {keep : Wd → Hp → Prop} {acc0 : List D} {accV0 : List V} {Fin : Hp → Prop}
    (h0 : w1.pin A = none) (ht : ∀ i ∈ t.slots, i ∈ own) (hf : ∀ acc vh, fin acc vh → acc.length ≤ sizeLine) (RE : RelE G w4 H4 env σ) (wk : WalkOk G J ds keep) (kp : keep w4 H4)
    (I0 : CompInv G w1 H1 A (fun acc vh => inRest fin (compStep own t c e env) acc ds vh) w4 vh4 H4 acc0 accV0) (hF : ∀ w vh H acc accV, CompInv G w1 H1 A fin w vh H acc accV → (∀ d v, RepD G w4 H4 d v → RepD G w H d v) → Fin H) :
    ∃ W : Nat → Nat → Hp → Prop, (∃ m, W 0 m H4) ∧ ∀ i m H, W i m H → (J.stop i H ∧ Fin H) ∨ (J.go i H ∧ ∃ Nx : Hp → Prop, (∀ H', Nx H' → ∃ m', m' < m ∧ W (i + 1) m' H') ∧ ∀ x H', J.yld i H x H' →
      gCT G.K t x (wipe σ own) H' fun σ2 H2 => wipe σ2 own = wipe σ own ∧ tTs G W0 c σ2 H2 fun b H3 => if b = true then tE G W0 e σ2 H3 fun y H4 => ∃ acc, H4 A = some (.lst acc) ∧ acc.length < sizeLine ∧ Nx (upd H4 A (.lst (acc ++ [y]))) else Nx H3) := by
  refine ⟨fun i n H => ∃ w vh acc accV, n = ds.length - i ∧ i ≤ ds.length ∧ CompInv G w1 H1 A (fun acc vh => inRest fin (compStep own t c e env) acc (ds.drop i) vh) w vh H acc accV ∧ ∀ d v, RepD G w4 H4 d v → RepD G w H d v,
    ⟨ds.length, w4, vh4, acc0, accV0, by simp, Nat.zero_le _, by simpa using I0, fun _ _ h => h⟩, ?_⟩
  rintro i n H5 ⟨w5, vh5, acc, accV, rfl, hi, I, mono⟩
  have kp5 : keep w5 H5 := wk.mono _ _ _ _ mono kp
  by_cases hlt : i < ds.length
  · refine .inr ⟨wk.go i w5 H5 kp5 hlt, fun H' => ∃ w vh acc accV, CompInv G w1 H1 A (fun acc vh => inRest fin (compStep own t c e env) acc (ds.drop (i + 1)) vh) w vh H' acc accV ∧ ∀ d v, RepD G w4 H4 d v → RepD G w H' d v,
      fun H' ⟨w, vh, acc, accV, I, mono⟩ => ⟨ds.length - (i + 1), by omega, w, vh, acc, accV, rfl, hlt, I, mono⟩, fun x H' hy => ?_⟩
    obtain ⟨rfl, d, ed, rd⟩ := wk.yld i w5 H5 x H' kp5 hlt hy
    have eds : ds.drop i = d :: ds.drop (i + 1) := by
      have := (List.getElem?_eq_some_iff.mp ed).2
      rw [← this]
      exact List.drop_eq_getElem_cons hlt
    have rest := I.rest
    rw [eds] at rest
    obtain ⟨ys, vh6, es, rest⟩ := rest.turn
    unfold compStep at es
    cases e1 : setCT t d (wipeE env own) with
    | none => rw [e1] at es; cases es
    | some env1 =>
      rw [e1, Option.bind_some] at es
      have REw : RelE G w5 H' (wipeE env own) (wipe σ own) := RelE.wipe ⟨RE.len, fun j d e => let ⟨v, e', r⟩ := RE.at_ j d e; ⟨v, e', mono _ _ r⟩⟩ own
      obtain ⟨σ1, RE2, g, hw⟩ := ct_ok REw rd e1
      refine g _ ⟨(hw own ht).trans (wipe_wipe fun _ h => h), w5, env1, vh5, I.R, RE2, ?_⟩
      cases ec : c env1 vh5 with
      | bad => rw [ec] at es; cases es
      | exn => rw [ec] at es; cases es
      | ok k vh7 =>
        rw [ec, toO_ok, Option.bind_some] at es
        dsimp only at es
        intro w7 b H7 L7 R7 hb
        obtain rfl : k = b := hb
        cases k with
        | false =>
          rw [if_neg Bool.false_ne_true] at es ⊢
          obtain ⟨rfl, rfl⟩ : ([] : List D) = ys ∧ vh7 = vh6 := by simpa using es
          rw [List.append_nil] at rest
          exact ⟨w7, vh7, acc, accV, I.skip L7 R7 rest, fun d v q => L7.rep d v (mono d v q)⟩
        | true =>
          rw [if_pos rfl] at es ⊢
          refine ⟨w7, env1, vh7, R7, RE2.le L7, ?_⟩
          cases ee : e env1 vh7 with
          | bad => rw [ee] at es; cases es
          | exn => rw [ee] at es; cases es
          | ok y vh8 =>
            rw [ee, toO_ok, Option.map_some] at es
            obtain ⟨rfl, rfl⟩ : [y] = ys ∧ vh8 = vh6 := by simpa using es
            intro w8 yv H8 L8 R8 r8
            have hp8 : w8.pin = pinAt A (.lst accV) w1.pin := (L7.trans L8).pin.trans I.pin
            obtain ⟨a1, a2, w9, I9⟩ := CompInv.app (K' := fun acc vh => inRest fin (compStep own t c e env) acc (ds.drop (i + 1)) vh) h0 I (L7.trans L8) R8 r8 rest (inRest.line hf rest)
            refine ⟨accV, a1, a2, { w8 with pin := pinAt A (.lst (accV ++ [yv])) w1.pin }, vh8, acc ++ [y], accV ++ [yv], ?_, ?_⟩
            · obtain ⟨R3, put⟩ := pin_put (us := accV ++ [yv]) R8 hp8 h0
              exact ⟨R3, rfl, Nat.le_trans I.n (L7.trans L8).n, fun d v q => put d v ((L7.trans L8).rep d v (I.rep d v q)), ((I.racc.mono (L7.trans L8).rep).append (.one r8)).mono put, rest⟩
            · obtain ⟨R3, put⟩ := pin_put (us := accV ++ [yv]) R8 hp8 h0
              exact fun d v q => put d v ((L7.trans L8).rep d v (mono d v q))
  · have e : ds.drop i = [] := List.drop_eq_nil_of_le (Nat.le_of_not_lt hlt)
    rw [e] at I
    have hs : i = ds.length := by omega
    refine .inl ⟨by rw [hs]; exact wk.stop w5 H5 kp5, hF w5 vh5 H5 acc accV ⟨I.R, I.pin, I.n, I.rep, I.racc, inRest.nil I.rest⟩ mono⟩
/-- all is made -/
def finC (G : Gx) (m : Bool) (w1 : Wd) (H1 : Hp) (Q : VK) (acc : List D) (vh : VH) : Prop := PostO G w1 H1 Q (lineO acc.length (mkL m acc vh))
theorem finC_line {m : Bool} {w1 : Wd} {H1 : Hp} {Q : VK} (acc : List D) (vh : VH) (h : finC G m w1 H1 Q acc vh) : acc.length ≤ sizeLine := (PostO.line h).1
theorem finC_done {m : Bool} {w1 : Wd} {H1 : Hp} {Q : VK} {A : Addr} {acc : List D} {accV : List V} (h0 : w1.pin A = none) (I : CompInv G w1 H1 A (finC G m w1 H1 Q) w vh H acc accV) : Q (.ref A) H := by
  obtain ⟨w', e1, e2, e3, e4, e5⟩ := pin_done m I.R I.pin h0 I.racc
  obtain ⟨_, h⟩ := PostO.line I.rest
  exact h w' (.ref A) H ⟨Nat.le_trans I.n e2, fun d v r => e3 d v (I.rep d v r), e1⟩ e4 e5
def compF (m : Bool) (step : D → VH → Option (List D × VH)) (ds : List D) (vh : VH) : Option (D × VH) := (compL step ds vh).bind fun (ys, vh2) => lineO ys.length (mkL m ys vh2)
theorem inRest_of {m : Bool} {step : D → VH → Option (List D × VH)} {ds : List D} {vh : VH} {Q : VK} (h : PostO G w H Q (compF m step ds vh)) : inRest (finC G m w H Q) step [] ds vh := by
  unfold compF at h
  unfold inRest
  cases e : compL step ds vh with
  | none => rw [e] at h; exact h.elim
  | some z => rw [e] at h; exact h
def compE (m : Bool) (own : List Nat) (t : CT) (it : Env3 → VH → Res (List D)) (c : Env3 → VH → Res Bool) (e : Env3 → VH → Res D) (env : Env3) (vh : VH) : Res D :=
  (it env vh).bind fun ds vh1 => .ofO (compF m (compStep own t c e env) ds vh1)
theorem tE_comp {m : Bool} {own : List Nat} {t : CT} {it : Env3 → VH → Res (List D)} {c : Env3 → VH → Res Bool} {e : Env3 → VH → Res D} (ht : ∀ i ∈ t.slots, i ∈ own) (σ : L2.St) (H : Hp) (Q : VK) (h : tE G W (compE m own t it c e) σ H Q) :
    tLc (tI G W it) (gCT G.K t) (tTs G W0 c) (tE G W0 e) own σ H Q := by
  obtain ⟨w, env, vh, R, RE, h⟩ := h
  refine ⟨w, env, vh, R, RE, (h.bind (rep := repI G)).mono fun J H1 ⟨w1, ds, vh1, L1, R1, ⟨keep, wk, kp⟩, h1⟩ => fun A hA => ?_⟩
  have RE1 := RE.le L1
  obtain ⟨Rp, h0, put⟩ := pin_new (vs := []) R1 hA
  exact walk1 (acc0 := []) (accV0 := []) h0 ht finC_line ⟨RE1.len, fun j d e => let ⟨v, e', r⟩ := RE1.at_ j d e; ⟨v, e', put _ _ r⟩⟩ wk (wk.mono _ _ _ _ put kp)
    ⟨Rp, rfl, Nat.le_refl _, put, .nil, inRest_of (.of h1)⟩ fun w vh H acc accV I _ => finC_done h0 I

/-! ### two clauses -/
def comp2Step (own : List Nat) (t : CT) (c : Env3 → VH → Res Bool) (vs1 : List Nat) (t1 : CT) (it1 : Env3 → VH → Res (List D)) (c1 : Env3 → VH → Res Bool) (e : Env3 → VH → Res D) (env : Env3) (d : D) (vh : VH) : Option (List D × VH) :=
  (setCT t d (wipeE env own)).bind fun env1 => (toO (c env1 vh)).bind fun (k, vh1) => if k then (toO (it1 env1 vh1)).bind fun (ds1, vh2) => compL (compStep vs1 t1 c1 e env1) ds1 vh2 else some ([], vh1)
def comp2E (m : Bool) (own : List Nat) (t : CT) (it : Env3 → VH → Res (List D)) (c : Env3 → VH → Res Bool) (vs1 : List Nat) (t1 : CT) (it1 : Env3 → VH → Res (List D)) (c1 : Env3 → VH → Res Bool) (e : Env3 → VH → Res D) (env : Env3) (vh : VH) : Res D :=
  (it env vh).bind fun ds vh1 => .ofO (compF m (comp2Step own t c vs1 t1 it1 c1 e env) ds vh1)
theorem tE_comp2 {m : Bool} {own : List Nat} {t : CT} {it : Env3 → VH → Res (List D)} {c : Env3 → VH → Res Bool} {vs1 : List Nat} {t1 : CT} {it1 : Env3 → VH → Res (List D)} {c1 : Env3 → VH → Res Bool} {e : Env3 → VH → Res D} (ht : ∀ i ∈ t.slots, i ∈ own) (ht1 : ∀ i ∈ t1.slots, i ∈ vs1)
    (σ : L2.St) (H : Hp) (Q : VK) (h : tE G W (comp2E m own t it c vs1 t1 it1 c1 e) σ H Q) :
    tLc2 (tI G W it) (gCT G.K t) (tTs G W0 c) (tI G W0 it1) (gCT G.K t1) (tTs G W0 c1) (tE G W0 e) own vs1 σ H Q := by
  obtain ⟨w, env, vh, R, RE, h⟩ := h
  refine ⟨w, env, vh, R, RE, (h.bind (rep := repI G)).mono fun J H1 ⟨w1, ds, vh1, L1, R1, ⟨keep, wk, kp⟩, h1⟩ => fun A hA => ?_⟩
  have RE1 := RE.le L1
  obtain ⟨Rp, h0, put⟩ := pin_new (vs := []) R1 hA
  generalize hstep : comp2Step own t c vs1 t1 it1 c1 e env = step at h1
  refine ⟨fun i n H => ∃ w vh acc accV, n = ds.length - i ∧ i ≤ ds.length ∧ CompInv G w1 H1 A (fun acc vh => inRest (finC G m w1 H1 Q) step acc (ds.drop i) vh) w vh H acc accV,
    ⟨ds.length, _, vh1, [], [], by simp, Nat.zero_le _, Rp, rfl, Nat.le_refl _, put, .nil, by simpa using inRest_of (.of h1)⟩, ?_⟩
  rintro i n H5 ⟨w5, vh5, acc, accV, rfl, hi, I⟩
  have kp5 : keep w5 H5 := wk.mono _ _ _ _ I.rep kp
  by_cases hlt : i < ds.length
  · refine .inr ⟨wk.go i w5 H5 kp5 hlt, fun H' => ∃ w vh acc accV, CompInv G w1 H1 A (fun acc vh => inRest (finC G m w1 H1 Q) step acc (ds.drop (i + 1)) vh) w vh H' acc accV,
      fun H' ⟨w, vh, acc, accV, I⟩ => ⟨ds.length - (i + 1), by omega, w, vh, acc, accV, rfl, hlt, I⟩, fun x H' hy => ?_⟩
    obtain ⟨rfl, d, ed, rd⟩ := wk.yld i w5 H5 x H' kp5 hlt hy
    have eds : ds.drop i = d :: ds.drop (i + 1) := by
      have := (List.getElem?_eq_some_iff.mp ed).2
      rw [← this]
      exact List.drop_eq_getElem_cons hlt
    have rest := I.rest
    rw [eds] at rest
    obtain ⟨ys, vh6, es, rest⟩ := rest.turn
    rw [← hstep] at es
    unfold comp2Step at es
    cases e1 : setCT t d (wipeE env own) with
    | none => rw [e1] at es; cases es
    | some env1 =>
      rw [e1, Option.bind_some] at es
      have REw : RelE G w5 H' (wipeE env own) (wipe σ own) := RelE.wipe ⟨RE1.len, fun j d e => let ⟨v, e', r⟩ := RE1.at_ j d e; ⟨v, e', I.rep _ _ r⟩⟩ own
      obtain ⟨σ1, RE2, g, hw⟩ := ct_ok REw rd e1
      refine g _ ⟨(hw own ht).trans (wipe_wipe fun _ h => h), w5, env1, vh5, I.R, RE2, ?_⟩
      cases ec : c env1 vh5 with
      | bad => rw [ec] at es; cases es
      | exn => rw [ec] at es; cases es
      | ok k vh7 =>
        rw [ec, toO_ok, Option.bind_some] at es
        dsimp only at es
        intro w7 b H7 L7 R7 hb
        obtain rfl : k = b := hb
        cases k with
        | false =>
          rw [if_neg Bool.false_ne_true] at es ⊢
          obtain ⟨rfl, rfl⟩ : ([] : List D) = ys ∧ vh7 = vh6 := by simpa using es
          rw [List.append_nil] at rest
          exact ⟨w7, vh7, acc, accV, I.skip L7 R7 rest⟩
        | true =>
          rw [if_pos rfl] at es ⊢
          refine ⟨w7, env1, vh7, R7, RE2.le L7, ?_⟩
          cases ei : it1 env1 vh7 with
          | bad => rw [ei] at es; cases es
          | exn => rw [ei] at es; cases es
          | ok ds1 vh8 =>
            rw [ei, toO_ok, Option.bind_some] at es
            dsimp only at es
            intro w8 J1 H8 L8 R8 ⟨keep1, wk1, kp1⟩
            have L78 := L7.trans L8
            refine walk1 (w1 := w1) (H1 := H1) (A := A) (acc0 := acc) (accV0 := accV) (fin := fun acc vh => inRest (finC G m w1 H1 Q) step acc (ds.drop (i + 1)) vh) h0 ht1 (fun acc vh h => inRest.line finC_line h) (RE2.le L78) wk1 kp1
              ⟨R8, L78.pin.trans I.pin, Nat.le_trans I.n L78.n, fun d v q => L78.rep d v (I.rep d v q), I.racc.mono L78.rep, ?_⟩ fun w vh H acc accV I _ => ⟨w, vh, acc, accV, I⟩
            unfold inRest
            rw [es]
            exact rest
  · have e : ds.drop i = [] := List.drop_eq_nil_of_le (Nat.le_of_not_lt hlt)
    rw [e] at I
    have hs : i = ds.length := by omega
    exact .inl ⟨by rw [hs]; exact wk.stop w5 H5 kp5, finC_done h0 ⟨I.R, I.pin, I.n, I.rep, I.racc, inRest.nil I.rest⟩⟩
end
end L3
end
section
set_option Elab.async false
set_option linter.all false
set_option maxRecDepth 100000
set_option maxHeartbeats 4000000
namespace L3
open PySem PySem.Spec L2
open PyProof.Rows hiding St
/-! ### statements -/
inductive SRes where
  | nx (env : Env3) (vh : VH)
  | rt (d : D) (vh : VH)
  | bk (env : Env3) (vh : VH)
  | ct (env : Env3) (vh : VH)
  | exn (c : Nat) (fs : List (Str × D)) (env : Env3) (vh : VH)
  | bad
def bindS {α : Type} : Res α → Env3 → (α → VH → SRes) → SRes
  | .ok a vh, _, k => k a vh
  | .exn c fs vh, env, _ => .exn c fs env vh
  | .bad, _, _ => .bad
@[simp] theorem bindS_ok {α : Type} (a : α) (vh : VH) (env : Env3) (k : α → VH → SRes) : bindS (.ok a vh) env k = k a vh := rfl
@[simp] theorem bindS_exn {α : Type} (c : Nat) (fs : List (Str × D)) (vh : VH) (env : Env3) (k : α → VH → SRes) : bindS (.exn c fs vh) env k = .exn c fs env vh := rfl
@[simp] theorem bindS_bad {α : Type} (env : Env3) (k : α → VH → SRes) : bindS .bad env k = .bad := rfl
def seqS (f g : Env3 → VH → SRes) (env : Env3) (vh : VH) : SRes := match f env vh with
  | .nx e v => g e v
  | r => r
section
variable {G : Gx} {w : Wd} {vh : VH} {H : Hp} {X : Cx} {W : WX}
def PostS (G : Gx) (W : WX) (w : Wd) (H : Hp) (D : Ends) : SRes → Prop
  | .nx env vh => ∀ w' σ' H', Le G w H w' H' → RelH G w' vh H' → RelE G w' H' env σ' → D.nx σ' H'
  | .rt d vh => ∀ w' v H', Le G w H w' H' → RelH G w' vh H' → RepD G w' H' d v → D.rt v H'
  | .bk env vh => ∀ w' σ' H', Le G w H w' H' → RelH G w' vh H' → RelE G w' H' env σ' → D.bk σ' H'
  | .ct env vh => ∀ w' σ' H', Le G w H w' H' → RelH G w' vh H' → RelE G w' H' env σ' → D.ct σ' H'
  | .exn c fs env vh => ∀ w' σ' dx fv H', Le G w H w' H' → RelH G w' vh H' → RelE G w' H' env σ' → H' dx = some (.xd fv) → RepFs G w' H' fs fv → W (.ref (G.ga c)) (some dx) σ' H'
  | .bad => False
theorem PostS.of_le {w1 : Wd} {H1 : Hp} {D : Ends} {r : SRes} (h : PostS G W w H D r) (L : Le G w H w1 H1) : PostS G W w1 H1 D r := by
  cases r with
  | nx env vh => exact fun w' σ' H' l => h w' σ' H' (L.trans l)
  | rt d vh => exact fun w' σ' H' l => h w' σ' H' (L.trans l)
  | bk env vh => exact fun w' σ' H' l => h w' σ' H' (L.trans l)
  | ct env vh => exact fun w' σ' H' l => h w' σ' H' (L.trans l)
  | exn c fs env vh => exact fun w' σ' dx fv H' l => h w' σ' dx fv H' (L.trans l)
  | bad => exact h
theorem PostS.bind {α β : Type} {rep : Wd → Hp → α → β → Prop} {D : Ends} {r : Res α} {env : Env3} {σ : L2.St} {k : α → VH → SRes} (h : PostS G W w H D (bindS r env k)) (RE : RelE G w H env σ) :
    Post G rep (fun c d H' => W c d σ H') w H (fun b H1 => ∃ w1 a vh1, Le G w H w1 H1 ∧ RelH G w1 vh1 H1 ∧ rep w1 H1 a b ∧ PostS G W w1 H1 D (k a vh1)) r := by
  cases r with
  | ok a vh => exact fun w' b H' l r q => ⟨w', a, vh, l, r, q, PostS.of_le h l⟩
  | exn c fs vh => exact fun w' dx fv H' l R hd rf => h w' σ dx fv H' l R (RE.le l) hd rf
  | bad => exact h
theorem PostS.nx {D : Ends} {env : Env3} {σ : L2.St} (h : PostS G W w H D (.nx env vh)) (R : RelH G w vh H) (RE : RelE G w H env σ) : D.nx σ H := h w σ H Le.refl R RE
theorem PostS.rt {D : Ends} {d : L3.D} {v : V} (h : PostS G W w H D (.rt d vh)) (R : RelH G w vh H) (r : RepD G w H d v) : D.rt v H := h w v H Le.refl R r
def tS (G : Gx) (W : WX) (f : Env3 → VH → SRes) : TS := fun D σ H => ∃ w env vh, RelH G w vh H ∧ RelE G w H env σ ∧ PostS G W w H D (f env vh)

def nxS (env : Env3) (vh : VH) : SRes := .nx env vh
theorem ss_nil : PSs X [] (tS G W nxS) := PSs.imp pss_nil fun D σ H ⟨w, env, vh, R, RE, h⟩ => h.nx R RE
theorem ss_pass {pos : Pos} : PS X (.Pass pos) (tS G W nxS) := PS.imp ps_pass fun D σ H ⟨w, env, vh, R, RE, h⟩ => h.nx R RE
theorem ss_cons {st : Stmt} {rest : List Stmt} {f g : Env3 → VH → SRes} (h1 : PS X st (tS G W f)) (h2 : PSs X rest (tS G W g)) : PSs X (st :: rest) (tS G W (seqS f g)) :=
  PSs.imp (pss_cons h1 h2) fun D σ H ⟨w, env, vh, R, RE, h⟩ => ⟨w, env, vh, R, RE, by
    unfold seqS at h
    cases e : f env vh with
    | nx env' vh' =>
      rw [e] at h
      exact fun w' σ' H' l R' RE' => ⟨w', env', vh', R', RE', PostS.of_le h l⟩
    | rt d vh => rw [e] at h; exact h
    | bk env vh => rw [e] at h; exact h
    | ct env vh => rw [e] at h; exact h
    | exn c fs env vh => rw [e] at h; exact h
    | bad => rw [e] at h; exact h⟩
theorem ss_one {st : Stmt} {f : Env3 → VH → SRes} (h1 : PS X st (tS G W f)) : PSs X [st] (tS G W f) := pss_one h1
def exprS (f : Env3 → VH → Res D) (env : Env3) (vh : VH) : SRes := bindS (f env vh) env fun _ vh1 => .nx env vh1
theorem ss_expr {e : Expr} {f : Env3 → VH → Res D} {pos : Pos} (he : PE X e (tE G W f)) (hs : swapsWith e none pos.line X.env = pure false) : PS X (.Expr e pos) (tS G W (exprS f)) :=
  PS.imp (ps_expr he hs) fun D σ H ⟨w, env, vh, R, RE, h⟩ => ⟨w, env, vh, R, RE, (h.bind (rep := RepD G) RE).mono fun v H1 ⟨w1, d, vh1, L1, R1, r1, h1⟩ => h1.nx R1 (RE.le L1)⟩
def retS (f : Env3 → VH → Res D) (env : Env3) (vh : VH) : SRes := bindS (f env vh) env fun d vh1 => .rt d vh1
theorem ss_ret {e : Expr} {f : Env3 → VH → Res D} {pos : Pos} (he : PE X e (tE G W f)) : PS X (.Return (some e) pos) (tS G W (retS f)) :=
  PS.imp (ps_ret he) fun D σ H ⟨w, env, vh, R, RE, h⟩ => ⟨w, env, vh, R, RE, (h.bind (rep := RepD G) RE).mono fun v H1 ⟨w1, d, vh1, L1, R1, r1, h1⟩ => h1.rt R1 r1⟩
def retNS (_ : Env3) (vh : VH) : SRes := .rt .non vh
theorem ss_retN {pos : Pos} : PS X (.Return none pos) (tS G W retNS) := PS.imp ps_retN fun D σ H ⟨w, env, vh, R, RE, h⟩ => h.rt R (by simp only [RepD])
def brkS (env : Env3) (vh : VH) : SRes := .bk env vh
def cntS (env : Env3) (vh : VH) : SRes := .ct env vh
theorem ss_brk {pos : Pos} : PS X (.Break pos) (tS G W brkS) := PS.imp ps_break fun D σ H ⟨w, env, vh, R, RE, h⟩ => h w σ H Le.refl R RE
theorem ss_cnt {pos : Pos} : PS X (.Continue pos) (tS G W cntS) := PS.imp ps_continue fun D σ H ⟨w, env, vh, R, RE, h⟩ => h w σ H Le.refl R RE
def ifS (c : Env3 → VH → Res D) (f g : Env3 → VH → SRes) (env : Env3) (vh : VH) : SRes := bindS (testE c env vh) env fun k vh1 => if k then f env vh1 else g env vh1
theorem ss_if {c : Expr} {a b : List Stmt} {h : Env3 → VH → Res D} {f g : Env3 → VH → SRes} {pos : Pos} (hc : PT X c (tTs G W (testE h))) (ha : PSs X a (tS G W f)) (hb : PSs X b (tS G W g)) : PS X (.If c a b pos) (tS G W (ifS h f g)) :=
  PS.imp (ps_if hc ha hb) fun D σ H ⟨w, env, vh, R, RE, q⟩ => ⟨w, env, vh, R, RE, (q.bind (rep := repT) RE).mono fun v H1 ⟨w1, k, vh1, L1, R1, r1, h1⟩ => by
    obtain rfl : k = v := r1
    cases k with
    | true => rw [if_pos rfl]; exact ⟨w1, env, vh1, R1, RE.le L1, h1⟩
    | false => rw [if_neg Bool.false_ne_true]; exact ⟨w1, env, vh1, R1, RE.le L1, h1⟩⟩

/-! ### targets of a statement -/
def TF := D → Env3 → VH → Option (Env3 × VH)
def tG (G : Gx) (f : TF) : TG := fun v σ H Q => ∃ w env vh d, RelH G w vh H ∧ RelE G w H env σ ∧ RepD G w H d v ∧ ∃ env' vh', f d env vh = some (env', vh') ∧ ∀ w' σ' H', Le G w H w' H' → RelH G w' vh' H' → RelE G w' H' env' σ' → Q σ' H'
def TFs := List D → Env3 → VH → Option (Env3 × VH)
def tGs (G : Gx) (f : TFs) : TGs := fun vs σ H Q => ∃ w env vh ds, RelH G w vh H ∧ RelE G w H env σ ∧ RepDs G w H ds vs ∧ ∃ env' vh', f ds env vh = some (env', vh') ∧ ∀ w' σ' H', Le G w H w' H' → RelH G w' vh' H' → RelE G w' H' env' σ' → Q σ' H'
def nmF (i : Nat) : TF := fun d env vh => some (env.set i (some d), vh)
theorem sg_name {i : Nat} {x : Str} {pos : Pos} (hN : X.N.Nodup) (hi : X.N[i]? = some x) (hx : Loc X.env.scope x) (hf : X.fn x = true ∨ X.env.scope.names.lookup x = some .local) : PG X (.Name x pos) (tG G (nmF i)) :=
  PG.imp (pg_name hN hi hx hf) fun v σ H Q ⟨w, env, vh, d, R, RE, r, env', vh', e, h⟩ => by
    cases e
    exact h w _ H Le.refl R (RE.set i r)
def nilF : TFs := fun ds env vh => match ds with
  | [] => some (env, vh)
  | _ => none
def consF (f : TF) (g : TFs) : TFs := fun ds env vh => match ds with
  | d :: r => (f d env vh).bind fun (env1, vh1) => g r env1 vh1
  | [] => none
theorem sgs_nil : PGs X [] (tGs G nilF) := ⟨fun pins s σ H vs us Q I r ⟨w, env, vh, ds, R, RE, rr, env', vh', e, h⟩ => by
  refine pgs_nil.run pins s σ H vs us Q I r ?_
  cases ds with
  | nil =>
    simp only [RepDs] at rr
    subst rr
    cases e
    exact ⟨rfl, h w σ H Le.refl R RE⟩
  | cons _ _ => cases e⟩
theorem sgs_cons {e : Expr} {es : List Expr} {f : TF} {g : TFs} (h1 : PG X e (tG G f)) (h2 : PGs X es (tGs G g)) (hs : (assignEach (e :: es) X.env).map (·.2) = assign e X.env :: (assignEach es X.env).map (·.2)) : PGs X (e :: es) (tGs G (consF f g)) :=
  ⟨fun pins s σ H vs us Q I r ⟨w, env, vh, ds, R, RE, rr, env', vh', e, h⟩ => by
    refine (pgs_cons h1 h2 hs).run pins s σ H vs us Q I r ?_
    cases ds with
    | nil => cases e
    | cons d ds =>
      simp only [RepDs] at rr
      obtain ⟨v, vs', rfl, r1, r2⟩ := rr
      simp only [consF] at e
      cases e1 : f d env vh with
      | none => rw [e1] at e; cases e
      | some z =>
        obtain ⟨env1, vh1⟩ := z
        rw [e1] at e
        exact ⟨v, vs', rfl, w, env, vh, d, R, RE, r1, env1, vh1, e1, fun w1 σ1 H1 L1 R1 RE1 => ⟨w1, env1, vh1, ds, R1, RE1, r2.mono L1.rep, env', vh', e, fun w2 σ2 H2 L2 R2 RE2 => h w2 σ2 H2 (L1.trans L2) R2 RE2⟩⟩⟩
def tpF (n : Nat) (f : TFs) : TF := fun d env vh => match d with
  | .tup ds => if ds.length = n then f ds env vh else none
  | _ => none
theorem tG_tup {n : Nat} {f : TFs} {K : PySem.W.Frag} (hK : K = G.K) : ∀ v σ H Q, tG G (tpF n f) v σ H Q → gTup K n (tGs G f) v σ H Q :=
  fun v σ H Q ⟨w, env, vh, d, R, RE, r, env', vh', e, h⟩ => by
    cases d with
    | tup ds =>
      have e : (if ds.length = n then f ds env vh else none) = some (env', vh') := e
      split at e
      · rename_i hl
        obtain ⟨p, vs, rfl, h1, h2⟩ := tup_ok r
        exact ⟨p, vs, rfl, by rw [hK]; exact h1, by rw [h2.length]; exact hl, w, env, vh, ds, R, RE, h2, env', vh', e, h⟩
      · cases e
    | _ => cases e
theorem sg_tup {es : List Expr} {k n : Nat} {f : TFs} {pos : Pos} (hK : X.K = G.K) (hc : X.calm = true) (h : PGs X es (tGs G f)) (hn : (assignEach es X.env).length = n) (hst : (assignEach es X.env).findIdx? (·.1) = none) : PG X (.Tuple es k pos) (tG G (tpF n f)) :=
  PG.imp (pg_tup hc h hn hst) (tG_tup hK)
def setIxD (vh : VH) (o i d : D) : Option VH := match o, i with
  | .ref n, .int k => match vh[n]? with
    | some (.lst ds) => (ixN ds.length k).map fun j => vh.set n (.lst (ds.set j d))
    | _ => none
  | _, _ => none
def subF (f g : Env3 → VH → Res D) : TF := fun d env vh => (toO (f env vh)).bind fun (o, vh1) => (toO (g env vh1)).bind fun (i, vh2) => (setIxD vh2 o i d).map fun vh3 => (env, vh3)
theorem setIx_ok {o i d : D} {ov iv dv : V} {vh' : VH} {Q : Hp → Prop} (R : RelH G w vh H) (ro : RepD G w H o ov) (ri : RepD G w H i iv) (rd : RepD G w H d dv) (e : setIxD vh o i d = some vh')
    (h : ∀ w' H', Le G w H w' H' → RelH G w' vh' H' → Q H') : rSetL ov iv dv H Q := by
  unfold setIxD at e
  split at e
  · rename_i n k
    split at e
    · rename_i ds es
      rw [Option.map_eq_some_iff] at e
      obtain ⟨j, ej, rfl⟩ := e
      obtain ⟨_, vs, h1, h2⟩ := R.obj n _ es
      simp only [RepD] at ro ri
      obtain ⟨a, b⟩ := write_lst R es (h2.set j rd)
      exact ⟨w.ρ n, vs, k, j, ro.2, ri, h1, by rw [h2.length]; exact ej, h w _ a b⟩
    · cases e
  · cases e
theorem sg_sub {o i : Expr} {f g : Env3 → VH → Res D} {pos : Pos} (ho : PE X o (tE G W f)) (hi : PE X i (tE G W g))
    (ha : ∀ v, assign (.Subscript o i pos) X.env v = (do
      let ov ← holding [v] (eval o X.env)
      let iv ← holding [v, ov] (eval i X.env)
      standAt pos
      holding [v, ov, iv] (setItem ov iv v)
      release [v, ov, iv] [])) : PG X (.Subscript o i pos) (tG G (subF f g)) :=
  PG.imp (pg_sub ho hi set_list ha) fun v σ H Q ⟨w, env, vh, d, R, RE, r, env', vh', e, h⟩ => by
    unfold subF at e
    cases e1 : f env vh with
    | bad => rw [e1] at e; cases e
    | exn => rw [e1] at e; cases e
    | ok o' vh1 =>
      rw [e1, toO_ok, Option.bind_some] at e
      dsimp only at e
      cases e2 : g env vh1 with
      | bad => rw [e2] at e; cases e
      | exn => rw [e2] at e; cases e
      | ok i' vh2 =>
        rw [e2, toO_ok, Option.bind_some] at e
        dsimp only at e
        rw [Option.map_eq_some_iff] at e
        obtain ⟨vh3, e3, e4⟩ := e
        cases e4
        refine ⟨w, env, vh, R, RE, ?_⟩
        rw [e1]
        intro w1 ov H1 L1 R1 r1
        refine ⟨w1, env, vh1, R1, RE.le L1, ?_⟩
        rw [e2]
        intro w2 iv H2 L2 R2 r2
        exact setIx_ok R2 (L2.rep _ _ r1) r2 ((L1.trans L2).rep _ _ r) e3 fun w' H' L' R' => h w' σ H' ((L1.trans L2).trans L') R' ((RE.le (L1.trans L2)).le L')
def asgS (t : TF) (f : Env3 → VH → Res D) (env : Env3) (vh : VH) : SRes := bindS (f env vh) env fun d vh1 => match t d env vh1 with
  | some (env', vh') => .nx env' vh'
  | none => .bad
theorem asg_post {t : TF} {d : L3.D} {env : Env3} {D : Ends} (h : PostS G W w H D (match t d env vh with | some (env', vh') => .nx env' vh' | none => .bad)) : ∃ env' vh', t d env vh = some (env', vh') ∧ ∀ w' σ' H', Le G w H w' H' → RelH G w' vh' H' → RelE G w' H' env' σ' → D.nx σ' H' := by
  cases e : t d env vh with
  | none => rw [e] at h; exact h.elim
  | some z => obtain ⟨env', vh'⟩ := z; rw [e] at h; exact ⟨env', vh', rfl, h⟩
theorem ss_asg {tg e : Expr} {t : TF} {f : Env3 → VH → Res D} {pos : Pos} (he : PE X e (tE G W f)) (hg : PG X tg (tG G t)) (hs : swapsWithSole [tg] e pos.line X.env = pure false) (hw : swappedStores [tg] e X.env = pure none)
    (h1 : (assignEach [tg] X.env).map (·.2) = [assign tg X.env]) : PS X (.Assign [tg] e pos) (tS G W (asgS t f)) :=
  PS.imp (ps_asg he hg hs hw h1) fun D σ H ⟨w, env, vh, R, RE, h⟩ => ⟨w, env, vh, R, RE, (h.bind (rep := RepD G) RE).mono fun v H1 ⟨w1, d, vh1, L1, R1, r1, h1⟩ => ⟨w1, env, vh1, d, R1, RE.le L1, r1, asg_post h1⟩⟩
theorem ss_set {i : Nat} {x : Str} {e : Expr} {f : Env3 → VH → Res D} {pos pos' : Pos} (hN : X.N.Nodup) (hi : X.N[i]? = some x) (hx : Loc X.env.scope x) (he : PE X e (tE G W f)) (hs : swapsWith e (some (.Name x pos')) pos.line X.env = pure false)
    (hf : X.fn x = true ∨ X.env.scope.names.lookup x = some .local) : PS X (.Assign [.Name x pos'] e pos) (tS G W (asgS (nmF i) f)) :=
  PS.imp (ps_set hN hi hx he hs hf) fun D σ H ⟨w, env, vh, R, RE, h⟩ => ⟨w, env, vh, R, RE, (h.bind (rep := RepD G) RE).mono fun v H1 ⟨w1, d, vh1, L1, R1, r1, h1⟩ => h1.nx R1 ((RE.le L1).set i r1)⟩
theorem par2_env {i j : Nat} {d e : D} {env : Env3} {vh : VH} : tpF 2 (consF (nmF i) (consF (nmF j) nilF)) (.tup [d, e]) env vh = some ((env.set i (some d)).set j (some e), vh) := rfl
theorem tS_par2 {i j : Nat} {fs : Env3 → VH → Res (List D)} : ∀ D σ H, tS G W (asgS (tpF 2 (consF (nmF i) (consF (nmF j) nilF))) (tupE fs)) D σ H → tPar i j (tAs G W fs) D σ H :=
  fun D σ H ⟨w, env, vh, R, RE, h⟩ => by
    refine ⟨w, env, vh, R, RE, ?_⟩
    unfold asgS tupE at h
    cases e : fs env vh with
    | bad => rw [e] at h; exact h.elim
    | exn c fs' vh' => rw [e] at h; exact fun w' dx fv H' l R hd rf => h w' σ dx fv H' l R (RE.le l) hd rf
    | ok ds vh1 =>
      rw [e] at h
      simp only [Res.bind_ok] at h
      intro w1 vs H1 L1 R1 r1
      cases el : lineO ds.length (L3.D.tup ds, vh1) with
      | none => rw [el] at h; exact h.elim
      | some z =>
        obtain ⟨_, rfl⟩ := lineO_some el
        rw [el] at h
        simp only [Res.ofO_some, bindS_ok] at h
        obtain ⟨env', vh', q1, q2⟩ := asg_post h
        match ds, r1, q1 with
        | [], r1, q1 => simp [tpF] at q1
        | [d], r1, q1 => simp [tpF] at q1
        | [d1, d2], r1, q1 =>
          rw [par2_env] at q1
          cases q1
          obtain ⟨u, v, rfl, ru, rv⟩ := rep2 r1
          exact ⟨u, v, rfl, q2 w1 _ H1 L1 R1 (((RE.le L1).set i ru).set j rv)⟩
        | _ :: _ :: _ :: _, r1, q1 => simp [tpF] at q1
/-- a, b = e1, e2 where the model stores from the right -/
theorem ss_par2 {i j : Nat} {x y : Str} {a b : Expr} {fs : Env3 → VH → Res (List D)} {px py pt pos : Pos} {kt k2 : Nat} {pt2 : Pos} (hc : X.calm = true) (hN : X.N.Nodup) (hi : X.N[i]? = some x) (hj : X.N[j]? = some y) (hij : i ≠ j)
    (hx : X.env.scope.names.lookup x = some .local) (hy : X.env.scope.names.lookup y = some .local) (ha : PA X [a, b] (tAs G W fs))
    (hw : swappedStores [.Tuple [.Name x px, .Name y py] kt pt] (.Tuple [a, b] k2 pt2) X.env = pure (some [x, y])) (hs : swapsWithSole [.Tuple [.Name x px, .Name y py] kt pt] (.Tuple [a, b] k2 pt2) pos.line X.env = pure false) :
    PS X (.Assign [.Tuple [.Name x px, .Name y py] kt pt] (.Tuple [a, b] k2 pt2) pos) (tS G W (asgS (tpF 2 (consF (nmF i) (consF (nmF j) nilF))) (tupE fs))) :=
  PS.imp (ps_par hc hN hi hj hij hx hy ha hw hs) tS_par2
theorem ss_par3 {i j l : Nat} {x y z : Str} {a b c : Expr} {fs : Env3 → VH → Res (List D)} {px py pz pt pos : Pos} {kt k2 : Nat} {pt2 : Pos} (hc : X.calm = true) (hN : X.N.Nodup) (hi : X.N[i]? = some x) (hj : X.N[j]? = some y) (hl : X.N[l]? = some z) (hij : i ≠ j) (hil : i ≠ l) (hjl : j ≠ l)
    (hx : X.env.scope.names.lookup x = some .local) (hy : X.env.scope.names.lookup y = some .local) (hz : X.env.scope.names.lookup z = some .local) (ha : PA X [a, b, c] (tAs G W fs))
    (hw : swappedStores [.Tuple [.Name x px, .Name y py, .Name z pz] kt pt] (.Tuple [a, b, c] k2 pt2) X.env = pure (some [x, y, z])) (hs : swapsWithSole [.Tuple [.Name x px, .Name y py, .Name z pz] kt pt] (.Tuple [a, b, c] k2 pt2) pos.line X.env = pure false) :
    PS X (.Assign [.Tuple [.Name x px, .Name y py, .Name z pz] kt pt] (.Tuple [a, b, c] k2 pt2) pos) (tS G W (asgS (tpF 3 (consF (nmF i) (consF (nmF j) (consF (nmF l) nilF)))) (tupE fs))) :=
  PS.imp (ps_par3 hc hN hi hj hl hij hil hjl hx hy hz ha hw hs) fun D σ H ⟨w, env, vh, R, RE, h⟩ => by
    refine ⟨w, env, vh, R, RE, ?_⟩
    unfold asgS tupE at h
    cases e : fs env vh with
    | bad => rw [e] at h; exact h.elim
    | exn c fs' vh' => rw [e] at h; exact fun w' dx fv H' l R hd rf => h w' σ dx fv H' l R (RE.le l) hd rf
    | ok ds vh1 =>
      rw [e] at h
      simp only [Res.bind_ok] at h
      intro w1 vs H1 L1 R1 r1
      cases el : lineO ds.length (L3.D.tup ds, vh1) with
      | none => rw [el] at h; exact h.elim
      | some z =>
        obtain ⟨_, rfl⟩ := lineO_some el
        rw [el] at h
        simp only [Res.ofO_some, bindS_ok] at h
        obtain ⟨env', vh', q1, q2⟩ := asg_post h
        match ds, r1, q1 with
        | [], r1, q1 => simp [tpF] at q1
        | [d], r1, q1 => simp [tpF] at q1
        | [d1, d2], r1, q1 => simp [tpF] at q1
        | [d1, d2, d3], r1, q1 =>
          have q1 : some (((env.set i (some d1)).set j (some d2)).set l (some d3), vh1) = some (env', vh') := q1
          cases q1
          simp only [RepDs] at r1
          obtain ⟨u, _, rfl, ru, v, _, rfl, rv, z', _, rfl, rz, rfl⟩ := r1
          exact ⟨u, v, z', rfl, q2 w1 _ H1 L1 R1 ((((RE.le L1).set i ru).set j rv).set l rz)⟩
        | _ :: _ :: _ :: _ :: _, r1, q1 => simp [tpF] at q1
/-! ### name op= e -/
def augOk : Operator → Bool
  | .Add | .Sub => true
  | _ => false
def augD (op : Operator) (vh : VH) (a b : D) : Option (D × VH) := match op, a, b with
  | .Add, .int i, .int j => some (.int (i + j), vh)
  | .Sub, .int i, .int j => some (.int (i - j), vh)
  | .Add, .str x, .str y => lineO (x.length + y.length) (.str (x ++ y), vh)
  | _, _, _ => none
theorem says_aug {op : Operator} (h : augOk op = true) : ∃ r, OpR X (inplaceOp op) r ∧ OpSays G (augD op) r := by
  cases op <;> try (cases h; done)
  case Add =>
    refine ⟨_, iop_add.or iop_add_str, fun w vh H a b x y Q R ra rb h => ?_⟩
    cases a <;> cases b <;> try exact h.elim
    · simp only [RepD] at ra rb
      exact .inl ⟨_, _, ra, rb, PostO.here h R (by simp only [RepD])⟩
    · simp only [RepD] at ra rb
      obtain ⟨hz, h⟩ := PostO.line h
      exact .inr ⟨_, _, ra, rb, hz, PostO.here h R (by simp only [RepD])⟩
  case Sub =>
    refine ⟨_, iop_sub, fun w vh H a b x y Q R ra rb h => ?_⟩
    cases a <;> cases b <;> try exact h.elim
    simp only [RepD] at ra rb
    exact ⟨_, _, ra, rb, PostO.here h R (by simp only [RepD])⟩
def augS (i : Nat) (op : Operator) (f : Env3 → VH → Res D) (env : Env3) (vh : VH) : SRes := bindS (varE i env vh) env fun a vh1 => bindS (f env vh1) env fun b vh2 => bindS (.ofO (augD op vh2 a b)) env fun c vh3 => .nx (env.set i (some c)) vh3
theorem ss_aug {i : Nat} {x : Str} {e : Expr} {op : Operator} {f : Env3 → VH → Res D} {pos pos' : Pos} (hop : augOk op = true) (hN : X.N.Nodup) (hi : X.N[i]? = some x) (hx : Loc X.env.scope x) (he : PE X e (tE G W f)) (hf : X.fn x = true ∨ X.env.scope.names.lookup x = some .local) :
    PS X (.AugAssign (.Name x pos') op e pos) (tS G W (augS i op f)) := by
  obtain ⟨r, ho, hr⟩ := says_aug (G := G) (X := X) hop
  refine PS.imp (ps_aug (ti := r) hN hi hx he (fun pins s σ H x y v u Q I rx ry q => augR ho I rx ry q) hf) fun D σ H ⟨w, env, vh, R, RE, h⟩ => ?_
  unfold augS varE at h
  split at h
  · rename_i d e
    obtain ⟨v, ev, rv⟩ := RE.at_ i d e
    have h : PostS G W w H D (bindS (f env vh) env fun b vh2 => bindS (.ofO (augD op vh2 d b)) env fun c vh3 => .nx (env.set i (some c)) vh3) := h
    refine ⟨v, ev, w, env, vh, R, RE, (PostS.bind (rep := RepD G) h RE).mono fun u H1 ⟨w1, b, vh1, L1, R1, r1, h1⟩ => ?_⟩
    refine hr w1 vh1 H1 d b v u _ R1 (L1.rep _ _ rv) r1 ?_
    cases eo : augD op vh1 d b with
    | none => rw [eo] at h1; exact h1.elim
    | some z =>
      rw [eo] at h1
      exact fun w2 c H2 L2 R2 r2 => h1 w2 _ H2 L2 R2 (((RE.le L1).le L2).set i r2)
  · exact h.elim

/-! ### loops -/
def whlS (c : Env3 → VH → Res D) (b : Env3 → VH → SRes) : Nat → Env3 → VH → SRes
  | 0, _, _ => .bad
  | n + 1, env, vh => bindS (testE c env vh) env fun k vh1 => if k then (match b env vh1 with
    | .nx e v => whlS c b n e v
    | .ct e v => whlS c b n e v
    | .bk e v => .nx e v
    | r => r) else .nx env vh1
theorem ss_whl {c : Expr} {body : List Stmt} {f : Env3 → VH → Res D} {g : Env3 → VH → SRes} {pos : Pos} (n : Nat) (hp : PassesOwn (model X.prog X.w) X.A X.env X.xe) (hc : PT X c (tTs G W (testE f))) (hb : PSs X body (tS G W g)) : PS X (.While c body [] pos) (tS G W (whlS f g n)) :=
  PS.imp (ps_while hp hc hb) fun D σ H ⟨w, env, vh, R, RE, h⟩ => by
    refine ⟨fun m σ H => ∃ w env vh, RelH G w vh H ∧ RelE G w H env σ ∧ PostS G W w H D (whlS f g m env vh), ⟨n, w, env, vh, R, RE, h⟩, ?_⟩
    rintro m σ H ⟨w, env, vh, R, RE, h⟩
    cases m with
    | zero => exact h.elim
    | succ m =>
      refine ⟨w, env, vh, R, RE, (PostS.bind (rep := repT) h RE).mono fun k' H1 ⟨w1, k, vh1, L1, R1, r1, h1⟩ => ?_⟩
      obtain rfl : k = k' := r1
      cases k with
      | false => rw [if_neg Bool.false_ne_true] at h1 ⊢; exact h1.nx R1 (RE.le L1)
      | true =>
        rw [if_pos rfl] at h1 ⊢
        refine ⟨fun σ H => ∃ w env vh, RelH G w vh H ∧ RelE G w H env σ ∧ PostS G W w H D (whlS f g m env vh), fun σ' H' q => ⟨m, Nat.lt_succ_self m, q⟩, w1, env, vh1, R1, RE.le L1, ?_⟩
        cases e : g env vh1 with
        | nx e2 v => rw [e] at h1; exact fun w' σ' H' L' R' RE' => ⟨w', e2, v, R', RE', PostS.of_le h1 L'⟩
        | ct e2 v => rw [e] at h1; exact fun w' σ' H' L' R' RE' => ⟨w', e2, v, R', RE', PostS.of_le h1 L'⟩
        | bk e2 v => rw [e] at h1; exact h1
        | rt d v => rw [e] at h1; exact h1
        | exn c fs e' v => rw [e] at h1; exact h1
        | bad => rw [e] at h1; exact h1
def forL (t : CT) (b : Env3 → VH → SRes) : List D → Env3 → VH → SRes
  | [], env, vh => .nx env vh
  | d :: ds, env, vh => match setCT t d env with
    | none => .bad
    | some env1 => match b env1 vh with
      | .nx e v => forL t b ds e v
      | .ct e v => forL t b ds e v
      | .bk e v => .nx e v
      | r => r
def forS (t : CT) (it : Env3 → VH → Res (List D)) (b : Env3 → VH → SRes) (env : Env3) (vh : VH) : SRes := bindS (it env vh) env fun ds vh1 => forL t b ds env vh1
theorem tS_for {t : CT} {it : Env3 → VH → Res (List D)} {g : Env3 → VH → SRes} : ∀ D σ H, tS G W (forS t it g) D σ H → tFor (tI G W it) (gCT G.K t) (tS G W g) D σ H :=
  fun D σ H ⟨w, env, vh, R, RE, h⟩ => by
    refine ⟨w, env, vh, R, RE, (PostS.bind (rep := repI G) h RE).mono fun J H1 ⟨w1, ds, vh1, L1, R1, ⟨keep, wk, kp⟩, h1⟩ => ?_⟩
    refine ⟨fun i m σ H => ∃ w env vh, m = ds.length - i ∧ i ≤ ds.length ∧ RelH G w vh H ∧ RelE G w H env σ ∧ keep w H ∧ PostS G W w H D (forL t g (ds.drop i) env vh), ⟨ds.length, w1, env, vh1, by simp, Nat.zero_le _, R1, RE.le L1, kp, by simpa using h1⟩, ?_⟩
    rintro i m σ H ⟨w, env, vh, rfl, hi, R, RE, kp, h⟩
    by_cases hlt : i < ds.length
    · refine .inr ⟨wk.go i w H kp hlt, fun σ H => ∃ w env vh, RelH G w vh H ∧ RelE G w H env σ ∧ keep w H ∧ PostS G W w H D (forL t g (ds.drop (i + 1)) env vh),
        fun σ' H' ⟨w, env, vh, q⟩ => ⟨ds.length - (i + 1), by omega, w, env, vh, rfl, hlt, q⟩, fun x H' hy => ?_⟩
      obtain ⟨rfl, d, ed, rd⟩ := wk.yld i w H x H' kp hlt hy
      have eds : ds.drop i = d :: ds.drop (i + 1) := by
        have := (List.getElem?_eq_some_iff.mp ed).2
        rw [← this]
        exact List.drop_eq_getElem_cons hlt
      rw [eds] at h
      simp only [forL] at h
      cases e1 : setCT t d env with
      | none => rw [e1] at h; exact h.elim
      | some env1 =>
        rw [e1] at h
        dsimp only at h
        obtain ⟨σ1, RE1, gg, _⟩ := ct_ok RE rd e1
        refine gg _ ⟨w, env1, vh, R, RE1, ?_⟩
        cases e : g env1 vh with
        | nx e2 v => rw [e] at h; exact fun w' σ' H' L' R' RE' => ⟨w', e2, v, R', RE', wk.mono _ _ _ _ L'.rep kp, PostS.of_le h L'⟩
        | ct e2 v => rw [e] at h; exact fun w' σ' H' L' R' RE' => ⟨w', e2, v, R', RE', wk.mono _ _ _ _ L'.rep kp, PostS.of_le h L'⟩
        | bk e2 v => rw [e] at h; exact h
        | rt d v => rw [e] at h; exact h
        | exn c fs e' v => rw [e] at h; exact h
        | bad => rw [e] at h; exact h
    · have e : ds.drop i = [] := List.drop_eq_nil_of_le (Nat.le_of_not_lt hlt)
      rw [e] at h
      have hs : i = ds.length := by omega
      exact .inl ⟨by rw [hs]; exact wk.stop w H kp, PostS.nx h R RE⟩
theorem ss_for {tg iter : Expr} {body : List Stmt} {t : CT} {it : Env3 → VH → Res (List D)} {g : Env3 → VH → SRes} {pos : Pos} (hp : PassesOwn (model X.prog X.w) X.A X.env X.xe) (hc : X.calm = true) (hi : PI X tg iter (tI G W it)) (hg : PG X tg (gCT G.K t)) (hb : PSs X body (tS G W g))
    (hs : ∀ x, foldedSetIterable iter X.env x = pure x) : PS X (.For tg iter body [] pos) (tS G W (forS t it g)) :=
  PS.imp (ps_for hp hc hi hg hb hs) tS_for
end
end L3
end
section
set_option Elab.async false
set_option linter.all false
set_option maxRecDepth 100000
set_option maxHeartbeats 8000000
/-! ### set(xs) of a list of ints -/
namespace L3
open PySem PySem.Spec PyProof.Rows L2
section
variable {P : Program} {w : World} {A : Around} {E : Value → Shared → Prop} {s : Shared}
abbrev newSet (w : World) : Obj := { cls := .type "set", dict := none, data := .set #[] 0 (.fresh 0 0 (!w.params.followText "set-order")) }
set_option maxHeartbeats 16000000 in
theorem set_of_list {l : Addr} {items : Array Value} (ns : List Int) {Q : Value → Shared → Prop} (hh : A.handled = none) (hl : s.heap.IsList l items) (hit : IntsAre items.toList ns) (hb : ns.length + 1 < scanBound)
    (h : ∀ (h' : Heap) (tk c : Nat), SetR w h' s.heap.objs.size (fun j => decide (j ∈ ns)) c → c ≤ ns.length → (∀ b o, s.heap.get? b = some o → h'.get? b = some o) → Q (.ref s.heap.objs.size) { s with heap := h', toks := tk }) :
    wpAny (model P w) A (call (.type "set") [.ref l]) Q E s := by
  have hsize : items.size = ns.length := by have q := IntsAre.length hit; rwa [Array.length_toList] at q
  have vals : ∀ (i : Nat) (v : Value), items[i]? = some v → ∃ k t, ns[i]? = some k ∧ v = .int k t := fun i v hv => by
    have hi : i < ns.length := by rw [← hsize]; exact (Array.getElem?_eq_some_iff.mp hv).1
    obtain ⟨t, e⟩ := PyProof.Rows.IntsAre.int_at hit i v (by rw [Array.getElem?_toList]; exact hv)
    refine ⟨ns[i], t, List.getElem?_eq_getElem hi, ?_⟩
    rw [e, List.getD_eq_getElem?_getD, List.getElem?_eq_getElem hi] <;> rfl
  obtain ⟨c, tl, hmro⟩ := F.called_set.mro
  have hmade := F.called_set.made
  have hsub := F.called_set.sub
  refine wpAny_call (codeAny_of_tree ?_)
  show wpAny _ _ (callAny (.type "set") _) _ _ _
  refine wpAny_pure ⟨Code.quiet_builtin _ (by decide +kernel), codeAny_builtin F.entry_type_call ?_⟩
  rw [Around.under_plain (weight_type_call_type "set" [.ref l] []) rfl]
  have h1 := F.called_set.notType
  have h2 := F.called_set.canCreate
  have hct := F.typeCall_set_1 (.ref l)
  repeat (any_goals (first | assumption | wp_step))
  refine codeAny_mono (code_set_led1 (.ref l) (E := E) (Q₁ := fun obj s₁ => obj = .ref s.heap.objs.size ∧ s₁ = { s with heap := s.heap.push (newSet w) }) ⟨rfl, rfl⟩) fun r s₁ hr => ?_
  cases r with
  | error e => exact hr
  | ok fl =>
    cases fl with
    | ret obj =>
      obtain ⟨rfl, rfl⟩ := hr
      have hS : (s.heap.push (newSet w)).get? s.heap.objs.size = some (newSet w) := Heap.get?_push_size _ rfl
      have hT : Shared.TypeIs { s with heap := s.heap.push (newSet w) } (.ref s.heap.objs.size) "set" := ⟨_, hS, rfl⟩
      have hli := F.called_set.init.lookup
      have hbi := F.called_set.init.bind (.ref s.heap.objs.size)
      repeat (any_goals (first | assumption | wp_step))
      refine codeAny_mono (codeAny_call_builtin (R := wants (fun r s₂ => r = .none ∧ ∃ h' tk c, s₂ = { s with heap := h', toks := tk } ∧ SetR w h' s.heap.objs.size (fun j => decide (j ∈ ns)) c ∧ c ≤ ns.length ∧
          (∀ b o, s.heap.get? b = some o → h'.get? b = some o)) E) F.called_set.init.plain F.entry_set_init (check_set_init_1 hT ?_)) fun r₂ s₂ hr₂ => ?_
      · have hlS : l < s.heap.objs.size := by obtain ⟨_, q, _⟩ := hl; exact Heap.lt_size q
        obtain ⟨⟨ocls, odict, odata, oslots⟩, hol, hcl, nl, hdl⟩ := hl
        simp only at hcl hdl
        subst hcl; subst hdl
        have hol' : (s.heap.push (newSet w)).get? l = some { cls := .type "list", dict := odict, data := .seq items nl, slots := oslots } := Heap.get?_push_of_some _ hol
        have hsls := F.sub_list_set
        have hslf := F.sub_list_frozenset
        have hne : (Value.type "list" == Value.type "dict") = false := by decide
        have hl1 : (s.heap.push (newSet w)).IsList l items := ⟨_, hol', rfl, nl, rfl⟩
        unfold Builtin.«set.__init__» noKeywords Builtin.Frozenset.updateFrom
        generalize hPI : pyIter = PI
        wp_walk
        subst hPI
        refine wpAny_pyIter_list hl1 (wpAny_bind (wpAny_runValue ?_))
        have hh3 : A.in1.in1.in1.handled = none := by simp [hh]
        have hz1 : (s.heap.push (newSet w)).objs.size = s.heap.objs.size + 1 := Heap.size_push ..
        have hneI : l ≠ (s.heap.push (newSet w)).objs.size := by rw [hz1]; exact Nat.ne_of_lt (Nat.lt_succ_of_lt hlS)
        have hSf : s.heap.objs.size ∉ [(s.heap.push (newSet w)).objs.size, l] := by
          rw [hz1]
          intro hm
          rcases List.mem_cons.mp hm with q | q
          · exact absurd q (Nat.ne_of_lt (Nat.lt_succ_self _))
          · exact absurd (List.mem_singleton.mp q) (Nat.ne_of_gt hlS)
        refine set_update_ints ((Walks.list hh3 _ l hneI items).toS) s.heap.objs.size hSf ns hsize hb vals (items.size - 0) 0 _ (by omega) (Nat.zero_le _)
          ⟨⟨_, Heap.get?_push_size _ rfl, rfl, rfl⟩, (hl1.push _)⟩ ⟨0, Nat.le_refl 0, setR_new_at (Heap.get?_push_of_some _ hS)⟩ fun s' c' hm hc' hS' => ?_
        obtain ⟨h', g2, d', tk', os'⟩ := s'
        obtain rfl : g2 = s.gens := hm.gens
        obtain rfl : d' = s.drawn := hm.drawn
        obtain rfl : os' = s.os := hm.os
        rw [hsize] at hc'
        refine wpAny_pure (wpAny_pure ⟨rfl, h', tk', c', rfl, hS', hc', fun b o e => ?_⟩)
        have hb0 : b < s.heap.objs.size := Heap.lt_size e
        refine hm.heap b o (fun hmm => ?_) (Heap.get?_push_of_some _ (Heap.get?_push_of_some _ e))
        rcases List.mem_cons.mp hmm with q | q
        · exact absurd q (Nat.ne_of_lt hb0)
        · have q := List.mem_singleton.mp q
          rw [hz1] at q
          exact absurd q (Nat.ne_of_lt (Nat.lt_succ_of_lt hb0))
      · cases r₂ with
        | error e => exact hr₂
        | ok fl2 =>
          cases fl2 with
          | ret r =>
            obtain ⟨rfl, h', tk, c', rfl, g1, g2, g3⟩ := hr₂
            repeat (any_goals (first | assumption | wp_step))
            exact h _ _ _ g1 g2 g3
          | next => exact hr₂.elim
          | brk => exact hr₂.elim
          | cont => exact hr₂.elim
    | next => exact hr.elim
    | brk => exact hr.elim
    | cont => exact hr.elim
end
/-- set(xs), xs a list of ints -/
def rSetL (K : PySem.W.Frag) (w : World) : List V → Hp → VK → Prop := fun vs H Q => ∃ (a : Addr) (ns : List Int), vs = [V.ref a] ∧ SqL K H a (ns.map V.int) ∧ ns.length < 64 ∧ ∀ (p : Addr) (c : Nat), c ≤ ns.length → H p = none → Q (.ref p) (upd H p (SetO w p (fun j => decide (j ∈ ns)) c))
theorem cr_setL {X : Cx} (hc : X.calm = true) : CallR X (.type "set") (rSetL X.K X.w) := by
  intro pins s σ H vs us Q I r h
  obtain ⟨a, ns, rfl, hs, hn, q⟩ := h
  obtain ⟨its, rv, hl, _⟩ := I.list hs
  rw [Vals.ref1 r]
  refine set_of_list ns (I.ok.hd hc) hl.isList (by simpa using rv.ints) (Nat.lt_of_lt_of_le (by omega : ns.length + 1 < 65) (by decide)) fun h' tk c R hc' k => ?_
  exact ⟨.ref s.heap.objs.size, _, I.laid (t' := tk) k (Nat.le_refl _) (setO_new R), rfl, q _ c hc' (I.hok.fresh (Nat.le_refl _))⟩
end L3
end
section
set_option Elab.async false
set_option linter.all false
set_option maxRecDepth 100000
set_option maxHeartbeats 4000000
namespace L3
open PySem PySem.Spec L2
open PyProof.Rows hiding St
/-- what is walked: a list or tuple, range(a), range(a, b) -/
inductive IK where
  | sq | r1 | r2
deriving DecidableEq
def itE (ik : IK) (f g : Env3 → VH → Res D) : Env3 → VH → Res (List D) := match ik with
  | .sq => itemsE f
  | .r1 => rng1E f
  | .r2 => rng2E f g
/-! ### the small syntax tree, and what it does -/
inductive Ex where
  | var (i : Nat)
  | cst (c : Const)
  | glc (k : Nat)
  | bin (o : Operator) (m : Bool) (a b : Ex)
  | neg (a : Ex)
  | not (a : Ex)
  | and (es : List Ex)
  | or (es : List Ex)
  | ite (c a b : Ex)
  | cmp (o : CmpOp) (a b : Ex)
  | cmp2 (o p : CmpOp) (a b c : Ex)
  | tup (es : List Ex)
  | lst (m : Bool) (es : List Ex)
  | idx (a b : Ex)
  | slc (m : Bool) (l u : Bool) (a lo hi : Ex)
  | rev (m : Bool) (a : Ex)
  | call (f : Nat) (es : List Ex)
  | blt (b : Blt) (m : Bool) (es : List Ex)
  | isi (t : Ty) (a : Ex)
  | app (a e : Ex)
  | comp (m : Bool) (own : List (Str × Nat)) (t : CT) (ik : IK) (a b c e : Ex)
  | comp2 (m : Bool) (own : List (Str × Nat)) (t : CT) (ik : IK) (a b c : Ex) (t1 : CT) (ik1 : IK) (a1 b1 c1 e : Ex)
  | yes
  | frz (a : Ex)
  | xat (i : Nat) (f : Str)
  | sset (m : Bool) (a : Ex)
/-- the defs by number: how many parameters, what they do; the module's constants -/
structure Cs where
  n : Nat → Nat
  F : Nat → List D → VH → Res D
  gc : Nat → D
  /-- error classes: how many parameters, which fields they keep (each by the parameter's number, from 1) -/
  cf : Nat → Option (Nat × List (Str × Nat))
  /-- is the one a class under the other -/
  sub : Nat → Nat → Option Bool
  /-- calls left -/
  lv : Nat
  /-- the defs within an except suite -/
  hn : Nat → Nat
  hF : Nat → List D → VH → Res D
  /-- the fields of the caught error -/
  xa : Str → Option D
def insU (k : Int) : List Int → List Int
  | [] => [k]
  | a :: r => if k < a then k :: a :: r else if k = a then a :: r else a :: insU k r
def sortU (ns : List Int) : List Int := ns.foldr insU []
/-- sorted(set(x)) of a list of ints -/
def ssetD (m : Bool) (vh : VH) (x : D) : Option (D × VH) := ((seqOf vh x).bind intsOf).bind fun ns => if ns.length < 64 then some (mkL m ((sortU ns).map D.int) vh) else none
def freezeD (d : D) (vh : VH) : Option (D × VH) := match d with
  | .ref n => match vh[n]? with
    | some (.lst ds) => some (.lst ds, vh.set n .gone)
    | _ => none
  | d => some (d, vh)
mutual
def evalE (C : Cs) : Ex → Env3 → VH → Res D
  | .var i => varE i
  | .cst c => fun _ vh => match cstD c with
    | some d => .ok d vh
    | none => .bad
  | .glc k => fun _ vh => .ok (C.gc k) vh
  | .bin o m a b => fun env vh => (evalE C a env vh).bind fun x vh1 => (evalE C b env vh1).bind fun y vh2 => .ofO (binD m o vh2 x y)
  | .neg a => fun env vh => (evalE C a env vh).bind fun x vh1 => .ofO (negD vh1 x)
  | .not a => notE (evalE C a)
  | .and es => evalAnd C es
  | .or es => evalOr C es
  | .ite c a b => iteE (evalE C c) (evalE C a) (evalE C b)
  | .cmp o a b => cmpE o (evalE C a) (evalE C b)
  | .cmp2 o p a b c => chainE o p (evalE C a) (evalE C b) (evalE C c)
  | .tup es => tupE (evalEs C es)
  | .lst m es => lstE m (evalEs C es)
  | .idx a b => fun env vh => (evalE C a env vh).bind fun x vh1 => (evalE C b env vh1).bind fun y vh2 => .ofO (idxD vh2 x y)
  | .slc m l u a lo hi => slcE m (evalE C a) (if l then some (evalE C lo) else none) (if u then some (evalE C hi) else none)
  | .rev m a => revE m (evalE C a)
  | .call f es => fnE (C.n f) (C.F f) (evalEs C es)
  | .blt b m es => fun env vh => (evalEs C es env vh).bind fun xs vh1 => .ofO (bltD b m vh1 xs)
  | .isi t a => isiE t (evalE C a)
  | .app a e => appE (evalE C a) (evalE C e)
  | .comp m own t ik a b c e => compE m (own.map (·.2)) t (itE ik (evalE C a) (evalE C b)) (testE (evalE C c)) (evalE C e)
  | .comp2 m own t ik a b c t1 ik1 a1 b1 c1 e => comp2E m (own.map (·.2)) t (itE ik (evalE C a) (evalE C b)) (testE (evalE C c)) (t1.slots) t1 (itE ik1 (evalE C a1) (evalE C b1)) (testE (evalE C c1)) (evalE C e)
  | .yes => fun _ vh => .ok (.bl true) vh
  | .frz a => fun env vh => (evalE C a env vh).bind fun x vh1 => .ofO (freezeD x vh1)
  | .xat i f => fun env vh => match env[i]? with
    | some (some (.gl _)) => (match C.xa f with
      | some d => .ok d vh
      | none => .bad)
    | _ => .bad
  | .sset m a => fun env vh => (evalE C a env vh).bind fun x vh1 => .ofO (ssetD m vh1 x)
def evalEs (C : Cs) : List Ex → Env3 → VH → Res (List D)
  | [] => fun _ vh => .ok [] vh
  | e :: es => consE (evalE C e) (evalEs C es)
def evalAnd (C : Cs) : List Ex → Env3 → VH → Res D
  | [] => fun _ _ => .bad
  | [a] => evalE C a
  | a :: b :: r => andE (evalE C a) (evalAnd C (b :: r))
def evalOr (C : Cs) : List Ex → Env3 → VH → Res D
  | [] => fun _ _ => .bad
  | [a] => evalE C a
  | a :: b :: r => orE (evalE C a) (evalOr C (b :: r))
end

/-! ### the check: this tree of the text is that small tree -/
structure Tb where
  /-- is this for code that runs within an except suite -/
  hot : Bool
  /-- is this an except suite itself -/
  xs : Bool
  fn : List (Option Str)
  cl : List (Option Str)
  gc : List Str
  free : List Str
/-- these come to their end within an except suite, too -/
def Blt.hotOk : Blt → Bool
  | .len | .abs | .max2 | .sum | .list | .tuple | .int => true
  | _ => false
def visB (sc : Scope) (x : Str) : Bool := match sc.names.lookup x with
  | some .local => true
  | some .cell => true
  | some .free => true
  | _ => false
def glB (sc : Scope) (x : Str) : Bool := match sc.names.lookup x with
  | some .globalImplicit => true
  | _ => false
def locB (sc : Scope) (x : Str) : Bool := match sc.names.lookup x with
  | some .local => true
  | some .cell => true
  | _ => false
def plainName (x : Str) : Bool := !(x == ("__debug__" : Str)) && !(x == ("__classdict__" : Str)) && !decide (x = ("__name__" : Str))
def isSet : Expr → Bool
  | .Set .. => true
  | _ => false
def isStar : Expr → Bool
  | .Starred .. => true
  | _ => false
def isSlice : Expr → Bool
  | .Slice .. => true
  | _ => false
/-- an expression that is a test as any value is -/
def plainT : Expr → Bool
  | .UnaryOp .Not _ _ => false
  | .BoolOp .. => false
  | .IfExp .. => false
  | .Compare .. => false
  | _ => true
def okT : Ex → Bool
  | _ => true
def ctB (N : List Str) (sc : Scope) : CT → Expr → Bool
  | .nm i, .Name x _ => decide (N[i]? = some x) && locB sc x
  | .tp is, .Tuple es _ _ => decide (is.length = es.length) && (is.zip es).all fun p => match p.2 with
    | .Name x _ => decide (N[p.1]? = some x) && locB sc x
    | _ => false
  | _, _ => false
def slotsB (t : CT) (own : List (Str × Nat)) : Bool := t.slots.all fun i => decide (i ∈ own.map (·.2))
def isYes : Ex → Bool
  | .yes => true
  | _ => false
def ifsB (c : Ex) (ifs : List Expr) (f : Expr → Bool) : Bool := match ifs with
  | [] => isYes c
  | [v] => f v
  | _ => false
def itB (T : Tb) (sc : Scope) (ik : IK) (it : Expr) (f g : Expr → Bool) : Bool := match ik with
  | .sq => !isSet it && f it
  | .r1 => (match it with
    | .Call (.Name x _) [a] [] _ => decide (x = ("range" : Str)) && glB sc x && decide (x ∈ T.free) && !isStar a && f a
    | _ => false)
  | .r2 => (match it with
    | .Call (.Name x _) [a, b] [] _ => decide (x = ("range" : Str)) && glB sc x && decide (x ∈ T.free) && !isStar a && !isStar b && f a && g b
    | _ => false)
mutual
def chkE (T : Tb) (N : List Str) (sc : Scope) : Ex → Expr → Bool
  | .var i, .Name x _ => decide (N[i]? = some x) && visB sc x && plainName x
  | .cst c, .Constant c' _ _ => decide (c = c') && (cstD c).isSome
  | .glc k, .Name x _ => glB sc x && decide (T.gc[k]? = some x) && plainName x
  | .bin o _ a b, .BinOp a' o' b' _ => decide (o = o') && binOk o && chkE T N sc a a' && chkE T N sc b b'
  | .neg a, .UnaryOp .USub a' _ => chkE T N sc a a'
  | .not a, .UnaryOp .Not a' _ => chkE T N sc a a' && okT a
  | .and es, .BoolOp .And vs _ => decide (2 ≤ vs.length) && es.all okT && chkEs T N sc es vs
  | .or es, .BoolOp .Or vs _ => decide (2 ≤ vs.length) && es.all okT && chkEs T N sc es vs
  | .ite c a b, .IfExp c' a' b' _ => okT c && chkE T N sc c c' && chkE T N sc a a' && chkE T N sc b b'
  | .cmp o a b, .Compare a' [o'] [b'] _ => decide (o = o') && !isSet b' && chkE T N sc a a' && chkE T N sc b b'
  | .cmp2 o p a b c, .Compare a' [o', p'] [b', c'] _ => decide (o = o') && decide (p = p') && !isSet c' && chkE T N sc a a' && chkE T N sc b b' && chkE T N sc c c'
  | .tup es, .Tuple vs _ _ => chkEs T N sc es vs
  | .lst _ es, .List vs _ => chkEs T N sc es vs
  | .idx a b, .Subscript a' b' _ => !isSlice b' && chkE T N sc a a' && chkE T N sc b b'
  | .slc _ l u a lo hi, .Subscript a' (.Slice lo' hi' none _) _ => chkE T N sc a a' && (match l, lo' with
      | true, some x => chkE T N sc lo x
      | false, none => true
      | _, _ => false) && (match u, hi' with
      | true, some x => chkE T N sc hi x
      | false, none => true
      | _, _ => false)
  | .rev _ a, .Subscript a' (.Slice none none (some (.UnaryOp .USub (.Constant (.int i) _ _) _)) _) _ => decide (i = 1) && chkE T N sc a a'
  | .call f es, .Call (.Name x _) (v :: vs) [] _ => glB sc x && decide (T.fn[f]? = some (some x)) && plainName x && chkEs T N sc es (v :: vs)
  | .blt b _ es, .Call (.Name x _) (v :: vs) [] _ => (!T.hot || b.hotOk) && decide (x = b.name) && glB sc x && decide (x ∈ T.free) && plainName x && chkEs T N sc es (v :: vs)
  | .isi t a, .Call (.Name x _) [a', .Name y _] [] _ => decide (x = ("isinstance" : Str)) && decide (y = t.bname) && decide (t ≠ .non) && glB sc x && glB sc y && decide (x ∈ T.free) && decide (y ∈ T.free) && !isStar a' && chkE T N sc a a'
  | .app a e, .Call (.Attribute (.Name x px) m apos) [e'] [] cpos => decide (m = ("append" : Str)) && (apos.endLine == cpos.line) && chkE T N sc a (.Name x px) && !isStar e' && chkE T N sc e e'
  | .comp _ own t ik a b c e, .ListComp e' [⟨tg, it', ifs, as⟩] sc' _ => decide (as = 0) && blkC N sc sc' own && ctB N sc' t tg && slotsB t own && itB T sc ik it' (fun v => chkE T N sc a v) (fun v => chkE T N sc b v) && okT c &&
      ifsB c ifs (fun v => chkE T N (relS sc' sc) c v) && chkE T N (relS sc' sc) e e'
  | .comp2 _ own t ik a b c t1 ik1 a1 b1 c1 e, .ListComp e' [⟨tg, it', ifs, as⟩, ⟨tg1, it1', ifs1, as1⟩] sc' _ => decide (as = 0) && decide (as1 = 0) && blkC N sc sc' own && ctB N sc' t tg && slotsB t own && ctB N sc' t1 tg1 && slotsB t1 own &&
      itB T sc ik it' (fun v => chkE T N sc a v) (fun v => chkE T N sc b v) && okT c && ifsB c ifs (fun v => chkE T N (relS sc' sc) c v) &&
      itB T (relS sc' sc) ik1 it1' (fun v => chkE T N (relS sc' sc) a1 v) (fun v => chkE T N (relS sc' sc) b1 v) && okT c1 && ifsB c1 ifs1 (fun v => chkE T N (relS sc' sc) c1 v) && chkE T N (relS sc' sc) e e'
  | .frz a, e => plainT e && chkE T N sc a e
  | .xat i f, .Attribute (.Name x _) g _ => T.xs && decide (g = f) && decide (N[i]? = some x) && visB sc x && plainName x
  | .sset _ a, .Call (.Name x _) [.Call (.Name y _) [a'] [] _] [] _ => !T.hot && decide (x = ("sorted" : Str)) && decide (y = ("set" : Str)) && glB sc x && glB sc y && decide (x ∈ T.free) && decide (y ∈ T.free) && !isStar a' && chkE T N sc a a'
  | _, _ => false
def chkEs (T : Tb) (N : List Str) (sc : Scope) : List Ex → List Expr → Bool
  | [], [] => true
  | e :: es, v :: vs => !isStar v && chkE T N sc e v && chkEs T N sc es vs
  | _, _ => false
end
end L3
end
section
set_option Elab.async false
set_option linter.all false
set_option maxRecDepth 100000
set_option maxHeartbeats 8000000
namespace L3
open PySem PySem.Spec L2
open PyProof.Rows hiding St
/-! ### sorted(set(xs)) -/
theorem insU_mem (k j : Int) : ∀ l : List Int, j ∈ insU k l ↔ j = k ∨ j ∈ l
  | [] => by simp [insU]
  | a :: r => by
    unfold insU
    split
    · simp
    · split
      · rename_i h; subst h; simp
      · rw [List.mem_cons, insU_mem k j r, List.mem_cons]
        constructor
        · rintro (h | h | h)
          · exact .inr (.inl h)
          · exact .inl h
          · exact .inr (.inr h)
        · rintro (h | h | h)
          · exact .inr (.inl h)
          · exact .inl h
          · exact .inr (.inr h)
theorem insU_up (k : Int) : ∀ l : List Int, l.Pairwise (· < ·) → (insU k l).Pairwise (· < ·)
  | [], _ => by simp [insU]
  | a :: r, h => by
    have h := List.pairwise_cons.mp h
    unfold insU
    split
    · rename_i hk
      exact List.pairwise_cons.mpr ⟨fun b hb => (List.mem_cons.mp hb).elim (fun e => e ▸ hk) fun hb => Int.lt_trans hk (h.1 b hb), List.pairwise_cons.mpr h⟩
    · split
      · exact List.pairwise_cons.mpr h
      · rename_i h1 h2
        refine List.pairwise_cons.mpr ⟨fun b hb => ?_, insU_up k r h.2⟩
        rcases (insU_mem k b r).mp hb with e | hb
        · subst e; omega
        · exact h.1 b hb
theorem sortU_mem (j : Int) : ∀ l : List Int, j ∈ sortU l ↔ j ∈ l
  | [] => by simp [sortU]
  | a :: r => by
    show j ∈ insU a (sortU r) ↔ _
    rw [insU_mem, sortU_mem j r, List.mem_cons]
theorem sortU_up : ∀ l : List Int, (sortU l).Pairwise (· < ·)
  | [] => List.Pairwise.nil
  | a :: r => insU_up a (sortU r) (sortU_up r)
theorem up_eq : ∀ {a b : List Int}, a.Pairwise (· < ·) → b.Pairwise (· < ·) → (∀ k, k ∈ a ↔ k ∈ b) → a = b
  | [], [], _, _, _ => rfl
  | [], y :: b, _, _, h => by have := (h y).mpr List.mem_cons_self; simp at this
  | x :: a, [], _, _, h => by have := (h x).mp List.mem_cons_self; simp at this
  | x :: a, y :: b, ha, hb, h => by
    have ha := List.pairwise_cons.mp ha
    have hb := List.pairwise_cons.mp hb
    have e : x = y := by
      rcases List.mem_cons.mp ((h x).mp List.mem_cons_self) with e | m
      · exact e
      · rcases List.mem_cons.mp ((h y).mpr List.mem_cons_self) with e | m2
        · exact e.symm
        · have := hb.1 x m; have := ha.1 y m2; omega
    subst e
    refine congrArg (x :: ·) (up_eq ha.2 hb.2 fun k => ⟨fun hk => ?_, fun hk => ?_⟩)
    · rcases List.mem_cons.mp ((h k).mp (List.mem_cons_of_mem _ hk)) with e | m
      · subst e; have := ha.1 _ hk; omega
      · exact m
    · rcases List.mem_cons.mp ((h k).mpr (List.mem_cons_of_mem _ hk)) with e | m
      · subst e; have := hb.1 _ hk; omega
      · exact m
section
variable {G : Gx} {X : Cx} {W : WX}
theorem rep_ofInts {w : Wd} {H : Hp} : ∀ ns : List Int, RepDs G w H (ns.map D.int) (ns.map V.int)
  | [] => .nil
  | n :: ns => .cons (by simp only [RepD]) (rep_ofInts ns)
theorem boot_sorted : bootBuiltins "sorted" = some (.builtin "sorted") := by first | boot_by_name | rfl | kernel_rfl
theorem boot_set : bootBuiltins "set" = some (.type "set") := by first | boot_by_name | rfl | kernel_rfl
theorem se_sset {m : Bool} {a : Expr} {f : Env3 → VH → Res D} {p p2 pos pos2 : Pos} (hc : X.calm = true) (hK : X.K = G.K) (hg1 : Gl X "sorted") (hm1 : X.mg "sorted" = none) (hg2 : Gl X "set") (hm2 : X.mg "set" = none) (ha : PE X a (tE G W f)) (hs : starEach [a] X.env = [(false, eval a X.env)]) :
    PE X (.Call (.Name "sorted" p) [.Call (.Name "set" p2) [a] [] pos2] [] pos) (tE G W (fun env vh => (f env vh).bind fun x vh1 => .ofO (ssetD m vh1 x))) := by
  have inner := pe_callTy (p := p2) (pos := pos2) (cr_setL hc) hg2 hm2 boot_set (pa_cons ha pa_nil hs) (by decide) (by decide) hs rfl
  refine PE.imp (pe_callB (p := p) (pos := pos) (cr_sortedSet hc) hg1 hm1 boot_sorted (pa_cons inner pa_nil rfl) (by decide) (by decide) rfl rfl) fun σ H Q ⟨w, env, vh, R, RE, h⟩ => ?_
  refine ⟨w, env, vh, R, RE, (Post.bind (rep := RepD G) h).mono fun x H1 ⟨w1, d, vh1, L1, R1, r1, h1⟩ => ?_⟩
  have h1 := PostO.of h1
  unfold ssetD at h1
  cases e : (seqOf vh1 d).bind intsOf with
  | none => rw [e] at h1; exact h1.elim
  | some ns =>
  rw [e, Option.bind_some] at h1
  obtain ⟨q, rfl, hs⟩ := ints_ok R1 r1 e
  split at h1
  rotate_left
  · exact h1.elim
  rename_i hlt
  refine ⟨q, ns, rfl, by rw [hK]; exact hs, hlt, fun s c hcn hsn => ⟨s, _, c, rfl, upd_same, by omega, fun ms t hp hm hl ht => ?_⟩⟩
  have em : ms = sortU ns := up_eq hp (sortU_up ns) fun k => by rw [hm k, sortU_mem]; simp
  subst em
  obtain ⟨L2', R2⟩ := alloc_any R1 (SetO X.w s (fun j => decide (j ∈ ns)) c) hsn
  exact PostO.mkL (fun w' v H' l => h1 w' v H' (L2'.trans l)) R2 (rep_ofInts _) t ht
end
end L3
end
section
set_option Elab.async false
set_option linter.all false
set_option maxRecDepth 100000
set_option maxHeartbeats 8000000
namespace L3
open PySem PySem.Spec L2 L2H
open PyProof.Rows hiding St
theorem an {a b : Bool} (h : (a && b) = true) : a = true ∧ b = true := Bool.and_eq_true_iff.mp h
theorem dc {p : Prop} [Decidable p] (h : decide p = true) : p := of_decide_eq_true h
theorem nt {a : Bool} (h : (!a) = true) : a = false := by simpa using h
theorem andI {a b : Bool} (h : (!a && b) = true) : a = false ∧ b = true := by
  rw [Bool.and_eq_true, Bool.not_eq_true'] at h; exact h
/-- within an except suite, or not -/
def Md : Bool → Nat → Cx → Prop
  | false, k, X => X.calm = true ∧ Room k X.A
  | true, k, X => HotC X ∧ RoomH k X.A
/-- a def, for code of that mode -/
def FnM (ho : Bool) (P : Program) (w : World) (K : PySem.W.Frag) (mg : Str → Option Value) (base : Heap) (CX : CXT) (k : Nat) (f : Addr) (fd : FuncData) (ps : List Str) (sp : Sp) : Prop := match ho with
  | false => FnOk P w K mg base CX k f fd ps sp
  | true => FnH P w K mg base CX k f fd ps sp
/-- a comprehension's block, for code of that mode -/
def blkM (ho : Bool) (X : Cx) (s : Shared) (H : Hp) (scope : Scope) (cenv : Env) (fp : List Addr) : Cx := match ho with
  | false => X.blk s H scope cenv fp
  | true => blkP X s H scope cenv fp
/-- an iterable, for code of that mode -/
def PIM (ho : Bool) (X : Cx) (tg it : Expr) (wi : TI) : Prop := match ho with
  | false => PI X tg it wi
  | true => PIH X tg it wi
/-- the context bears the caught error -/
def XaOk (G : Gx) (C : Cs) (X : Cx) : Prop := ∃ (x : Addr × Addr × List (Str × V)) (oe : Obj) (Cx : Addr), G.xa = some x ∧ (x.1, oe) ∈ X.pn ∧ Zc (.ref Cx) (some x.2.1) oe ∧ (∃ vs, oe.data = .fields vs) ∧
  ∀ f d, C.xa f = some d → XfC G.K Cx ∧ PySem.W.findIn G.K (.ref Cx) f = some none ∧ ∃ v, x.2.2.lookup f = some v ∧ ∀ w H, RepD G w H d v
/-- the context is one of this def -/
structure Gd (G : Gx) (k : Nat) (T : Tb) (C : Cs) (N : List Str) (sc : Scope) (X : Cx) : Prop where
  P : X.prog = G.P
  w : X.w = G.w
  K : X.K = G.K
  mg : X.mg = G.mg
  base : X.base = G.base
  nN : X.N = N
  sc : X.env.scope = sc
  md : Md T.hot k X
  xs : T.xs = true → T.hot = true ∧ XaOk G C X
  nd : N.Nodup
section
variable {G : Gx} {k : Nat} {ho : Bool} {N : List Str} {T : Tb} {C : Cs} {X : Cx} {W : WX} {sc : Scope}
theorem Gd.blk (g : Gd G k T C N sc X) (s : Shared) (H : Hp) (scope : Scope) (C0 : Addr) (cl : List (Str × Addr)) (fp : List Addr) : Gd G k T C N (relS scope sc) (blkM T.hot X s H scope (compEnvC scope cl C0 X.env) fp) := by
  obtain ⟨h1, h2, h3, h4, h5, h6, h7, h8, h10, h9⟩ := g
  subst h7
  cases ho : T.hot with
  | false => rw [ho] at h8; exact ⟨h1, h2, h3, h4, h5, h6, rfl, by rw [ho]; exact h8, fun z => absurd (h10 z).1 (by rw [ho]; exact Bool.false_ne_true), h9⟩
  | true => rw [ho] at h8; exact ⟨h1, h2, h3, h4, h5, h6, rfl, by rw [ho]; exact h8, fun z => h10 z, h9⟩
theorem Gd.hu (g : Gd G k T C N sc X) : X.A.units + 65 < cLine := by
  have h := g.md
  revert h
  cases T.hot with
  | false => intro h; have := h.2.un; omega
  | true => intro h; have := h.2.un; omega
theorem Gd.nd' (g : Gd G k T C N sc X) : X.N.Nodup := by rw [g.nN]; exact g.nd
theorem visB_ok {x : Str} (h : visB sc x = true) : Vis sc x := by
  unfold visB at h
  unfold Vis
  split at h <;> simp_all
theorem glB_ok {x : Str} (g : Gd G k T C N sc X) (h : glB sc x = true) : Gl X x := by
  unfold glB at h
  show X.env.scope.names.lookup x = some .globalImplicit
  rw [g.sc]
  split at h <;> simp_all
theorem locB_ok {x : Str} (h : locB sc x = true) : L2.Loc sc x := by
  unfold locB at h
  unfold L2.Loc
  split at h <;> simp_all
theorem plain_ok {x : Str} (h : plainName x = true) : (x == ("__debug__" : Str)) = false ∧ (x == ("__classdict__" : Str)) = false ∧ x ≠ "__name__" := by
  unfold plainName at h
  simp only [Bool.and_eq_true, Bool.not_eq_true', decide_eq_false_iff_not] at h
  exact ⟨h.1.1, h.1.2, h.2⟩
theorem isTrue_plain' : ∀ {pe : Expr}, plainT pe = true → ∀ (env : Env) (whole : Sem Value), isTrue pe env whole = (do let v ← whole; standAt pe.pos; holding [v] (truthy v))
  | .UnaryOp op a p, h => by cases op <;> first | (cases h; done) | (intro _ _; rfl)
  | .BoolOp .., h => by cases h
  | .IfExp .., h => by cases h
  | .Compare .., h => by cases h
  | .NamedExpr .., _ => fun _ _ => rfl
  | .BinOp .., _ => fun _ _ => rfl
  | .Lambda .., _ => fun _ _ => rfl
  | .Dict .., _ => fun _ _ => rfl
  | .Set .., _ => fun _ _ => rfl
  | .ListComp .., _ => fun _ _ => rfl
  | .SetComp .., _ => fun _ _ => rfl
  | .DictComp .., _ => fun _ _ => rfl
  | .GeneratorExp .., _ => fun _ _ => rfl
  | .Await .., _ => fun _ _ => rfl
  | .Yield .., _ => fun _ _ => rfl
  | .YieldFrom .., _ => fun _ _ => rfl
  | .Call .., _ => fun _ _ => rfl
  | .FormattedValue .., _ => fun _ _ => rfl
  | .JoinedStr .., _ => fun _ _ => rfl
  | .Constant .., _ => fun _ _ => rfl
  | .Attribute .., _ => fun _ _ => rfl
  | .Subscript .., _ => fun _ _ => rfl
  | .Starred .., _ => fun _ _ => rfl
  | .Name .., _ => fun _ _ => rfl
  | .List .., _ => fun _ _ => rfl
  | .Tuple .., _ => fun _ _ => rfl
  | .Slice .., _ => fun _ _ => rfl
theorem notSet_folded {e : Expr} (h : isSet e = false) (env : Env) (x : Value) : foldedSetIterable e env x = pure x := by
  cases e <;> first | (cases h; done) | rfl
theorem notSet_marks {op : CmpOp} {e : Expr} (h : isSet e = false) : behindInMarks op e = false := by
  cases e <;> first | (cases h; done) | rfl
theorem notSlice_plain {e : Expr} (h : isSlice e = false) : PlainIx e := by
  cases e <;> first | (cases h; done) | (intro _ _; rfl)
theorem star_cons {e : Expr} (h : isStar e = false) (es : List Expr) (env : Env) : starEach (e :: es) env = (false, eval e env) :: starEach es env := by
  cases e <;> first | (cases h; done) | rfl
theorem chkEs_star : ∀ {es : List Ex} {vs : List Expr}, chkEs T N sc es vs = true → ∀ v ∈ vs, isStar v = false
  | [], [], _, v, hv => by cases hv
  | [], _ :: _, h, _, _ => by simp [chkEs] at h
  | _ :: _, [], h, _, _ => by simp [chkEs] at h
  | e :: es, v :: vs, h, u, hu => by
    simp only [chkEs, Bool.and_eq_true, Bool.not_eq_true'] at h
    rcases List.mem_cons.mp hu with rfl | hu
    · exact h.1.1
    · exact chkEs_star h.2 u hu
theorem backTo_any (pos : Pos) : ∀ {vs : List Expr} (env : Env), (∀ v ∈ vs, isStar v = false) → (backTo pos (starEach vs env)).any (·.1) = false := fun {vs} env h => by
  induction vs with
  | nil => rfl
  | cons v vs ih =>
    rw [star_cons (h v List.mem_cons_self)]
    have := ih fun u hu => h u (List.mem_cons_of_mem _ hu)
    simpa [backTo] using this

/-! ### targets -/
theorem pg_tupM {es : List Expr} {k' : Nat} {t : TGs} {n : Nat} {pos : Pos} (hc : Md ho k X) (h : PGs X es t) (hn : (assignEach es X.env).length = n) (hst : (assignEach es X.env).findIdx? (·.1) = none) : PG X (.Tuple es k' pos) (gTup X.K n t) := by
  cases ho with
  | false => exact pg_tup hc.1 h hn hst
  | true => exact pg_tupH hc.1 h hn hst
theorem assign_star {e : Expr} (h : isStar e = false) (es : List Expr) (env : Env) : assignEach (e :: es) env = (false, assign e env) :: assignEach es env := by
  cases e <;> first | (cases h; done) | rfl
theorem assign_names : ∀ {es : List Expr} (env : Env), (∀ e ∈ es, isStar e = false) → (assignEach es env).length = es.length ∧ (assignEach es env).findIdx? (·.1) = none
  | [], env, _ => ⟨rfl, rfl⟩
  | e :: es, env, h => by
    obtain ⟨h1, h2⟩ := assign_names (es := es) env fun u hu => h u (List.mem_cons_of_mem _ hu)
    rw [assign_star (h e List.mem_cons_self)]
    refine ⟨by rw [List.length_cons, List.length_cons, h1], ?_⟩
    rw [List.findIdx?_cons]
    simp [h2]
/-- what a name must be to be stored -/
def StoreAt (X : Cx) (x : Str) : Prop := L2.Loc X.env.scope x ∧ (X.fn x = true ∨ X.env.scope.names.lookup x = some .local)
theorem pgs_names {st : Str → Prop} (hst : ∀ x, st x → StoreAt X x) (hN : X.N.Nodup) : ∀ (is : List Nat) (es : List Expr), is.length = es.length → (∀ p ∈ is.zip es, ∃ x q, p.2 = .Name x q ∧ X.N[p.1]? = some x ∧ st x) → PGs X es (gNames is) ∧ ∀ e ∈ es, isStar e = false
  | [], [], _, _ => ⟨pgs_nil, fun e he => by cases he⟩
  | [], _ :: _, h, _ => by simp at h
  | _ :: _, [], h, _ => by simp at h
  | i :: is, e :: es, hl, h => by
    obtain ⟨x, q, e1, e2, e3⟩ := h (i, e) (by simp)
    obtain rfl : e = .Name x q := e1
    obtain ⟨h1, h2⟩ := pgs_names hst hN is es (by simpa using hl) fun p hp => h p (by simp [hp])
    refine ⟨pgs_cons (pg_name hN e2 (hst x e3).1 (hst x e3).2) h1 rfl, fun u hu => ?_⟩
    rcases List.mem_cons.mp hu with rfl | hu
    · rfl
    · exact h2 u hu
theorem ct_pg {st : Str → Prop} (hst : ∀ x, st x → StoreAt X x) (hN : X.N.Nodup) (hc : Md ho k X) (hK : X.K = G.K) {t : CT} {tg : Expr} {sc' : Scope} (hsc : ∀ x, locB sc' x = true → st x) (h : ctB X.N sc' t tg = true) : PG X tg (gCT G.K t) := by
  cases t with
  | nm i =>
    cases tg <;> try exact (Bool.false_ne_true h).elim
    simp only [ctB, Bool.and_eq_true, decide_eq_true_eq] at h
    obtain ⟨a, b⟩ := hst _ (hsc _ h.2)
    exact pg_name hN h.1 a b
  | tp is =>
    cases tg <;> try exact (Bool.false_ne_true h).elim
    rename_i es kk pos
    simp only [ctB, Bool.and_eq_true, decide_eq_true_eq, List.all_eq_true] at h
    obtain ⟨h1, h2⟩ := pgs_names (st := st) hst hN is es h.1 fun p hp => by
      have q := h.2 p hp
      split at q
      · rename_i x px ex
        simp only [Bool.and_eq_true, decide_eq_true_eq] at q
        exact ⟨x, px, ex, q.1, hsc _ q.2⟩
      · cases q
    obtain ⟨h3, h4⟩ := assign_names X.env h2
    rw [← hK]
    exact pg_tupM hc h1 (by rw [h3]; exact h.1.symm) h4
/-- a field of the caught error -/
theorem pe_xat (g : Gd G k T C N sc X) (hx : T.xs = true) {i : Nat} {f x : Str} {px pos : Pos} (hi : N[i]? = some x) (hv : visB sc x = true) (hp : plainName x = true) : PE X (.Attribute (.Name x px) f pos) (tE G W (evalE C (.xat i f))) := by
  obtain ⟨_, x0, oe, Cx, hxa, hpn, hz, ⟨vs, hd⟩, hf⟩ := g.xs hx
  refine ⟨fun pins s σ H Q I ⟨w, env, vh, R, RE, h⟩ => ?_⟩
  simp only [evalE] at h
  split at h <;> try exact h.elim
  rename_i j e
  split at h <;> try exact h.elim
  rename_i d ed
  obtain ⟨v0, e0, r0⟩ := RE.at_ i _ e
  simp only [RepD] at r0
  obtain ⟨x1, h1, rfl⟩ := r0
  rw [hxa] at h1
  cases h1
  obtain ⟨p1, p2, p3⟩ := plain_ok hp
  have pv : PE X (.Name x px) (tVar i) := pe_var (by rw [g.nN]; exact hi) (by rw [g.sc]; exact visB_ok hv) p1 p2
  refine attr_of rfl (thn (pv.run pins s σ H (fun u H1 => u = .ref x0.1 ∧ H1 = H) I ⟨_, e0, rfl, rfl⟩) fun u s1 ⟨y, H1, I1, rx, ey, eH⟩ => ?_)
  subst ey eH
  obtain rfl : u = Value.ref x0.1 := rx
  obtain ⟨T0, hno, v, hl, hr⟩ := hf f d ed
  obtain ⟨ha, _⟩ := I1.pin (x0.1, oe) (List.mem_append_left _ hpn)
  have hdd : H1 x0.2.1 = some (.xd x0.2.2) := R.pinH _ _ (R.xp x0 hxa)
  have hob : ObjOk X.prog X.w H1 s1.heap x0.2.1 (.xd x0.2.2) := I1.hok _ _ hdd
  obtain ⟨mA, hns, hrl⟩ := hob
  obtain ⟨od, ho, hlk⟩ := lookIn_ns hns
  obtain ⟨u, hu, ru⟩ := RelO.some_of (v := v) (o := mA f) (by rw [← hl]; exact hrl f)
  have J : PySem.W.InstAt s1.heap x0.1 oe Cx (some od) := ⟨ha, hz.1, by unfold PySem.W.notCls; rw [hd] <;> rfl, by rw [hz.2]; exact ho⟩
  rw [← g.K] at T0 hno
  exact HandSPX.exc_get I1.kIn J T0.ga T0.gg T0.exC (PySem.W.findObj_own T0.hdC hno rfl (by rw [hlk, hu])) (handed_of ru) ⟨v, H1, I1.tok _, ru, Post.here h R (hr w H1)⟩
theorem blk_env (ho : Bool) (X : Cx) (s : Shared) (H : Hp) (scope : Scope) (cenv : Env) (fp : List Addr) : (blkM ho X s H scope cenv fp).env = cenv ∧ (blkM ho X s H scope cenv fp).N = X.N ∧ (blkM ho X s H scope cenv fp).fn = fun x => scope.names.lookup x == some NameKind.cell := by
  cases ho <;> exact ⟨rfl, rfl, rfl⟩
theorem blk_store {scope : Scope} {s : Shared} {H : Hp} {C0 : Addr} {cl : List (Str × Addr)} {fp : List Addr} (x : Str) (h : locB scope x = true) : StoreAt (blkM ho X s H scope (compEnvC scope cl C0 X.env) fp) x := by
  have hl := locB_ok h
  obtain ⟨e1, e2, e3⟩ := blk_env ho X s H scope (compEnvC scope cl C0 X.env) fp
  have e : (blkM ho X s H scope (compEnvC scope cl C0 X.env) fp).env.scope = relS scope X.env.scope := by rw [e1]; rfl
  unfold StoreAt
  rw [e, e3]
  rcases hl with hl | hl
  · have := lookup_relS_keep (sc := X.env.scope) (by decide) hl
    exact ⟨.inl this, .inr this⟩
  · have := lookup_relS_keep (sc := X.env.scope) (by decide) hl
    refine ⟨.inr this, .inl ?_⟩
    show (scope.names.lookup x == some NameKind.cell) = true
    rw [hl]; rfl
end
end L3
end
section
set_option Elab.async false
set_option linter.all false
set_option maxRecDepth 100000
set_option maxHeartbeats 8000000
namespace L3
open PySem PySem.Spec PyProof.Rows L2 NdefX
/-! ### an __init__ that says super().__init__(e) first, its class over ValueError -/
/-- what the written part tells of it: C the class, cc the cell of __class__, cda the code object -/
structure SupOk (P : Program) (K : PySem.W.Frag) (C cc cda : Addr) : Prop where
  T : OexC K C
  cell : ∃ cl cld csl, K.lookup cc = some ⟨cl, cld, .cell (some (.ref C)), csl⟩
  code : ∃ ccl cdd vs ccs file tf, K.lookup cda = some ⟨ccl, cdd, .fields vs, ccs⟩ ∧ vs[2]? = some (.str file tf) ∧ ((P.main.file : Str) == file) = true
  up : PySem.W.ks_superIn K C C "__init__" = some (some (.builtin "ValueError.__init__"))
  sub : PySem.W.subIn K (.ref C) (.type "ValueError") = some true
  self : PySem.W.mroIn K C (.ref C) = some true
  opq : PySem.W.nsIn K cStatics "thirdparty.any" = some none
  top : (P.main.scope.names.lookup ("super" : Str)).isSome = false
section
variable {CX : CXT} {P : Program} {w : World} {K : PySem.W.Frag} {mg : Str → Option Value} {base : Heap} {k : Nat} {f C cc cda : Addr} {name qual : Str} {params : Arguments} {rest : List Stmt} {scope : Scope} {dV kV doc pm ct oc : Value} {an od : Option Addr}
  {osl : Array (Option Value)} {N ps : List Str} {sp : Sp} {p0 p1 apos pos pos' : Pos} {e : Expr} {ar : Arg}
abbrev supSt (p0 p1 apos pos pos' : Pos) (e : Expr) : Stmt := .Expr (.Call (.Attribute (.Call (.Name "super" p0) [] [] p1) "__init__" apos) [e] [] pos) pos'
abbrev supF (name qual : Str) (params : Arguments) (body : List Stmt) (scope : Scope) (cc cda : Addr) : NF := ⟨name, qual, params, body, scope, [("__class__", cc)], cda⟩
theorem cells_at (Z : SupOk P K C cc cda) {A : Around} {outer : List Env} {s : Shared} {H : Hp} (e0 : Env0 P w K mg base A outer s H) : CellsAt [("__class__", cc)] ["__class__"] [none] s.heap H := by
  obtain ⟨cl, cld, csl, hc⟩ := Z.cell
  have b := e0.bs cc _ (e0.mod.kin _ _ hc)
  have one : ∀ {y : Str} {c : Addr}, [(("__class__" : Str), cc)].lookup y = some c → y = "__class__" ∧ c = cc := fun {y c} q => by
    rw [List.lookup_cons] at q
    split at q
    · rename_i h
      exact ⟨by simpa using h, by cases q; rfl⟩
    · cases q
  refine ⟨rfl, fun y c q => ?_, fun x y c q1 q2 => (one q1).1.trans (one q2).1.symm, fun i y q => ?_⟩
  · obtain ⟨_, rfl⟩ := one q
    exact ⟨b.2, some (.ref C), _, b.1, rfl⟩
  · have hi : y = "__class__" := by
      cases i with
      | zero => simpa using q.symm
      | succ i => simp at q
    subst hi
    refine ⟨cc, rfl, fun v q => ?_⟩
    cases i with
    | zero => simp at q
    | succ i => simp at q
theorem sup_eval {env : Env} (hst : isStar e = false) (hline : (apos.endLine == pos.line) = true) : eval (.Call (.Attribute (.Call (.Name "super" p0) [] [] p1) "__init__" apos) [e] [] pos) env = (do
      let ov ← attributeBase (.Call (.Name "super" p0) [] [] p1) "__init__" env (eval (.Call (.Name "super" p0) [] [] p1) env)
      standAt apos.atName
      let (f, first) ← holding [ov] (getMethod ov "__init__" (plainOf (.Call (.Name "super" p0) [] [] p1) env))
      callWith pos f first (backTo pos (starEach [e] env)) []) := by
  have h : eval (.Call (.Attribute (.Call (.Name "super" p0) [] [] p1) "__init__" apos) [e] [] pos) env = (do
      let ov ← attributeBase (.Call (.Name "super" p0) [] [] p1) "__init__" env (eval (.Call (.Name "super" p0) [] [] p1) env)
      standAt apos.atName
      methodCall (.Call (.Name "super" p0) [] [] p1) "__init__" apos pos env ov ([e].length + ([] : List Keyword).length) (backTo pos (starEach [e] env)) (backToKw pos (keywordEach [] env))) := rfl
  rw [h]
  have hf : methodCallForm ([e].length + ([] : List Keyword).length) (backTo pos (starEach [e] env)) (backToKw pos (keywordEach [] env)) = true := by
    rw [star_cons hst]; rfl
  congr 1
  funext ov
  rw [mcall_line hf hline]
  rfl
theorem fn_sup (Z : SupOk P K C cc cda) (lk : K.lookup f = some ⟨oc, od, .func (PySem.W.fnX name qual params (supSt p0 p1 apos pos pos' e :: rest) scope [("__class__", cc)] dV kV doc pm an (.ref cda) ct), osl⟩) (hcd : PySem.W.codeIn K (.ref cda) qual = true)
    (S : NScope N ps ["__class__"] scope) (hself : (params.posonlyargs ++ params.args).head? = some ar) (hN0 : N[0]? = some ar.arg) (hks : scope.names.lookup ("super" : Str) = some .globalImplicit) (hka : scope.names.lookup ar.arg = some .local) (hm : mg "super" = none) (hst : isStar e = false) (hline : (apos.endLine == pos.line) = true)
    (len : ∀ vs H Q E, sp vs H Q E → vs.length = ps.length)
    (hbody : ∀ (A : Around) (outer : List Env) (s : Shared) (H : Hp) (vs : List V) (Q : VK) (E : XK), Room k (A.deeper (envF (supF name qual params (supSt p0 p1 apos pos pos' e :: rest) scope cc cda) f s.heap.objs.size)) → sp vs H Q E →
      ∃ a ta t, vs[0]? = some (.ref a) ∧ 0 < vs.length ∧ PA (ncx CX P w K mg base N (supF name qual params (supSt p0 p1 apos pos pos' e :: rest) scope cc cda) f A outer s H E) [e] ta ∧ PSs (ncx CX P w K mg base N (supF name qual params (supSt p0 p1 apos pos pos' e :: rest) scope cc cda) f A outer s H E) rest t ∧
        H a = some (exo a C none) ∧ ta (startF N vs [none]) H fun us H1 => us.length ≤ 1000 ∧ H1 a = some (exo a C none) ∧ t { nx := fun _ H' => Q .non H', rt := Q } (startF N vs [none]) H1) :
    FnOk P w K mg base CX (k + 1) f (PySem.W.fnX name qual params (supSt p0 p1 apos pos pos' e :: rest) scope [("__class__", cc)] dV kV doc pm an (.ref cda) ct) ps sp := by
  refine ⟨len, fun A outer s H args us vs Q E hr e0 hb r hsp => ?_⟩
  have hl := len _ _ _ _ hsp
  have KX : K.In s.heap := e0.mod.kin.keeps fun b o z => (e0.bs b o z).1
  have lim : s.heap.NoLimit := e0.mod.nolimit.keeps fun b o z => (e0.bs b o z).1
  refine ks_codeAny_call_defAt (body := supSt p0 p1 apos pos pos' e :: rest) hr.depth (KX _ _ lk) rfl lim (PySem.W.codeRec_of KX hcd) rfl hb S.nocell (fun ⟨n, _⟩ hy => S.par n (List.of_mem_zip hy).1) (fun h₁ hns kp => ?_) S.co S.gen S.kind
  obtain ⟨a, ta, t, hv0, hvl, pa, pt, hea, hq⟩ := hbody A outer s H vs Q E (hr.deeper _) hsp
  have I : Inv (ncx CX P w K mg base N (supF name qual params (supSt p0 p1 apos pos pos' e :: rest) scope cc cda) f A outer s H E) [] (startF N vs [none]) H { s with heap := h₁, toks := s.toks + (ps.zip us).length } :=
    inv_startN (F := supF name qual params (supSt p0 p1 apos pos pos' e :: rest) scope cc cda) S hr.hd e0 hl r (cells_at Z e0) hns kp
  show _root_.PySem.wpAt (model P w) (ncx CX P w K mg base N (supF name qual params (supSt p0 p1 apos pos pos' e :: rest) scope cc cda) f A outer s H E).A (.func (supSt p0 p1 apos pos pos' e :: rest) (ncx CX P w K mg base N (supF name qual params (supSt p0 p1 apos pos pos' e :: rest) scope cc cda) f A outer s H E).env) _ _ _ _
  refine ks_wpAt_execs_cons (ks_wpAt_Expr_any (ks_wpAt_MethodCall ?_ (he := sup_eval hst hline)) (hi := by unfold interactive; first | (rw [show (callEnv _ _ _).scope.kind = ScopeKind.function from S.kind]; rfl) | (simp [callEnv, newEnv, S.kind])))
  obtain ⟨nm, q, N0, bs, bm, sn, sub, ab, col, dd, k0, k1, k2, k3, k5, hC, hbm⟩ := Z.T.cls
  obtain ⟨cl, cld, csl, hcell⟩ := Z.cell
  obtain ⟨ccl, cdd, vs2, ccs, file, tf, hcode, hvs2, hfile⟩ := Z.code
  have hcl : PySem.W.clsIn K C = some { name := nm, bases := bs, mro := .ref C :: bm, ns := N0, qualname := q, hasDict := true, slotNames := sn, subclasses := sub, abstract := ab, collection := col, hasDel := false } := by unfold PySem.W.clsIn; rw [hC] <;> rfl
  have hkc : scope.names.lookup ("__class__" : Str) = some .free := S.frk _ (by simp)
  have KI := I.kIn
  refine ks_wpAt_super_base (env := (ncx CX P w K mg base N (supF name qual params (supSt p0 p1 apos pos pos' e :: rest) scope cc cda) f A outer s H E).env) hks hkc (by decide) rfl (KI _ _ lk) rfl hself rfl (KI _ _ hcode) rfl hvs2 hfile Z.top ?_
  obtain ⟨mb, h1, h2⟩ := I.mod.blt
  refine PySem.W.ks_loadName_global I.ok.kind hks (Calls.loadGlobal_builtin (I.mod.glob.keeps I.bk) hm (h1.keeps I.bk) ((h2 _ (by decide)).trans (show bootBuiltins "super" = some (.type "super") by first | boot_by_name | rfl | kernel_rfl)) ⟨rfl, ?_⟩)
  refine wpAny_loadName_free I.ok.kind hkc rfl ⟨_, KI _ _ hcell, rfl⟩ ?_
  obtain ⟨m, hm1, hm2⟩ := I.loc
  have hs0 : (startF N vs [none])[0]? = some (some (V.ref a)) := by
    unfold startF
    rw [List.getElem?_append_left (by rw [List.length_map]; exact hvl), List.getElem?_map, hv0]; rfl
  obtain ⟨u, ru, lu⟩ := hm2 0 ar.arg (.ref a) hN0 hs0 (.inl hka)
  obtain rfl : u = .ref a := ru
  have hma : m ar.arg = some (.ref a) := by
    rcases lu with ⟨_, z⟩ | ⟨z, _⟩
    · exact z
    · have z : scope.names.lookup ar.arg = some .cell ∨ scope.names.lookup ar.arg = some .free := z
      rw [hka] at z
      rcases z with z | z <;> cases z
  refine wpAny_loadName_local I.ok.kind hka hm1 hma ?_
  refine ks_wpAny_isType_cls (KI _ _ hC) rfl ⟨rfl, ?_⟩
  obtain ⟨t1, ho⟩ := exo_at I.hok hea
  refine ks_wpAny_call_super (C := C) (KI _ _ hC) rfl ho rfl (fun c z => by cases z) (PySem.W.looks_mroIn KI Z.self) (fun h' e' k' => ?_)
  have I1 : Inv (ncx CX P w K mg base N (supF name qual params (supSt p0 p1 apos pos pos' e :: rest) scope cc cda) f A outer s H E) [] (startF N vs [none]) H { s with heap := h', toks := s.toks + (ps.zip us).length } := I.kept (t' := s.toks + (ps.zip us).length) k'
  have KI1 := I1.kIn
  obtain ⟨t2, ho2⟩ := exo_at I1.hok hea
  have hin : PySem.W.Looks (model P w) h' (isInstance (.ref a) (.type "ValueError")) true := (show PySem.W.InstAt h' a _ C none from ⟨ho2, rfl, rfl, trivial⟩).type.andThen (PySem.W.looks_subIn KI1 Z.sub)
  have hmro : PySem.W.Looks (model P w) h' (mroOf (.ref C)) (.ref C :: bm) := fun A Q E s k q => wpAny_bind ((PySem.W.looks_clsIn KI1 hcl) A _ E s k (wpAny_pure q))
  have hal : PySem.W.alongIn K "__init__" (((Value.ref C :: bm).dropWhile (· != .ref C)).drop 1) = some (some (.builtin "ValueError.__init__")) := by
    have z := Z.up
    unfold PySem.W.ks_superIn at z
    rw [hcl] at z
    exact z
  have haC : a ≠ C := PySem.W.ks_ne KI1 (show PySem.W.InstAt h' a _ C none from ⟨ho2, rfl, rfl, trivial⟩) hcl
  refine PySem.W.kxs_getMethod PySem.W.kxs_ValueError e' (PySem.W.looks_opaque KI1 Z.opq) hmro rfl KI1 hal hin haC (by decide) ?_
  have I2 : Inv (ncx CX P w K mg base N (supF name qual params (supSt p0 p1 apos pos pos' e :: rest) scope cc cda) f A outer s H E) [] (startF N vs [none]) H { s with heap := h'.push (PySem.W.kxs_mw "ValueError.__init__" a), toks := s.toks + (ps.zip us).length + 1 } := I1.kept (t' := s.toks + (ps.zip us).length + 1) fun b o z => Heap.get?_push_of_some _ z
  have hmw : (h'.push (PySem.W.kxs_mw "ValueError.__init__" a)).get? h'.objs.size = some (PySem.W.kxs_mw "ValueError.__init__" a) := Heap.get?_push_size _ rfl
  have f0 := I1.fpOk (Nat.le_refl _) (I1.hok.fresh (Nat.le_refl h'.objs.size))
  obtain ⟨g0, g1, g2, g3, g4, g5⟩ := f0
  have I3 : Inv (ncx CX P w K mg base N (supF name qual params (supSt p0 p1 apos pos pos' e :: rest) scope cc cda) f A outer s H E) [(h'.objs.size, PySem.W.kxs_mw "ValueError.__init__" a)] (startF N vs [none]) H { s with heap := h'.push (PySem.W.kxs_mw "ValueError.__init__" a), toks := s.toks + (ps.zip us).length + 1 } :=
    I2.pins_of fun p hp => by
      obtain rfl : p = (h'.objs.size, PySem.W.kxs_mw "ValueError.__init__" a) := by simpa using hp
      exact ⟨hmw, g0, g1, g2, fun v z => by cases z⟩
  refine PySem.W.kxs_callWith (i := "ValueError.__init__") (x := a) (by rw [star_cons hst]; rfl) ?_
  have z := pa.run pos _ _ _ H _ I3 hq
  rw [star_cons hst] at z ⊢
  refine Calls.evalArgs_plain (thn z fun ur s3 hz3 => ?_)
  obtain ⟨vr, H3, I4, rr, hz, hea3, hq3⟩ := hz3
  have hmw3 := (I4.pin (h'.objs.size, PySem.W.kxs_mw "ValueError.__init__" a) (by simp)).1
  refine ⟨hmw3, ?_⟩
  obtain ⟨t3, ho3⟩ := exo_at I4.hok hea3
  have KI4 := I4.kIn
  obtain ⟨hh, g, d, tk, os⟩ := s3
  refine wpAny_call (codeAny_of_tree ?_)
  show wpAny _ (ncx CX P w K mg base N (supF name qual params (supSt p0 p1 apos pos pos' e :: rest) scope cc cda) f A outer s H E).A.in1 (callAny (.ref h'.objs.size) ⟨ur, []⟩) _ _ _
  simp only [callAny]
  refine wpAny_bind (wpAny_load hmw3 ?_)
  simp only [PySem.W.kxs_mw, show (Value.type "method-wrapper" == Value.type "method" || Value.type "method-wrapper" == Value.type "builtin_function_or_method" || Value.type "method-wrapper" == Value.type "method-wrapper") = true by decide, if_true]
  refine PySem.W.KFB.if_so (by decide) ?_
  refine wpAny_bind (PySem.W.check_bound_init F.excBase_ValueError.toExcCallFacts (KI4 _ _ hC) ho3 rfl ?_)
  refine wpAny_bind (wpAny_pure (wpAny_pure ?_))
  refine ⟨plainId_quiet F.excBase_ValueError.init.plain _, codeAny_builtin F.excBase_ValueError.initEntry ?_⟩
  have hur : ur.length ≤ sizeLine := by
    rw [← Paired.length rr, sizeLine_eq]
    omega
  refine PySem.W.exc_init_tree (cls := .ref C) (t0 := t3) (dv := none) (c2 := .none) (c3 := .none) (b4 := .bool false) ho3 hur fun h4 k4 e4 _ => ?_
  have J := I4.write (t' := tk) (x := a) (e := a) (o := exo a C none) (by rw [hea3]; exact True.intro) (.inl rfl) k4 ⟨_, e4⟩ (exo_ok e4)
  have eu : upd H3 a (exo a C none) = H3 := by
    funext b
    by_cases hb : b = a
    · rw [hb, upd_same, hea3]
    · rw [upd_ne hb]
  rw [eu] at J
  have J2 : Inv (ncx CX P w K mg base N (supF name qual params (supSt p0 p1 apos pos pos' e :: rest) scope cc cda) f A outer s H E) [] (startF N vs [none]) H3 { heap := h4, gens := g, drawn := d, toks := tk, os := os } := J.pins_of fun p hp => by cases hp
  show _root_.PySem.wpAt (model P w) _ _ _ _ _ _
  refine wpAt_of_wpAny (wpAny_mono (pt.run [] _ _ H3 _ J2 hq3) (fun fl s' hs => ?_) fun _ _ x => x)
  have fin : ∀ {σ' : L2.St} {H' : Hp} {v : V} {u : Value}, Inv (ncx CX P w K mg base N (supF name qual params (supSt p0 p1 apos pos pos' e :: rest) scope cc cda) f A outer s H E) [] σ' H' s' → L2.RelV v u → Q v H' → CE outer P w H s Q u s' :=
    fun {σ' H' v u} J rv q => ⟨v, H', J.os, J.bare, J.base, J.hok, rv, q⟩
  cases fl with
  | ret u =>
    obtain ⟨v, σ', H', J, rv, q⟩ := hs
    exact fin J rv q
  | next =>
    obtain ⟨σ', H', J, q⟩ := hs
    exact fin (v := V.non) (u := Value.none) J rfl q
  | brk =>
    obtain ⟨_, _, _, q⟩ := hs
    exact False.elim q
  | cont =>
    obtain ⟨_, _, _, q⟩ := hs
    exact False.elim q
end
end L3
end
section
set_option Elab.async false
set_option linter.all false
set_option maxRecDepth 100000
set_option maxHeartbeats 8000000
namespace L3
open PySem PySem.Spec PyProof.Rows L2 NdefX
/-! ### the text of such an __init__: super().__init__(p), then a field for each parameter that is kept -/
/-- self.f = p -/
def fldB (N : List Str) (sc : Scope) (f : Str) (i : Nat) : Stmt → Bool
  | .Assign [.Attribute (.Name s _) g _] (.Name y _) _ => decide (g = f) && decide (N[0]? = some s) && decide (sc.names.lookup s = some .local) && plainName s && decide (N[i]? = some y) && decide (sc.names.lookup y = some .local) && plainName y
  | _ => false
def fldsB (N : List Str) (sc : Scope) : List (Str × Nat) → List Stmt → Bool
  | [], [] => true
  | (f, i) :: r, st :: sts => fldB N sc f i st && fldsB N sc r sts
  | _, _ => false
def iniT (K : PySem.W.Frag) : List (Str × Nat) → TS
  | [] => tNext
  | (f, i) :: r => tSeq (tOst K f (tVar 0) (tVar i)) (iniT K r)
section
variable {X : Cx} {N : List Str} {sc : Scope}
theorem fld_ok (hN : X.N = N) (hs : X.env.scope = sc) {f : Str} {i : Nat} {st : Stmt} (h : fldB N sc f i st = true) : PS X st (tOst X.K f (tVar 0) (tVar i)) := by
  unfold fldB at h
  split at h
  · obtain ⟨h, h7⟩ := an h
    obtain ⟨h, h6⟩ := an h
    obtain ⟨h, h5⟩ := an h
    obtain ⟨h, h4⟩ := an h
    obtain ⟨h, h3⟩ := an h
    obtain ⟨h1, h2⟩ := an h
    obtain rfl := dc h1
    obtain ⟨a1, a2, _⟩ := plain_ok h4
    obtain ⟨b1, b2, _⟩ := plain_ok h7
    exact ps_ost (pe_var (by rw [hN]; exact dc h2) (.inl (by rw [hs]; exact dc h3)) a1 a2) (pe_var (by rw [hN]; exact dc h5) (.inl (by rw [hs]; exact dc h6)) b1 b2)
  · cases h
theorem flds_ok (hN : X.N = N) (hs : X.env.scope = sc) : ∀ {fs : List (Str × Nat)} {sts : List Stmt}, fldsB N sc fs sts = true → PSs X sts (iniT X.K fs)
  | [], [], _ => pss_nil
  | [], _ :: _, h => (Bool.false_ne_true h).elim
  | _ :: _, [], h => (Bool.false_ne_true h).elim
  | (f, i) :: r, st :: sts, h => by
    obtain ⟨h1, h2⟩ := an h
    exact pss_cons (fld_ok hN hs h1) (flds_ok hN hs h2)
end
theorem upd_upd (H : Hp) (a : Addr) (o u : HO) : upd (upd H a o) a u = upd H a u := by
  funext b
  by_cases h : b = a
  · subst h; rw [upd_same, upd_same]
  · rw [upd_ne h, upd_ne h, upd_ne h]
theorem upd_swap (H : Hp) {a b : Addr} (h : a ≠ b) (o u : HO) : upd (upd H a o) b u = upd (upd H b u) a o := by
  funext c
  by_cases h1 : c = b
  · subst h1; rw [upd_same, upd_ne (Ne.symm h), upd_same]
  · rw [upd_ne h1]
    by_cases h2 : c = a
    · subst h2; rw [upd_same, upd_same]
    · rw [upd_ne h2, upd_ne h2, upd_ne h1]
/-- the fields that such an __init__ keeps: each a parameter -/
def fldV (fs : List (Str × Nat)) (vs : List V) : List (Str × V) := fs.map fun p => (p.1, vs.getD p.2 .non)
section
variable {K : PySem.W.Frag} {C a : Addr} {vs : List V} {σ : L2.St}
theorem ini_more (T : OexC K C) (hσ : ∀ (i : Nat) (v : V), vs[i]? = some v → σ[i]? = some (some v)) (h0 : vs[0]? = some (.ref a)) (D : Ends) (dx : Addr) : ∀ (fs : List (Str × Nat)) (acc : List (Str × V)) (H : Hp), (∀ p ∈ fs, p.2 < vs.length ∧ PySem.W.findIn K (.ref C) p.1 = some none) → acc.length + fs.length ≤ 900 →
    H a = some (exo a C (some dx)) → H dx = some (exd dx acc) → dx ≠ a → D.nx σ (upd H dx (exd dx ((fldV fs vs).reverse ++ acc))) → iniT K fs D σ H
  | [], acc, H, _, _, _, hd, _, q => by
    have e : upd H dx (exd dx acc) = H := by
      funext b
      by_cases h : b = dx
      · subst h; rw [upd_same, hd]
      · rw [upd_ne h]
    have q : D.nx σ (upd H dx (exd dx acc)) := q
    rw [e] at q
    exact q
  | (f, i) :: r, acc, H, hf, hn, ha, hd, hne, q => by
    obtain ⟨hi, hfi⟩ := hf (f, i) List.mem_cons_self
    have ev : vs[i]? = some (vs.getD i .non) := by rw [List.getD_eq_getElem?_getD, List.getElem?_eq_getElem hi]; rfl
    refine ⟨_, hσ i _ ev, _, hσ 0 _ h0, a, C, rfl, T, hfi, .inr ⟨dx, acc, ha, hd, by simp only [List.length_cons] at hn; omega, ?_⟩⟩
    refine ini_more T hσ h0 D dx r _ _ (fun p hp => hf p (List.mem_cons_of_mem _ hp)) (by simp only [List.length_cons] at hn ⊢; omega) (by rw [upd_ne (Ne.symm hne)]; exact ha) upd_same hne ?_
    rw [upd_upd]
    have e : (fldV ((f, i) :: r) vs).reverse ++ acc = (fldV r vs).reverse ++ (f, vs.getD i .non) :: acc := by
      unfold fldV
      rw [List.map_cons, List.reverse_cons, List.append_assoc]
      rfl
    rw [e] at q
    exact q
theorem ini_all (T : OexC K C) (hσ : ∀ (i : Nat) (v : V), vs[i]? = some v → σ[i]? = some (some v)) (h0 : vs[0]? = some (.ref a)) (D : Ends) {fs : List (Str × Nat)} {H : Hp} (hne : fs ≠ []) (hf : ∀ p ∈ fs, p.2 < vs.length ∧ PySem.W.findIn K (.ref C) p.1 = some none) (hn : fs.length ≤ 900)
    (ha : H a = some (exo a C none)) (q : ∀ dx, H dx = none → dx ≠ a → D.nx σ (upd (upd H dx (exd dx (fldV fs vs).reverse)) a (exo a C (some dx)))) : iniT K fs D σ H := by
  match fs, hne with
  | (f, i) :: r, _ =>
    obtain ⟨hi, hfi⟩ := hf (f, i) List.mem_cons_self
    have ev : vs[i]? = some (vs.getD i .non) := by rw [List.getD_eq_getElem?_getD, List.getElem?_eq_getElem hi]; rfl
    refine ⟨_, hσ i _ ev, _, hσ 0 _ h0, a, C, rfl, T, hfi, .inl ⟨ha, fun dx hd hne => ?_⟩⟩
    refine ini_more T hσ h0 D dx r [(f, vs.getD i .non)] _ (fun p hp => hf p (List.mem_cons_of_mem _ hp)) (by simp only [List.length_cons, List.length_nil] at hn ⊢; omega) upd_same (by rw [upd_ne hne, upd_same]) hne ?_
    rw [← upd_swap _ hne, upd_upd]
    have e : (fldV ((f, i) :: r) vs).reverse = (fldV r vs).reverse ++ [(f, vs.getD i .non)] := by
      unfold fldV
      rw [List.map_cons, List.reverse_cons]
    rw [← e]
    exact q dx hd hne
end
end L3
end
section
set_option Elab.async false
set_option linter.all false
set_option maxRecDepth 100000
set_option maxHeartbeats 8000000
namespace L3
open PySem PySem.Spec PyProof.Rows L2 NdefX
/-- what such an __init__ promises: fs the fields, each a parameter (0: self) -/
def spIni (K : PySem.W.Frag) (C : Addr) (n : Nat) (fs : List (Str × Nat)) : Sp := fun vs H Q E => vs.length = n + 1 ∧ ∃ a, vs[0]? = some (.ref a) ∧ H a = some (exo a C none) ∧ ∀ d, H d = none → d ≠ a → Q .non (upd (upd H d (exd d (fldV fs vs).reverse)) a (exo a C (some d)))
section
variable {P : Program} {w : World} {K : PySem.W.Frag} {mg : Str → Option Value} {base : Heap} {k : Nat} {f C cc cda : Addr} {name qual : Str} {params : Arguments} {rest : List Stmt} {scope : Scope} {dV kV doc pm ct oc : Value} {an od : Option Addr}
  {osl : Array (Option Value)} {N ps : List Str} {p0 p1 apos pos pos' : Pos} {y : Str} {py : Pos} {ar : Arg} {CX : CXT} {j n : Nat} {fs : List (Str × Nat)}
theorem startF_at {vs : List V} {ws : List (Option V)} {i : Nat} {v : V} (h : vs[i]? = some v) : (startF N vs ws)[i]? = some (some v) := by
  have hi := (List.getElem?_eq_some_iff.mp h).1
  unfold startF
  rw [List.getElem?_append_left (by rw [List.length_map]; exact hi), List.getElem?_map, h]
  rfl
theorem ini_fn (Z : SupOk P K C cc cda) (lk : K.lookup f = some ⟨oc, od, .func (PySem.W.fnX name qual params (supSt p0 p1 apos pos pos' (.Name y py) :: rest) scope [("__class__", cc)] dV kV doc pm an (.ref cda) ct), osl⟩) (hcd : PySem.W.codeIn K (.ref cda) qual = true)
    (S : NScope N ps ["__class__"] scope) (hself : (params.posonlyargs ++ params.args).head? = some ar) (hN0 : N[0]? = some ar.arg) (hks : scope.names.lookup ("super" : Str) = some .globalImplicit) (hka : scope.names.lookup ar.arg = some .local) (hm : mg "super" = none) (hline : (apos.endLine == pos.line) = true)
    (hps : ps.length = n + 1) (hy : N[j]? = some y) (hyl : scope.names.lookup y = some .local) (hyp : plainName y = true) (hj : j ≤ n) (hb : fldsB N scope fs rest = true) (hne : fs ≠ []) (hf : ∀ p ∈ fs, p.2 ≤ n ∧ PySem.W.findIn K (.ref C) p.1 = some none) (hn : fs.length ≤ 900) :
    FnOk P w K mg base CX (k + 1) f (PySem.W.fnX name qual params (supSt p0 p1 apos pos pos' (.Name y py) :: rest) scope [("__class__", cc)] dV kV doc pm an (.ref cda) ct) ps (spIni K C n fs) := by
  refine fn_sup Z lk hcd S hself hN0 hks hka hm rfl hline (fun vs H Q E h => h.1.trans hps.symm) fun A outer s H vs Q E hr ⟨hl, a, h0, ha, hq⟩ => ?_
  obtain ⟨q1, q2, _⟩ := plain_ok hyp
  have ej : vs[j]? = some (vs.getD j .non) := by rw [List.getD_eq_getElem?_getD, List.getElem?_eq_getElem (by omega)]; rfl
  refine ⟨a, tCons (tVar j) tNil, iniT K fs, h0, by omega, pa_cons (pe_var hy (.inl hyl) q1 q2) pa_nil rfl, flds_ok rfl rfl hb, ha, ?_⟩
  refine ⟨_, startF_at ej, ⟨by simp, ha, ?_⟩⟩
  exact ini_all Z.T (fun i v e => startF_at e) h0 _ hne (fun p hp => ⟨by have := (hf p hp).1; omega, (hf p hp).2⟩) hn ha hq
end
/-! ### C(..): a new exception -/
section
variable {X : Cx} {CX : CXT} {k n : Nat} {C fI : Addr} {fd : FuncData} {ps : List Str} {fs : List (Str × Nat)} {x : Str} {p pos : Pos} {e : Expr} {es : List Expr} {ta : TA}
/-- the reading: the dict d is new, holds the fields -/
def tMk (C : Addr) (n : Nat) (fs : List (Str × Nat)) (ta : TA) : L2.St → Hp → XK → Prop := fun σ H Q => ta σ H fun vs H1 => vs.length = n ∧ ∀ d, H1 d = none → Q (.ref C) (some d) (upd H1 d (.xd ((fs.map fun q => (q.1, (V.non :: vs).getD q.2 .non)).reverse)))
theorem mk_new (T : OexC X.K C) (iC : PySem.W.findIn X.K (.ref C) "__init__" = some (some (.ref fI))) (tI : PySem.W.typeIn X.K (.ref fI) = some (.type "function"))
    (F1 : FnOk X.prog X.w X.K X.mg X.base CX k fI fd ps (spIni X.K C n fs)) (hr : Room (k + 1) X.A) (hb : Binds X.K fd ps []) (hx : Passes CX X (fun _ _ _ => False)) (hg : Gl X x) (hm : X.mg x = some (.ref C)) (ha : PA X (e :: es) ta) (hn : n ≤ 900) (hf : ∀ q ∈ fs, 0 < q.2)
    (hdb : (x == ("__debug__" : Str)) = false) (he : starEach (e :: es) X.env = (false, eval e X.env) :: starEach es X.env) (hpl : (backTo pos (starEach es X.env)).any (·.1) = false) :
    L2N.PMk X (.Call (.Name x p) (e :: es) [] pos) (tMk C n fs ta) := by
  intro pins s σ H Q I h
  obtain ⟨nm, qn, N0, bs, bm, sn, sub, ab, col, dd, k0, k1, k2, k3, k5, hC, hbm⟩ := T.cls
  refine wpAny_Call_Name_kw (ld_glob I hg hm (PySem.W.callWith_K (h₀ := X.base) I.ok.mod.kin T.kC (thn (ha.run pos pins s σ H _ I h) fun us s1 ⟨vs, H1, I1, r1, hlen, q1⟩ => ⟨I1.kIn, ?_⟩) he hpl) hdb)
  show wpAny _ _ (call (.ref C) us) _ _ _
  obtain ⟨hp, g, dr, tk, os⟩ := s1
  -- the record, its args
  generalize hA : hp.objs.size + 1 = a
  have sa : hp.objs.size ≤ a := by rw [← hA]; exact Nat.le_succ _
  have fresh : H1 a = none := I1.hok.fresh sa
  generalize hG : (hp.push (PySem.W.kdv_tup us)).push (PySem.HandSPX.excO C hp.objs.size) = hp2
  have kk : ∀ b o, hp.get? b = some o → hp2.get? b = some o := fun b o q => by rw [← hG]; exact Heap.get?_push_of_some _ (Heap.get?_push_of_some _ q)
  have at_a : hp2.get? a = some (PySem.HandSPX.excO C hp.objs.size) := by rw [← hG, ← hA]; heap_get
  have I2 : Inv X pins σ (upd H1 a (exo a C none)) ⟨hp2, g, dr, tk, os⟩ := I1.laid (t' := tk) (a := a) (o := exo a C none) (h' := hp2) kk sa (exo_ok at_a)
  have rr : Vals (V.ref a :: vs) (Value.ref a :: us) := .cons rfl r1
  have lus : us.length = n := by rw [← Paired.length r1]; exact hlen
  -- what the __init__ is to reach
  have hq : spIni X.K C n fs (V.ref a :: vs) (upd H1 a (exo a C none)) (fun v H2 => v = .non ∧ ∃ (d : Addr) (gs : List (Str × V)), H2 a = some (exo a C (some d)) ∧ H2 d = some (exd d gs) ∧ H1 d = none ∧ Q (.ref C) (some d) (upd (del H2 a) d (.xd gs))) (fun _ _ _ => False) := by
    refine ⟨by simp [hlen], a, rfl, upd_same, fun d hd hda => ⟨rfl, d, _, upd_same, by rw [upd_ne hda, upd_same], by rw [upd_ne hda] at hd; exact hd, ?_⟩⟩
    rw [upd_ne hda] at hd
    have eH : upd (del (upd (upd (upd H1 a (exo a C none)) d (exd d (fldV fs (V.ref a :: vs)).reverse)) a (exo a C (some d))) a) d (.xd (fldV fs (V.ref a :: vs)).reverse) = upd H1 d (.xd ((fs.map fun q => (q.1, (V.non :: vs).getD q.2 .non)).reverse)) := by
      have ef : fldV fs (V.ref a :: vs) = fs.map fun q => (q.1, (V.non :: vs).getD q.2 .non) := by
        unfold fldV
        refine List.map_congr_left fun q hqm => ?_
        obtain ⟨i, hi⟩ := Nat.exists_eq_succ_of_ne_zero (Nat.ne_of_gt (hf q hqm))
        rw [hi]; rfl
      rw [ef]
      funext b
      by_cases hbd : b = d
      · subst hbd; rw [upd_same, upd_same]
      · rw [upd_ne hbd, upd_ne hbd]
        by_cases hba : b = a
        · subst hba; rw [del_same, fresh]
        · rw [del_ne hba, upd_ne hba, upd_ne hbd, upd_ne hba]
    rw [eH]
    exact q1 d hd
  have hbd := hb { heap := hp2, gens := g, drawn := dr, toks := tk, os := os } (Value.ref a :: us) I2.kIn (by
    have z := F1.len _ _ _ _ hq
    rw [List.append_nil, List.length_cons, lus]
    rw [List.length_cons, hlen] at z
    exact z)
  rw [List.append_nil] at hbd
  refine wpAny_call (PySem.HandSPX.call_own F.excBase_ValueError (fun Y => PySem.HandSPX.refsVE_contains Y bm hbm) (I1.kIn _ _ hC) (PySem.W.looks_findIn I1.kIn iC) (fun self => PySem.W.bind_fn I1.kIn self tI) (by rw [lus, sizeLine_eq]; omega) ?_)
  rw [hG, hA]
  refine codeAny_mono (F1.run _ X.stack _ _ ⟨Value.ref a :: us, []⟩ (Value.ref a :: us) _ _ (fun _ _ _ => False) (hr.make C us []) (I2.env0.make C us []) hbd rr hq) fun r s' hq' => ?_
  cases r with
  | error er => exact hx pins σ _ _ er s' I2 hq'
  | ok fl =>
    cases fl with
    | ret u =>
      obtain ⟨v, H2, os2, bare2, un2, hok2, rv, ev, d, gs, ea, ed, hd1, q2⟩ := hq'
      subst ev
      obtain ⟨h2, g2, d2, t2, os'⟩ := s'
      obtain ⟨t0, G, J, kG, ge, hoe, na⟩ := mk_end0 (d2 := d2) (t2 := t2) I1 sa kk un2 hok2 os2 bare2 ea ed hd1
      exact ⟨rv, a, _, _, ⟨G, g2, d2, t2, os'⟩, _, .ref C, some d, rfl, J, kG, ge, hoe, ⟨rfl, rfl, fun vs hv => by cases hv; rfl⟩, rfl, rfl, na, rfl, bare2, raises_own T.exC T.tyC, q2⟩
    | next => exact False.elim hq'
    | brk => exact False.elim hq'
    | cont => exact False.elim hq'
end
/-! ### the error classes of a program -/
/-- C's __init__ keeps these fields -/
structure ClOk (G : Gx) (C : Addr) (n : Nat) (fs : List (Str × Nat)) : Prop where
  T : OexC G.K C
  ini : ∃ fI fd ps, PySem.W.findIn G.K (.ref C) "__init__" = some (some (.ref fI)) ∧ PySem.W.typeIn G.K (.ref fI) = some (.type "function") ∧ FnOk G.P G.w G.K G.mg G.base (L2N.CX G.P G.w) 1 fI fd ps (spIni G.K C n fs) ∧ Binds G.K fd ps []
  n : n ≤ 900
  nd : (fs.map (·.1)).Nodup
  pos : ∀ q ∈ fs, 0 < q.2
  xf : XfC G.K C
  no : ∀ q ∈ fs, PySem.W.findIn G.K (.ref C) q.1 = some none
theorem passN {X : Cx} : Passes (L2N.CX X.prog X.w) X (fun _ _ _ => False) := fun _ _ _ _ _ _ _ h => by
  obtain ⟨_, _, _, _, _, _, _, _, _, _, _, _, z⟩ := h
  exact z.elim
end L3
end
section
set_option Elab.async false
set_option linter.all false
set_option maxRecDepth 100000
set_option maxHeartbeats 8000000
namespace L3
open PySem PySem.Spec L2 L2H
open PyProof.Rows hiding St
/-- the tables are right -/
structure Tabs (G : Gx) (k : Nat) (T : Tb) (C : Cs) : Prop where
  fn : ∀ f x, T.fn[f]? = some (some x) → ∃ fd ps, FnM T.hot G.P G.w G.K G.mg G.base (L2N.CX G.P G.w) k (G.ga f) fd ps (spOf G (C.n f) (C.F f)) ∧ G.mg x = some (.ref (G.ga f)) ∧ PySem.W.keepIn G.K (.ref (G.ga f)) = true ∧ Binds G.K fd ps []
  free : ∀ x, x ∈ T.free → G.mg x = none
  gc : ∀ k x, T.gc[k]? = some x → ∃ u v, G.mg x = some u ∧ RelV v u ∧ ∀ w H, RepD G w H (C.gc k) v
  clx : ∀ c x, T.cl[c]? = some (some x) → G.mg x = some (.ref (G.ga c))
  cl : ∀ c n fs, C.cf c = some (n, fs) → ClOk G (G.ga c) n fs
  lv : C.lv ≤ k
  sub : ∀ c c' b, C.sub c c' = some b → PySem.W.exmOne G.K (.ref (G.ga c)) (.ref (G.ga c')) = some b
section
variable {G : Gx} {k : Nat} {N : List Str} {T : Tb} {C : Cs}
def SndE (G : Gx) (k : Nat) (N : List Str) (T : Tb) (C : Cs) (e : Ex) : Prop := ∀ (pe : Expr) (sc : Scope) (X : Cx) (W : WX), Gd G k T C N sc X → L2N.Takes X W → chkE T N sc e pe = true → PE X pe (tE G W (evalE C e)) ∧ (okT e = true → PT X pe (tTs G W (testE (evalE C e))))
abbrev Snd (G : Gx) (k : Nat) (N : List Str) (T : Tb) (C : Cs) (e : Ex) : Prop := SndE G k N T C e
/-- the suite's own reading -/
def csX (C : Cs) (fs : List (Str × D)) : Cs := { C with n := C.hn, F := C.hF, cf := fun _ => none, lv := 0, hF := fun _ _ _ => .bad, xa := fun f => fs.lookup f }
/-- the class keeps a field of that name -/
def okFld (C : Cs) (c : Nat) (f : Str) : Bool := match C.cf c with
  | some (_, gs) => decide (f ∈ gs.map (·.1))
  | none => false
theorem plainPT {X : Cx} {W : WX} {pe : Expr} {f : Env3 → VH → Res D} {b : Bool} (hK : X.K = G.K) (hp : plainT pe = true) (h : PE X pe (tE G W f)) : PE X pe (tE G W f) ∧ (b = true → PT X pe (tTs G W (testE f))) :=
  ⟨h, fun _ => st_truth h hK (isTrue_plain' hp X.env)⟩
theorem snd_args {X : Cx} {W : WX} {sc : Scope} (g : Gd G k T C N sc X) (tk : L2N.Takes X W) : ∀ {es : List Ex} {vs : List Expr}, (∀ e ∈ es, Snd G k N T C e) → chkEs T N sc es vs = true → PA X vs (tAs G W (evalEs C es))
  | [], [], _, _ => sa_nil
  | [], _ :: _, _, h => by simp [chkEs] at h
  | _ :: _, [], _, h => by simp [chkEs] at h
  | e :: es, v :: vs, hs, h => by
    simp only [chkEs, Bool.and_eq_true, Bool.not_eq_true'] at h
    exact sa_cons ((hs e List.mem_cons_self) v sc X W g tk h.1.2).1 (snd_args g tk (fun e he => hs e (List.mem_cons_of_mem _ he)) h.2) (star_cons h.1.1 vs X.env)
theorem snd_and {X : Cx} {W : WX} {sc : Scope} {pos : Pos} (g : Gd G k T C N sc X) (tk : L2N.Takes X W) : ∀ {es : List Ex} {vs : List Expr}, vs ≠ [] → (∀ e ∈ es, Snd G k N T C e) → es.all okT = true → chkEs T N sc es vs = true →
    PE X (.BoolOp .And vs pos) (tE G W (evalAnd C es)) ∧ PW X (.BoolOp .And vs pos) (tTs G W (testE (evalAnd C es)))
  | _, [], hn, _, _, _ => (hn rfl).elim
  | [], _ :: _, _, _, _, h => by simp [chkEs] at h
  | [e], [v], _, hs, ho, h => by
    simp only [chkEs, Bool.and_eq_true, Bool.not_eq_true'] at h
    simp only [List.all_cons, Bool.and_eq_true] at ho
    obtain ⟨a, b⟩ := (hs e List.mem_cons_self) v sc X W g tk h.1.2
    exact ⟨pe_one a, st_and1 (b ho.1)⟩
  | [_], _ :: _ :: _, _, _, _, h => by simp [chkEs] at h
  | _ :: _ :: _, [_], _, _, _, h => by simp [chkEs] at h
  | e :: e2 :: es, v :: v2 :: vs, _, hs, ho, h => by
    have h' : chkEs T N sc (e2 :: es) (v2 :: vs) = true ∧ chkE T N sc e v = true := by
      have := h
      rw [chkEs, Bool.and_eq_true, Bool.and_eq_true] at this
      exact ⟨this.2, this.1.2⟩
    rw [List.all_cons, Bool.and_eq_true] at ho
    obtain ⟨a, b⟩ := (hs e List.mem_cons_self) v sc X W g tk h'.2
    obtain ⟨c, d⟩ := snd_and (pos := pos) g tk (vs := v2 :: vs) (by simp) (fun e he => hs e (List.mem_cons_of_mem _ he)) ho.2 h'.1
    exact ⟨se_and g.K a c, st_and (b ho.1) d⟩
theorem snd_or {X : Cx} {W : WX} {sc : Scope} {pos : Pos} (g : Gd G k T C N sc X) (tk : L2N.Takes X W) : ∀ {es : List Ex} {vs : List Expr}, vs ≠ [] → (∀ e ∈ es, Snd G k N T C e) → es.all okT = true → chkEs T N sc es vs = true →
    PE X (.BoolOp .Or vs pos) (tE G W (evalOr C es)) ∧ PW X (.BoolOp .Or vs pos) (tTs G W (testE (evalOr C es)))
  | _, [], hn, _, _, _ => (hn rfl).elim
  | [], _ :: _, _, _, _, h => by simp [chkEs] at h
  | [e], [v], _, hs, ho, h => by
    simp only [chkEs, Bool.and_eq_true, Bool.not_eq_true'] at h
    simp only [List.all_cons, Bool.and_eq_true] at ho
    obtain ⟨a, b⟩ := (hs e List.mem_cons_self) v sc X W g tk h.1.2
    exact ⟨pe_one a, st_or1 (b ho.1)⟩
  | [_], _ :: _ :: _, _, _, _, h => by simp [chkEs] at h
  | _ :: _ :: _, [_], _, _, _, h => by simp [chkEs] at h
  | e :: e2 :: es, v :: v2 :: vs, _, hs, ho, h => by
    have h' : chkEs T N sc (e2 :: es) (v2 :: vs) = true ∧ chkE T N sc e v = true := by
      have := h
      rw [chkEs, Bool.and_eq_true, Bool.and_eq_true] at this
      exact ⟨this.2, this.1.2⟩
    rw [List.all_cons, Bool.and_eq_true] at ho
    obtain ⟨a, b⟩ := (hs e List.mem_cons_self) v sc X W g tk h'.2
    obtain ⟨c, d⟩ := snd_or (pos := pos) g tk (vs := v2 :: vs) (by simp) (fun e he => hs e (List.mem_cons_of_mem _ he)) ho.2 h'.1
    exact ⟨se_or g.K a c, st_or (b ho.1) d⟩
theorem PTs.imp {X : Cx} {ifs : List Expr} {t t' : TT} (h : PTs X ifs t) (f : ∀ σ H Q, t' σ H Q → t σ H Q) : PTs X ifs t' := ⟨fun pins s σ H Q I q => h.run pins s σ H Q I (f _ _ _ q)⟩
theorem snd_ifs {X : Cx} {W : WX} {sc : Scope} (g : Gd G k T C N sc X) (tk : L2N.Takes X W) {c : Ex} {ifs : List Expr} (hc : Snd G k N T C c) (ho : okT c = true) (h : ifsB c ifs (fun v => chkE T N sc c v) = true) : PTs X ifs (tTs G W (testE (evalE C c))) := by
  unfold ifsB at h
  split at h
  · cases c <;> try exact (Bool.false_ne_true h).elim
    exact PTs.imp pts_nil fun σ H Q ⟨w, env, vh, R, RE, q⟩ => Post.here (a := true) q R rfl
  · exact pts_one ((hc _ sc X W g tk h).2 ho)
  · cases h
theorem slots_ok {t : CT} {own : List (Str × Nat)} (h : slotsB t own = true) : ∀ i ∈ t.slots, i ∈ own.map (·.2) := fun i hi => of_decide_eq_true (List.all_eq_true.mp h i hi)
section
variable {ho : Bool} {X : Cx} {W : WX} {tg a b : Expr} {f g : Env3 → VH → Res D} {p pos : Pos}
theorem si_seqM (hK : X.K = G.K) (hl : PE X a (tE G W f)) : PIM ho X tg a (tI G W (itemsE f)) := by
  cases ho with
  | false => exact PI.imp (pi_sq hl) (tI_seq hK)
  | true => exact PIH.imp (pi_sqH hl) (tI_seq hK)
theorem si_rng1M (hg : Gl X "range") (hm : X.mg "range" = none) (ha : PE X a (tE G W f)) (hs : starEach [a] X.env = [(false, eval a X.env)]) : PIM ho X tg (.Call (.Name "range" p) [a] [] pos) (tI G W (rng1E f)) := by
  cases ho with
  | false => exact si_rng1 hg hm ha hs
  | true => exact PIH.imp (pi_range1H hg hm (pa_cons ha pa_nil hs) hs) tI_rng1
theorem si_rng2M (hg : Gl X "range") (hm : X.mg "range" = none) (ha : PE X a (tE G W f)) (hb : PE X b (tE G W g)) (hs : starEach [a, b] X.env = [(false, eval a X.env), (false, eval b X.env)]) (hs2 : starEach [b] X.env = [(false, eval b X.env)]) :
    PIM ho X tg (.Call (.Name "range" p) [a, b] [] pos) (tI G W (rng2E f g)) := by
  cases ho with
  | false => exact si_rng2 hg hm ha hb hs hs2
  | true => exact PIH.imp (pi_range2H hg hm (pa_cons ha (pa_cons hb pa_nil hs2) (by rw [hs, hs2])) hs hs2) tI_rng2
end
theorem snd_it {X : Cx} {W : WX} {sc : Scope} (TB : Tabs G k T C) (g : Gd G k T C N sc X) (tk : L2N.Takes X W) {ik : IK} {a b : Ex} {it tg : Expr} (ha : Snd G k N T C a) (hb : Snd G k N T C b) (h : itB T sc ik it (fun v => chkE T N sc a v) (fun v => chkE T N sc b v) = true) :
    PIM T.hot X tg it (tI G W (itE ik (evalE C a) (evalE C b))) ∧ isSet it = false := by
  cases ik with
  | sq =>
    obtain ⟨h1, h2⟩ := an h
    exact ⟨si_seqM g.K (ha it sc X W g tk h2).1, nt h1⟩
  | r1 =>
    cases it <;> try exact (Bool.false_ne_true h).elim
    rename_i fn args kws pos
    cases fn <;> try exact (Bool.false_ne_true h).elim
    rename_i x p
    match args, kws, h with
    | [], _, h => exact (Bool.false_ne_true h).elim
    | _ :: _ :: _, _, h => exact (Bool.false_ne_true h).elim
    | [_], _ :: _, h => exact (Bool.false_ne_true h).elim
    | [a'], [], h =>
      obtain ⟨h, ha'⟩ := an h
      obtain ⟨h, hs⟩ := an h
      obtain ⟨h, hf⟩ := an h
      obtain ⟨hx, hg⟩ := an h
      obtain rfl := dc hx
      exact ⟨si_rng1M (glB_ok g hg) (by rw [g.mg]; exact TB.free _ (dc hf)) (ha _ sc X W g tk ha').1 (star_cons (nt hs) [] X.env), rfl⟩
  | r2 =>
    cases it <;> try exact (Bool.false_ne_true h).elim
    rename_i fn args kws pos
    cases fn <;> try exact (Bool.false_ne_true h).elim
    rename_i x p
    match args, kws, h with
    | [], _, h => exact (Bool.false_ne_true h).elim
    | [_], _, h => exact (Bool.false_ne_true h).elim
    | _ :: _ :: _ :: _, _, h => exact (Bool.false_ne_true h).elim
    | [_, _], _ :: _, h => exact (Bool.false_ne_true h).elim
    | [a', b'], [], h =>
      obtain ⟨h, hb'⟩ := an h
      obtain ⟨h, ha'⟩ := an h
      obtain ⟨h, hs2⟩ := an h
      obtain ⟨h, hs⟩ := an h
      obtain ⟨h, hf⟩ := an h
      obtain ⟨hx, hg⟩ := an h
      obtain rfl := dc hx
      have st2 : starEach [b'] X.env = [(false, eval b' X.env)] := star_cons (nt hs2) [] X.env
      exact ⟨si_rng2M (glB_ok g hg) (by rw [g.mg]; exact TB.free _ (dc hf)) (ha _ sc X W g tk ha').1 (hb _ sc X W g tk hb').1 (by rw [star_cons (nt hs), st2]) st2, rfl⟩
theorem snd_comp {X : Cx} {W : WX} {sc sc' : Scope} (TB : Tabs G k T C) (g : Gd G k T C N sc X) (tk : L2N.Takes X W) {own : List (Str × Nat)} {t : CT} {ik : IK} {a b c e : Ex} {e' tg it' : Expr} {ifs : List Expr} (ha : Snd G k N T C a) (hb : Snd G k N T C b) (hc : Snd G k N T C c) (he : Snd G k N T C e)
    (h1 : blkC N sc sc' own = true) (h2 : ctB N sc' t tg = true) (h4 : itB T sc ik it' (fun v => chkE T N sc a v) (fun v => chkE T N sc b v) = true) (h5 : okT c = true) (h6 : ifsB c ifs (fun v => chkE T N (relS sc' sc) c v) = true) (h7 : chkE T N (relS sc' sc) e e' = true) :
    PIM T.hot X tg it' (tI G W (itE ik (evalE C a) (evalE C b))) ∧ isSet it' = false ∧ BlkOk X.N X.env.scope sc' own ∧
    (∀ (s : Shared) (H : Hp) (C0 : Addr) (cl : List (Str × Addr)) (fp : List Addr), PG (blkM T.hot X s H sc' (compEnvC sc' cl C0 X.env) fp) tg (gCT G.K t)) ∧
    (∀ (s : Shared) (H : Hp) (C0 : Addr) (cl : List (Str × Addr)) (fp : List Addr), PTs (blkM T.hot X s H sc' (compEnvC sc' cl C0 X.env) fp) ifs (tTs G W0 (testE (evalE C c)))) ∧
    (∀ (s : Shared) (H : Hp) (C0 : Addr) (cl : List (Str × Addr)) (fp : List Addr), PE (blkM T.hot X s H sc' (compEnvC sc' cl C0 X.env) fp) e' (tE G W0 (evalE C e))) := by
  obtain ⟨p, q⟩ := snd_it TB g tk (tg := tg) ha hb h4
  refine ⟨p, q, by rw [g.nN, g.sc]; exact blkOk_by h1, fun s H C0 cl fp => ?_, fun s H C0 cl fp => snd_ifs (g.blk ..) takes0 hc h5 h6, fun s H C0 cl fp => (he _ _ _ _ (g.blk ..) takes0 h7).1⟩
  have gb := g.blk s H sc' C0 cl fp
  exact ct_pg (X := blkM T.hot X s H sc' (compEnvC sc' cl C0 X.env) fp) (st := fun x => locB sc' x = true) (fun x hx => blk_store x hx) gb.nd' gb.md gb.K (fun x hx => hx) (by rw [gb.nN]; exact h2)
/-- frz: a step of the mind -/
theorem freezeD_ok {w : Wd} {vh : VH} {H : Hp} {d : D} {v : V} {E : XK} {Q : VK} (R : RelH G w vh H) (r : RepD G w H d v) (h : Post G (RepD G) E w H Q (.ofO (freezeD d vh))) : Q v H := by
  cases d with
  | ref n =>
    have h : Post G (RepD G) E w H Q (.ofO (match vh[n]? with | some (.lst ds) => some (.lst ds, vh.set n .gone) | _ => none)) := h
    split at h
    · rename_i ds e
      obtain ⟨a, b, c⟩ := freeze R e
      simp only [RepD] at r
      rw [r.2]
      exact h _ _ _ a b c
    · exact h.elim
  | _ => exact Post.here h R r
end
end L3
end
section
set_option Elab.async false
set_option linter.all false
set_option maxRecDepth 100000
set_option maxHeartbeats 8000000
namespace L3
open PySem PySem.Spec L2 L2H
open PyProof.Rows hiding St
section
variable {G : Gx} {k : Nat} {N : List Str} {T : Tb} {C : Cs}
theorem sset_shape {sc : Scope} {m : Bool} {a : Ex} {fn : Expr} {args : List Expr} {kws : List Keyword} {pos : Pos} (h : chkE T N sc (.sset m a) (.Call fn args kws pos) = true) : ∃ x px y py a' py2, fn = .Name x px ∧ args = [.Call (.Name y py) [a'] [] py2] ∧ kws = [] := by
  match fn, args, kws, h with
  | .Name x px, [.Call (.Name y py) [a'] [] py2], [], _ => exact ⟨_, _, _, _, _, _, rfl, rfl, rfl⟩
section
variable {ho : Bool} {k' : Nat} {X : Cx} {W : WX}
theorem se_fnM {f : Addr} {fd : FuncData} {ps : List Str} {n : Nat} {F : List D → VH → Res D} {x : Str} {p pos : Pos} {e : Expr} {es : List Expr} {fs : Env3 → VH → Res (List D)} (tk : L2N.Takes X W)
    (ok : FnM ho X.prog X.w X.K X.mg X.base (L2N.CX X.prog X.w) k' f fd ps (spOf G n F)) (hr : Md ho k' X) (hg : Gl X x) (hm : X.mg x = some (.ref f)) (hk : PySem.W.keepIn X.K (.ref f) = true) (hb : Binds X.K fd ps [])
    (ha : PA X (e :: es) (tAs G W fs)) (hdb : (x == ("__debug__" : Str)) = false) (he : starEach (e :: es) X.env = (false, eval e X.env) :: starEach es X.env) (hpl : (backTo pos (starEach es X.env)).any (·.1) = false) :
    PE X (.Call (.Name x p) (e :: es) [] pos) (tE G W (fnE n F fs)) := by
  cases ho with
  | false => exact se_fn tk ok hr.2 hg hm hk hb ha hdb he hpl
  | true => exact PE.imp (pe_callH (E := WE W) ok hr.2 hr.1 hg hm hk hb (L2N.passAt tk) ha hdb he hpl) tE_fn
theorem says_bltH (b : Blt) (m : Bool) (hK : X.K = G.K) (hc : HotC X) (hh : b.hotOk = true) (h : b.ty = none) : ∃ r, CallR X (.builtin b.id) r ∧ CallSays G (bltD b m) r := by
  cases b <;> try (cases hh; done)
  case list => cases h
  case tuple => cases h
  case int => cases h
  case len => exact bs_len m hK
  case abs => exact bs_abs m
  case max2 => exact ⟨_, call_max2H hc, bs_max2⟩
  case sum => exact ⟨_, cr_sumH hc, hK ▸ bs_sum⟩
theorem says_bltM (b : Blt) (m : Bool) (hK : X.K = G.K) (hc : Md ho k' X) (hh : (!ho || b.hotOk) = true) (h : b.ty = none) : ∃ r, CallR X (.builtin b.id) r ∧ CallSays G (bltD b m) r := by
  cases ho with
  | false => exact says_blt b m hK hc.1 h
  | true => exact says_bltH b m hK hc.1 (by simpa using hh) h
theorem pe_lcM {elt tg iter : Expr} {ifs : List Expr} {scope : Scope} {own : List (Str × Nat)} {pos : Pos} {wi : TI} {g : TG} {tt : TT} {te : TE} (hc : Md ho k' X) (hN : X.N.Nodup) (hi : PIM ho X tg iter wi) (ok : BlkOk X.N X.env.scope scope own)
    (hg : ∀ (s : Shared) (H : Hp) (C : Addr) (cl : List (Str × Addr)) (fp : List Addr), PG (blkM ho X s H scope (compEnvC scope cl C X.env) fp) tg g) (ht : ∀ (s : Shared) (H : Hp) (C : Addr) (cl : List (Str × Addr)) (fp : List Addr), PTs (blkM ho X s H scope (compEnvC scope cl C X.env) fp) ifs tt)
    (he : ∀ (s : Shared) (H : Hp) (C : Addr) (cl : List (Str × Addr)) (fp : List Addr), PE (blkM ho X s H scope (compEnvC scope cl C X.env) fp) elt te) (hs : ∀ x, foldedSetIterable iter X.env x = pure x) :
    PE X (.ListComp elt [⟨tg, iter, ifs, 0⟩] scope pos) (tLc wi g tt te (own.map (·.2))) := by
  cases ho with
  | false => exact pe_lc hc.1 hN hi ok hg ht he hs
  | true => exact pe_lcH hc.1 hN hi ok hg ht he hs
theorem pe_lc2M {elt tg iter tg1 iter1 : Expr} {ifs ifs1 : List Expr} {scope : Scope} {own : List (Str × Nat)} {vs1 : List Nat} {pos : Pos} {wi wi1 : TI} {g g1 : TG} {tt tt1 : TT} {te : TE} (hc : Md ho k' X) (hN : X.N.Nodup) (hi : PIM ho X tg iter wi) (ok : BlkOk X.N X.env.scope scope own) (hv : ∀ i ∈ vs1, i ∈ own.map (·.2))
    (hg : ∀ (s : Shared) (H : Hp) (C : Addr) (cl : List (Str × Addr)) (fp : List Addr), PG (blkM ho X s H scope (compEnvC scope cl C X.env) fp) tg g) (ht : ∀ (s : Shared) (H : Hp) (C : Addr) (cl : List (Str × Addr)) (fp : List Addr), PTs (blkM ho X s H scope (compEnvC scope cl C X.env) fp) ifs tt)
    (hi1 : ∀ (s : Shared) (H : Hp) (C : Addr) (cl : List (Str × Addr)) (fp : List Addr), PIM ho (blkM ho X s H scope (compEnvC scope cl C X.env) fp) tg1 iter1 wi1)
    (hg1 : ∀ (s : Shared) (H : Hp) (C : Addr) (cl : List (Str × Addr)) (fp : List Addr), PG (blkM ho X s H scope (compEnvC scope cl C X.env) fp) tg1 g1) (ht1 : ∀ (s : Shared) (H : Hp) (C : Addr) (cl : List (Str × Addr)) (fp : List Addr), PTs (blkM ho X s H scope (compEnvC scope cl C X.env) fp) ifs1 tt1)
    (he : ∀ (s : Shared) (H : Hp) (C : Addr) (cl : List (Str × Addr)) (fp : List Addr), PE (blkM ho X s H scope (compEnvC scope cl C X.env) fp) elt te) (hs : ∀ x, foldedSetIterable iter X.env x = pure x) (hs1 : ∀ env x, foldedSetIterable iter1 env x = pure x) :
    PE X (.ListComp elt [⟨tg, iter, ifs, 0⟩, ⟨tg1, iter1, ifs1, 0⟩] scope pos) (tLc2 wi g tt wi1 g1 tt1 te (own.map (·.2)) vs1) := by
  cases ho with
  | false => exact pe_lc2 hc.1 hN hi ok hv hg ht hi1 hg1 ht1 he hs hs1
  | true => exact pe_lc2H hc.1 hN hi ok hv hg ht hi1 hg1 ht1 he hs hs1
end
mutual
theorem snd (TB : Tabs G k T C) : ∀ e : Ex, Snd G k N T C e
  | .var i => fun pe sc X W g tk h => by
    cases pe <;> try exact (Bool.false_ne_true h).elim
    obtain ⟨h1, h2⟩ := an h
    obtain ⟨h0, h1⟩ := an h1
    obtain ⟨a, b, c⟩ := plain_ok h2
    exact plainPT g.K rfl (se_var (by rw [g.nN]; exact dc h0) (by rw [g.sc]; exact visB_ok h1) a b)
  | .cst c => fun pe sc X W g tk h => by
    cases pe <;> try exact (Bool.false_ne_true h).elim
    obtain ⟨h1, h2⟩ := an h
    obtain rfl := dc h1
    obtain ⟨d, hd⟩ := Option.isSome_iff_exists.mp h2
    have e : evalE C (.cst c) = fun _ vh => .ok d vh := by funext env vh; simp only [evalE, hd]
    rw [e]
    exact plainPT g.K rfl (se_cst hd)
  | .glc j => fun pe sc X W g tk h => by
    cases pe <;> try exact (Bool.false_ne_true h).elim
    obtain ⟨h1, h2⟩ := an h
    obtain ⟨h0, h1⟩ := an h1
    obtain ⟨u, v, q1, q2, q3⟩ := TB.gc _ _ (dc h1)
    obtain ⟨a, b, c⟩ := plain_ok h2
    exact plainPT g.K rfl (se_glc (glB_ok g h0) (by rw [g.mg]; exact q1) q2 q3 a)
  | .bin o m a b => fun pe sc X W g tk h => by
    cases pe <;> try exact (Bool.false_ne_true h).elim
    obtain ⟨h, hb⟩ := an h
    obtain ⟨h, ha⟩ := an h
    obtain ⟨h, ho⟩ := an h
    obtain rfl := dc h
    obtain ⟨r, o1, s1⟩ := says_bin (G := G) m g.K ho
    exact plainPT g.K rfl (se_bin o1 s1 ((snd TB a) _ sc X W g tk ha).1 ((snd TB b) _ sc X W g tk hb).1)
  | .neg a => fun pe sc X W g tk h => by
    cases pe <;> try exact (Bool.false_ne_true h).elim
    rename_i op a' pos
    cases op <;> try exact (Bool.false_ne_true h).elim
    obtain ⟨r, o1, s1⟩ := says_neg (G := G) (X := X)
    exact plainPT g.K rfl (se_un o1 s1 ((snd TB a) _ sc X W g tk h).1)
  | .not a => fun pe sc X W g tk h => by
    cases pe <;> try exact (Bool.false_ne_true h).elim
    rename_i op a' pos
    cases op <;> try exact (Bool.false_ne_true h).elim
    obtain ⟨h1, h2⟩ := an h
    obtain ⟨p, q⟩ := (snd TB a) _ sc X W g tk h1
    exact ⟨se_not g.K p, fun _ => st_not (q h2)⟩
  | .and es => fun pe sc X W g tk h => by
    cases pe <;> try exact (Bool.false_ne_true h).elim
    rename_i op vs pos
    cases op <;> try exact (Bool.false_ne_true h).elim
    obtain ⟨h1, h2⟩ := an h
    obtain ⟨h0, h1⟩ := an h1
    obtain ⟨p, q⟩ := snd_and (pos := pos) g tk (by rintro rfl; have := dc h0; simp at this) (snds TB es) h1 h2
    exact ⟨p, fun _ => q.pt⟩
  | .or es => fun pe sc X W g tk h => by
    cases pe <;> try exact (Bool.false_ne_true h).elim
    rename_i op vs pos
    cases op <;> try exact (Bool.false_ne_true h).elim
    obtain ⟨h1, h2⟩ := an h
    obtain ⟨h0, h1⟩ := an h1
    obtain ⟨p, q⟩ := snd_or (pos := pos) g tk (by rintro rfl; have := dc h0; simp at this) (snds TB es) h1 h2
    exact ⟨p, fun _ => q.pt⟩
  | .ite c a b => fun pe sc X W g tk h => by
    cases pe <;> try exact (Bool.false_ne_true h).elim
    obtain ⟨h, hb⟩ := an h
    obtain ⟨h, ha⟩ := an h
    obtain ⟨ho, hc⟩ := an h
    exact ⟨se_ite (((snd TB c) _ sc X W g tk hc).2 ho) ((snd TB a) _ sc X W g tk ha).1 ((snd TB b) _ sc X W g tk hb).1, fun _ => st_ite (((snd TB c) _ sc X W g tk hc).2 ho) (((snd TB a) _ sc X W g tk ha).2 rfl) (((snd TB b) _ sc X W g tk hb).2 rfl)⟩
  | .cmp o a b => fun pe sc X W g tk h => by
    cases pe <;> try exact (Bool.false_ne_true h).elim
    rename_i a' ops bs pos
    match ops, bs, h with
    | [o'], [b'], h =>
      obtain ⟨h, hb⟩ := an h
      obtain ⟨h, ha⟩ := an h
      obtain ⟨h, hs⟩ := an h
      obtain rfl := dc h
      have pa := ((snd TB a) _ sc X W g tk ha).1
      have pb := ((snd TB b) _ sc X W g tk hb).1
      exact ⟨se_cmpE g.K g.hu pa pb (notSet_marks (nt hs)), fun _ => st_cmpE g.K g.hu pa pb (notSet_marks (nt hs))⟩
    | [], _, h => exact (Bool.false_ne_true h).elim
    | [_], [], h => exact (Bool.false_ne_true h).elim
    | [_], _ :: _ :: _, h => exact (Bool.false_ne_true h).elim
    | _ :: _ :: _, _, h => exact (Bool.false_ne_true h).elim
  | .cmp2 o p a b c => fun pe sc X W g tk h => by
    cases pe <;> try exact (Bool.false_ne_true h).elim
    rename_i a' ops bs pos
    match ops, bs, h with
    | [o', p'], [b', c'], h =>
      obtain ⟨h, hc⟩ := an h
      obtain ⟨h, hb⟩ := an h
      obtain ⟨h, ha⟩ := an h
      obtain ⟨h, hs⟩ := an h
      obtain ⟨h, hp⟩ := an h
      obtain rfl := dc h
      obtain rfl := dc hp
      have pa := ((snd TB a) _ sc X W g tk ha).1
      have pb := ((snd TB b) _ sc X W g tk hb).1
      have pc := ((snd TB c) _ sc X W g tk hc).1
      have hm : lastMarks [o, p] [b', c'] = false := notSet_marks (op := p) (nt hs)
      exact ⟨se_chain g.K g.hu pa pb pc hm, fun _ => st_chain g.K g.hu pa pb pc hm⟩
    | [], _, h => exact (Bool.false_ne_true h).elim
    | [_], _, h => exact (Bool.false_ne_true h).elim
    | [_, _], [], h => exact (Bool.false_ne_true h).elim
    | [_, _], [_], h => exact (Bool.false_ne_true h).elim
    | [_, _], _ :: _ :: _ :: _, h => exact (Bool.false_ne_true h).elim
    | _ :: _ :: _ :: _, _, h => exact (Bool.false_ne_true h).elim
  | .tup es => fun pe sc X W g tk h => by
    cases pe <;> try exact (Bool.false_ne_true h).elim
    exact plainPT g.K rfl (se_tup (snd_args g tk (snds TB es) h))
  | .lst m es => fun pe sc X W g tk h => by
    cases pe <;> try exact (Bool.false_ne_true h).elim
    exact plainPT g.K rfl (se_lst (snd_args g tk (snds TB es) h))
  | .idx a b => fun pe sc X W g tk h => by
    cases pe <;> try exact (Bool.false_ne_true h).elim
    obtain ⟨h, hb⟩ := an h
    obtain ⟨hs, ha⟩ := an h
    obtain ⟨r, o1, s1⟩ := says_idx (G := G) (X := X) g.K
    exact plainPT g.K rfl (se_idx o1 s1 ((snd TB a) _ sc X W g tk ha).1 ((snd TB b) _ sc X W g tk hb).1 (notSlice_plain (nt hs)))
  | .slc m l u a lo hi => fun pe sc X W g tk h => by
    cases pe <;> try exact (Bool.false_ne_true h).elim
    rename_i a' s' pos
    cases s' <;> try exact (Bool.false_ne_true h).elim
    rename_i lo' hi' st' p2
    cases st' <;> try exact (Bool.false_ne_true h).elim
    obtain ⟨h, hu⟩ := an h
    obtain ⟨ha, hl⟩ := an h
    have pl : PO X lo' (tO G W (partE (if l then some (evalE C lo) else none))) := by
      split at hl
      · exact so_some ((snd TB lo) _ sc X W g tk hl).1
      · exact so_none
      · cases hl
    have pu : PO X hi' (tO G W (partE (if u then some (evalE C hi) else none))) := by
      split at hu
      · exact so_some ((snd TB hi) _ sc X W g tk hu).1
      · exact so_none
      · cases hu
    exact plainPT g.K rfl (se_slc g.K ((snd TB a) _ sc X W g tk ha).1 pl pu)
  | .rev m a => fun pe sc X W g tk h => by
    cases pe <;> try exact (Bool.false_ne_true h).elim
    rename_i a' s' pos
    cases s' <;> try exact (Bool.false_ne_true h).elim
    rename_i lo' hi' st' p2
    cases lo' <;> try exact (Bool.false_ne_true h).elim
    cases hi' <;> try exact (Bool.false_ne_true h).elim
    cases st' <;> try exact (Bool.false_ne_true h).elim
    rename_i st'
    cases st' <;> try exact (Bool.false_ne_true h).elim
    rename_i op st' p3
    cases op <;> try exact (Bool.false_ne_true h).elim
    cases st' <;> try exact (Bool.false_ne_true h).elim
    rename_i c kk p4
    cases c <;> try exact (Bool.false_ne_true h).elim
    obtain ⟨hi, ha⟩ := an h
    obtain rfl := dc hi
    exact plainPT g.K rfl (se_rev g.K ((snd TB a) _ sc X W g tk ha).1)
  | .call f es => fun pe sc X W g tk h => by
    cases pe <;> try exact (Bool.false_ne_true h).elim
    rename_i fn args kws pos
    cases fn <;> try exact (Bool.false_ne_true h).elim
    rename_i x p
    match args, kws, h with
    | [], _, h => exact (Bool.false_ne_true h).elim
    | _ :: _, _ :: _, h => exact (Bool.false_ne_true h).elim
    | v :: vs, [], h =>
      obtain ⟨h, hs⟩ := an h
      obtain ⟨h, hp⟩ := an h
      obtain ⟨hg, hf⟩ := an h
      obtain ⟨fd, ps, F, m1, k1, b1⟩ := TB.fn _ _ (dc hf)
      obtain ⟨a, b, c⟩ := plain_ok hp
      have st := chkEs_star hs
      refine plainPT g.K rfl ?_
      rw [← g.P, ← g.w, ← g.K, ← g.mg, ← g.base] at F
      exact se_fnM tk F g.md (glB_ok g hg) (by rw [g.mg]; exact m1) (by rw [g.K]; exact k1) (by rw [g.K]; exact b1) (snd_args g tk (snds TB es) hs) a (star_cons (st v List.mem_cons_self) vs X.env) (backTo_any pos X.env fun u hu => st u (List.mem_cons_of_mem _ hu))
  | .blt b m es => fun pe sc X W g tk h => by
    cases pe <;> try exact (Bool.false_ne_true h).elim
    rename_i fn args kws pos
    cases fn <;> try exact (Bool.false_ne_true h).elim
    rename_i x p
    match args, kws, h with
    | [], _, h => exact (Bool.false_ne_true h).elim
    | _ :: _, _ :: _, h => exact (Bool.false_ne_true h).elim
    | v :: vs, [], h =>
      obtain ⟨h, hs⟩ := an h
      obtain ⟨h, hp⟩ := an h
      obtain ⟨h, hf⟩ := an h
      obtain ⟨h, hg⟩ := an h
      obtain ⟨hho, hx⟩ := an h
      obtain rfl := dc hx
      obtain ⟨a, a2, c⟩ := plain_ok hp
      have st := chkEs_star hs
      have hm : X.mg b.name = none := by rw [g.mg]; exact TB.free _ (dc hf)
      refine plainPT g.K rfl ?_
      cases ht : b.ty with
      | none =>
        obtain ⟨r, o1, s1⟩ := says_bltM (G := G) b m g.K g.md hho ht
        exact se_call o1 s1 (glB_ok g hg) hm (boot_blt b ht) (snd_args g tk (snds TB es) hs) c a (star_cons (st v List.mem_cons_self) vs X.env) (backTo_any pos X.env fun u hu => st u (List.mem_cons_of_mem _ hu))
      | some t =>
        obtain ⟨r, o1, s1⟩ := says_ty (G := G) b m g.K ht
        exact se_callTy o1 s1 (glB_ok g hg) hm (boot_ty b ht) (snd_args g tk (snds TB es) hs) c a (star_cons (st v List.mem_cons_self) vs X.env) (backTo_any pos X.env fun u hu => st u (List.mem_cons_of_mem _ hu))
  | .isi t a => fun pe sc X W g tk h => by
    cases pe <;> try exact (Bool.false_ne_true h).elim
    rename_i fn args kws pos
    cases fn <;> try exact (Bool.false_ne_true h).elim
    rename_i x p
    match args, kws, h with
    | [], _, h => exact (Bool.false_ne_true h).elim
    | [_], _, h => exact (Bool.false_ne_true h).elim
    | _ :: y :: _ :: _, _, h => cases y <;> exact (Bool.false_ne_true h).elim
    | [_, y], _ :: _, h => cases y <;> exact (Bool.false_ne_true h).elim
    | [a', y], [], h =>
      cases y <;> try exact (Bool.false_ne_true h).elim
      rename_i y p2
      obtain ⟨h, ha⟩ := an h
      obtain ⟨h, hs⟩ := an h
      obtain ⟨h, f2⟩ := an h
      obtain ⟨h, f1⟩ := an h
      obtain ⟨h, g2⟩ := an h
      obtain ⟨h, g1⟩ := an h
      obtain ⟨h, ht⟩ := an h
      obtain ⟨hx, hy⟩ := an h
      obtain rfl := dc hx
      obtain rfl := dc hy
      exact plainPT g.K rfl (se_isi g.K (dc ht) ((snd TB a) _ sc X W g tk ha).1 (glB_ok g g1) (by rw [g.mg]; exact TB.free _ (dc f1)) (glB_ok g g2) (by rw [g.mg]; exact TB.free _ (dc f2)) (star_cons (nt hs) _ X.env) rfl rfl)
  | .app a e => fun pe sc X W g tk h => by
    cases pe <;> try exact (Bool.false_ne_true h).elim
    rename_i fn args kws pos
    cases fn <;> try exact (Bool.false_ne_true h).elim
    rename_i o' mm apos
    cases o' <;> try exact (Bool.false_ne_true h).elim
    rename_i x px
    match args, kws, h with
    | [], _, h => exact (Bool.false_ne_true h).elim
    | _ :: _ :: _, _, h => exact (Bool.false_ne_true h).elim
    | [_], _ :: _, h => exact (Bool.false_ne_true h).elim
    | [e'], [], h =>
      obtain ⟨h, he⟩ := an h
      obtain ⟨h, hs⟩ := an h
      obtain ⟨h, ha⟩ := an h
      obtain ⟨hm, hl⟩ := an h
      obtain rfl := dc hm
      have st := star_cons (nt hs) [] X.env
      refine plainPT g.K rfl (se_app g.K ((snd TB a) _ sc X W g tk ha).1 ((snd TB e) _ sc X W g tk he).1 rfl ?_ hl st rfl)
      rw [st]; rfl
  | .comp m own t ik a b c e => fun pe sc X W g tk h => by
    cases pe <;> try exact (Bool.false_ne_true h).elim
    rename_i e' gens sc' pos
    match gens, h with
    | [], h => exact (Bool.false_ne_true h).elim
    | ⟨_, _, _, _⟩ :: ⟨_, _, _, _⟩ :: _, h => exact (Bool.false_ne_true h).elim
    | [⟨tg, it', ifs, as⟩], h =>
      obtain ⟨h, h7⟩ := an h
      obtain ⟨h, h6⟩ := an h
      obtain ⟨h, h5⟩ := an h
      obtain ⟨h, h4⟩ := an h
      obtain ⟨h, h3⟩ := an h
      obtain ⟨h, h2⟩ := an h
      obtain ⟨h0, h1⟩ := an h
      obtain rfl := dc h0
      obtain ⟨a1, a2, a3, a4, a5, a6⟩ := snd_comp TB g tk (snd TB a) (snd TB b) (snd TB c) (snd TB e) h1 h2 h4 h5 h6 h7
      exact plainPT g.K rfl (PE.imp (pe_lcM g.md g.nd' a1 a3 a4 a5 a6 (notSet_folded a2 X.env)) (tE_comp (slots_ok h3)))
  | .comp2 m own t ik a b c t1 ik1 b1 b2 c1 e => fun pe sc X W g tk h => by
    cases pe <;> try exact (Bool.false_ne_true h).elim
    rename_i e' gens sc' pos
    match gens, h with
    | [], h => exact (Bool.false_ne_true h).elim
    | [⟨_, _, _, _⟩], h => exact (Bool.false_ne_true h).elim
    | ⟨_, _, _, _⟩ :: ⟨_, _, _, _⟩ :: _ :: _, h => exact (Bool.false_ne_true h).elim
    | [⟨tg, it', ifs, as⟩, ⟨tg1, it1', ifs1, as1⟩], h =>
      obtain ⟨h, h7⟩ := an h
      obtain ⟨h, k6⟩ := an h
      obtain ⟨h, k5⟩ := an h
      obtain ⟨h, k4⟩ := an h
      obtain ⟨h, h6⟩ := an h
      obtain ⟨h, h5⟩ := an h
      obtain ⟨h, h4⟩ := an h
      obtain ⟨h, k3⟩ := an h
      obtain ⟨h, k2⟩ := an h
      obtain ⟨h, h3⟩ := an h
      obtain ⟨h, h2⟩ := an h
      obtain ⟨h, h1⟩ := an h
      obtain ⟨h0, h01⟩ := an h
      obtain rfl := dc h0
      obtain rfl := dc h01
      obtain ⟨a1, a2, a3, a4, a5, a6⟩ := snd_comp TB g tk (snd TB a) (snd TB b) (snd TB c) (snd TB e) h1 h2 h4 h5 h6 h7
      have it1s : ∀ (s : Shared) (H : Hp) (C0 : Addr) (cl : List (Str × Addr)) (fp : List Addr), PIM T.hot (blkM T.hot X s H sc' (compEnvC sc' cl C0 X.env) fp) tg1 it1' (tI G W0 (itE ik1 (evalE C b1) (evalE C b2))) ∧ isSet it1' = false := fun s H C0 cl fp => snd_it TB (g.blk ..) takes0 (snd TB b1) (snd TB b2) k4
      have hs1 : isSet it1' = false := by
        cases ik1 with
        | sq => exact nt (an k4).1
        | r1 => cases it1' <;> first | rfl | exact (Bool.false_ne_true k4).elim
        | r2 => cases it1' <;> first | rfl | exact (Bool.false_ne_true k4).elim
      refine plainPT g.K rfl (PE.imp (pe_lc2M (vs1 := t1.slots) g.md g.nd' a1 a3 (slots_ok k3) a4 a5 (fun s H C0 cl fp => (it1s s H C0 cl fp).1) (fun s H C0 cl fp => ?_) (fun s H C0 cl fp => snd_ifs (g.blk ..) takes0 (snd TB c1) k5 k6) a6 (notSet_folded a2 X.env) (notSet_folded hs1)) (tE_comp2 (slots_ok h3) (fun i hi => hi)))
      have gb := g.blk s H sc' C0 cl fp
      exact ct_pg (X := blkM T.hot X s H sc' (compEnvC sc' cl C0 X.env) fp) (st := fun x => locB sc' x = true) (fun x hx => blk_store x hx) gb.nd' gb.md gb.K (fun x hx => hx) (by rw [gb.nN]; exact k2)
  | .yes => fun pe sc X W g tk h => by cases pe <;> exact (Bool.false_ne_true h).elim
  | .frz a => fun pe sc X W g tk h => by
    have h : (plainT pe && chkE T N sc a pe) = true := by cases pe <;> exact h
    obtain ⟨hp, ha⟩ := an h
    exact plainPT g.K hp (PE.imp ((snd TB a) _ sc X W g tk ha).1 fun σ H Q ⟨w, env, vh, R, RE, q⟩ => ⟨w, env, vh, R, RE, (Post.bind (rep := RepD G) q).mono fun v H1 ⟨w1, d, vh1, L1, R1, r1, h1⟩ => freezeD_ok R1 r1 h1⟩)
  | .xat i f => fun pe sc X W g tk h => by
    cases pe <;> try exact (Bool.false_ne_true h).elim
    rename_i o' gname pos
    cases o' <;> try exact (Bool.false_ne_true h).elim
    obtain ⟨h, h5⟩ := an h
    obtain ⟨h, h4⟩ := an h
    obtain ⟨h, h3⟩ := an h
    obtain ⟨h1, h2⟩ := an h
    obtain rfl := dc h2
    exact plainPT g.K rfl (pe_xat g h1 (dc h3) h4 h5)
  | .sset m a => fun pe sc X W g tk h => by
    cases pe <;> try exact (Bool.false_ne_true h).elim
    rename_i fn args kws pos
    obtain ⟨x, px, y, py, a', py2, rfl, rfl, rfl⟩ := sset_shape h
    obtain ⟨h, ha⟩ := an h
    obtain ⟨h, hs⟩ := an h
    obtain ⟨h, f2⟩ := an h
    obtain ⟨h, f1⟩ := an h
    obtain ⟨h, g2⟩ := an h
    obtain ⟨h, g1⟩ := an h
    obtain ⟨h, hy⟩ := an h
    obtain ⟨hh, hx⟩ := an h
    obtain rfl := dc hx
    obtain rfl := dc hy
    have hc : X.calm = true := by
      have z := g.md
      rw [nt hh] at z
      exact z.1
    exact plainPT g.K rfl (se_sset hc g.K (glB_ok g g1) (by rw [g.mg]; exact TB.free _ (dc f1)) (glB_ok g g2) (by rw [g.mg]; exact TB.free _ (dc f2)) ((snd TB a) _ sc X W g tk ha).1 (star_cons (nt hs) [] X.env))
theorem snds (TB : Tabs G k T C) : ∀ es : List Ex, ∀ e ∈ es, Snd G k N T C e
  | [], e, h => by cases h
  | a :: es, e, h => (List.mem_cons.mp h).elim (fun q => q ▸ snd TB a) fun q => snds TB es e q
end
end
end L3
end
section
set_option Elab.async false
set_option linter.all false
set_option maxRecDepth 100000
set_option maxHeartbeats 8000000
namespace L3
open PySem PySem.Spec L2 L2H
open PyProof.Rows hiding St
/-! ### raise -/
def raiseS (lv : Nat) (o : Option (Nat × List (Str × Nat))) (c : Nat) (fs : Env3 → VH → Res (List D)) (env : Env3) (vh : VH) : SRes := match o with
  | some (n, gs) => if 2 ≤ lv then bindS (fs env vh) env fun ds vh1 => if ds.length = n then .exn c (gs.map fun p => (p.1, (D.non :: ds).getD p.2 .non)) env vh1 else .bad else .bad
  | none => .bad
section
variable {G : Gx} {k : Nat} {N : List Str} {T : Tb} {C : Cs} {X : Cx} {W : WX} {sc : Scope}
theorem lookup_fld {w : Wd} {H : Hp} {ds : List D} {vs : List V} (r : RepDs G w H ds vs) : ∀ (gs : List (Str × Nat)) (x : Str) (d : D), (gs.map fun p => (p.1, (D.non :: ds).getD p.2 .non)).lookup x = some d → ∃ v, (gs.map fun q => (q.1, (V.non :: vs).getD q.2 .non)).lookup x = some v ∧ RepD G w H d v
  | [], x, d, h => by cases h
  | (f, i) :: gs, x, d, h => by
    have hr : RepDs G w H (D.non :: ds) (V.non :: vs) := .cons (by simp only [RepD]) r
    have key : RepD G w H ((D.non :: ds).getD i .non) ((V.non :: vs).getD i .non) := by
      rw [List.getD_eq_getElem?_getD, List.getD_eq_getElem?_getD]
      cases e : (D.non :: ds)[i]? with
      | some d' =>
        obtain ⟨v, ev, rv⟩ := hr.get e
        rw [ev]
        exact rv
      | none =>
        have hl := hr.length
        have : (V.non :: vs)[i]? = none := by
          rw [List.getElem?_eq_none_iff] at e ⊢
          omega
        rw [this]
        simp only [Option.getD_none, RepD]
    rw [List.map_cons, List.lookup_cons] at h ⊢
    cases hb : (x == f) with
    | true =>
      simp only [hb] at h ⊢
      cases h
      exact ⟨_, rfl, key⟩
    | false =>
      simp only [hb] at h ⊢
      exact lookup_fld r gs x d h
/-- the last of a name wins, where each stands once -/
theorem lookup_rev {α : Type} : ∀ {l : List (Str × α)}, (l.map (·.1)).Nodup → ∀ x, l.reverse.lookup x = l.lookup x
  | [], _, _ => rfl
  | (f, v) :: r, nd, x => by
    have nd' := List.nodup_cons.mp (show (f :: r.map (·.1)).Nodup from nd)
    rw [List.reverse_cons, List.lookup_append, lookup_rev nd'.2]
    rw [show ((f, v) :: r).lookup x = (match x == f with | true => some v | false => r.lookup x) from List.lookup_cons ..]
    cases hb : (x == f) with
    | true =>
      have e : x = f := by simpa using hb
      subst e
      have : r.lookup x = none := by
        cases q : r.lookup x with
        | none => rfl
        | some u => exact absurd (List.mem_map.mpr ⟨_, PySem.mem_of_lookup q, rfl⟩) nd'.1
      rw [this]
      simp [List.lookup]
    | false =>
      have e2 : (([(f, v)] : List (Str × α)).lookup x) = none := by simp [List.lookup, hb]
      cases q : r.lookup x <;> simp_all [List.lookup]
theorem ss_raise {c : Nat} {n : Nat} {gs : List (Str × Nat)} {x : Str} {p pos pos' : Pos} {e : Expr} {es : List Expr} {fs : Env3 → VH → Res (List D)} {lv : Nat} (hc : X.calm = true) (tk : L2N.Takes X W) (hK : X.K = G.K)
    (Z : ∀ (hlv : 2 ≤ lv), ∃ CX' fI fd ps, OexC X.K (G.ga c) ∧ PySem.W.findIn X.K (.ref (G.ga c)) "__init__" = some (some (.ref fI)) ∧ PySem.W.typeIn X.K (.ref fI) = some (.type "function") ∧ FnOk X.prog X.w X.K X.mg X.base CX' 1 fI fd ps (spIni X.K (G.ga c) n gs) ∧ Binds X.K fd ps [] ∧ Room (1 + 1) X.A ∧ Passes CX' X (fun _ _ _ => False))
    (hn : n ≤ 900) (hpos : ∀ q ∈ gs, 0 < q.2) (nd : (gs.map (·.1)).Nodup) (hg : Gl X x) (hm : X.mg x = some (.ref (G.ga c))) (ha : PA X (e :: es) (tAs G W fs)) (hdb : (x == ("__debug__" : Str)) = false)
    (he : starEach (e :: es) X.env = (false, eval e X.env) :: starEach es X.env) (hpl : (backTo pos (starEach es X.env)).any (·.1) = false) :
    PS X (.Raise (some (.Call (.Name x p) (e :: es) [] pos)) none pos') (tS G W (raiseS lv (some (n, gs)) c fs)) := by
  by_cases hlv : 2 ≤ lv
  · obtain ⟨CX', fI, fd, ps, T0, iC, tI, F1, hb, hr, hx⟩ := Z hlv
    refine PS.imp (L2N.ps_raise hc tk (mk_new (n := n) (fs := gs) T0 iC tI F1 hr hb hx hg hm ha hn hpos hdb he hpl)) fun D σ H ⟨w, env, vh, R, RE, h⟩ => ?_
    rw [show raiseS lv (some (n, gs)) c fs env vh = (if 2 ≤ lv then bindS (fs env vh) env (fun ds vh1 => if ds.length = n then SRes.exn c (gs.map fun p => (p.1, (L3.D.non :: ds).getD p.2 .non)) env vh1 else .bad) else .bad) from rfl] at h
    rw [if_pos hlv] at h
    refine ⟨w, env, vh, R, RE, (h.bind (rep := RepDs G) RE).mono fun vs H1 ⟨w1, ds, vh1, L1, R1, r1, h1⟩ => ?_⟩
    split at h1
    · rename_i hh
      refine ⟨by rw [r1.length]; exact hh, fun d hd => ?_⟩
      obtain ⟨L2', R2⟩ := alloc_any R1 (.xd ((gs.map fun q => (q.1, (V.non :: vs).getD q.2 .non)).reverse)) hd
      refine h1 w1 σ d _ _ L2' R2 ((RE.le L1).le L2') upd_same fun y z hz => ?_
      obtain ⟨v, ev, rv⟩ := lookup_fld r1 gs y z hz
      refine ⟨v, ?_, L2'.rep _ _ rv⟩
      rw [lookup_rev (by rw [List.map_map]; exact nd)]
      exact ev
    · exact h1.elim
  · refine ⟨fun pins s σ H D I ⟨w, env, vh, R, RE, h⟩ => ?_⟩
    rw [show raiseS lv (some (n, gs)) c fs env vh = (if 2 ≤ lv then bindS (fs env vh) env (fun ds vh1 => if ds.length = n then SRes.exn c (gs.map fun p => (p.1, (L3.D.non :: ds).getD p.2 .non)) env vh1 else .bad) else .bad) from rfl] at h
    rw [if_neg hlv] at h
    exact h.elim
end
end L3
end
section
set_option Elab.async false
set_option linter.all false
set_option maxRecDepth 100000
set_option maxHeartbeats 8000000
namespace L3
open PySem PySem.Spec L2 L2H
open PyProof.Rows hiding St
/-! ### try: .. except C as n: .. -/
mutual
/-- the caught error is not within -/
def D.noGl : D → Bool
  | .gl _ => false
  | .tup ds => D.noGls ds
  | .lst ds => D.noGls ds
  | .scr ds => D.noGls ds
  | _ => true
def D.noGls : List D → Bool
  | [] => true
  | d :: ds => d.noGl && D.noGls ds
end
def D.scal : D → Bool
  | .non | .bl _ | .int _ | .str _ => true
  | _ => false
def O.noGl : O → Bool
  | .lst ds => D.noGls ds
  | .gone => true
def noGlO : Option D → Bool
  | some d => d.noGl
  | none => true
def tryS (b : Env3 → VH → SRes) (sub : Nat → Option Bool) (okF : Nat → Str → Bool) (i : Nat) (keep : Bool) (s : List (Str × D) → Env3 → VH → SRes) (env : Env3) (vh : VH) : SRes := match b env vh with
  | .exn c fs env' vh' => match sub c with
    | some true => if fs.all (fun p => p.2.scal && okF c p.1) then (match s fs ((if keep then env' else env'.map fun _ => none).set i (some (.gl 0))) (if keep then vh' else vh'.map fun _ => .gone) with
      | .nx e v => if (e.set i none).all noGlO && v.all O.noGl then .nx (e.set i none) v else .bad
      | .bk e v => if (e.set i none).all noGlO && v.all O.noGl then .bk (e.set i none) v else .bad
      | .ct e v => if (e.set i none).all noGlO && v.all O.noGl then .ct (e.set i none) v else .bad
      | .rt d v => if d.noGl && v.all O.noGl then .rt d v else .bad
      | _ => .bad) else .bad
    | some false => .exn c fs env' vh'
    | none => .bad
  | r => r
abbrev Gxa (G : Gx) (x : Addr × Addr × List (Str × V)) : Gx := { G with xa := some x }
section
variable {G1 G2 : Gx} {w1 w2 : Wd} {H : Hp}
mutual
theorem RepD.via (hK : G2.K = G1.K) (hρ : w2.ρ = w1.ρ) (hn : w2.n = w1.n) (hf : w2.fz = w1.fz) : ∀ (d : D) (v : V), (G1.xa = none ∨ d.noGl = true) → RepD G1 w1 H d v → RepD G2 w2 H d v
  | .non, v, _, h => by simpa only [RepD] using h
  | .bl b, v, _, h => by simpa only [RepD] using h
  | .int i, v, _, h => by simpa only [RepD] using h
  | .str x, v, _, h => by simpa only [RepD] using h
  | .gl x, v, z, h => by
    simp only [RepD] at h
    obtain ⟨x, hx, _⟩ := h
    rcases z with z | z
    · rw [z] at hx; cases hx
    · cases z
  | .ref n, v, _, h => by
    simp only [RepD] at h ⊢
    rw [hn, hρ]; exact h
  | .tup ds, v, z, h => by
    simp only [RepD] at h ⊢
    obtain ⟨p, vs, e, h1, h2⟩ := h
    exact ⟨p, vs, e, by rw [hK]; exact h1, RepDs.via hK hρ hn hf ds vs (z.imp id fun q => by simpa only [D.noGl] using q) h2⟩
  | .lst ds, v, z, h => by
    simp only [RepD] at h ⊢
    obtain ⟨p, vs, e, h1, h2⟩ := h
    exact ⟨p, vs, e, by rw [hf]; exact h1, RepDs.via hK hρ hn hf ds vs (z.imp id fun q => by simpa only [D.noGl] using q) h2⟩
  | .scr ds, v, z, h => by
    simp only [RepD] at h ⊢
    obtain ⟨p, vs, e, h1, h2⟩ := h
    refine ⟨p, vs, e, ?_, RepDs.via hK hρ hn hf ds vs (z.imp id fun q => by simpa only [D.noGl] using q) h2⟩
    unfold ScrL at h1 ⊢
    rw [hf, hK]; exact h1
theorem RepDs.via (hK : G2.K = G1.K) (hρ : w2.ρ = w1.ρ) (hn : w2.n = w1.n) (hf : w2.fz = w1.fz) : ∀ (ds : List D) (vs : List V), (G1.xa = none ∨ D.noGls ds = true) → RepDs G1 w1 H ds vs → RepDs G2 w2 H ds vs
  | [], vs, _, h => by simpa only [RepDs] using h
  | d :: ds, vs, z, h => by
    simp only [RepDs] at h ⊢
    obtain ⟨v, vs', e, h1, h2⟩ := h
    exact ⟨v, vs', e, RepD.via hK hρ hn hf d v (z.imp id fun q => by simp only [D.noGls, Bool.and_eq_true] at q; exact q.1) h1, RepDs.via hK hρ hn hf ds vs' (z.imp id fun q => by simp only [D.noGls, Bool.and_eq_true] at q; exact q.2) h2⟩
end
mutual
theorem noGl_of (hx : G1.xa = none) : ∀ (d : D) (v : V), RepD G1 w1 H d v → d.noGl = true
  | .non, v, _ => rfl
  | .bl b, v, _ => rfl
  | .int i, v, _ => rfl
  | .str x, v, _ => rfl
  | .ref n, v, _ => rfl
  | .gl x, v, h => by
    simp only [RepD] at h
    obtain ⟨x, hq, _⟩ := h
    rw [hx] at hq; cases hq
  | .tup ds, v, h => by
    simp only [RepD] at h
    obtain ⟨p, vs, e, h1, h2⟩ := h
    simp only [D.noGl]; exact noGls_of hx ds vs h2
  | .lst ds, v, h => by
    simp only [RepD] at h
    obtain ⟨p, vs, e, h1, h2⟩ := h
    simp only [D.noGl]; exact noGls_of hx ds vs h2
  | .scr ds, v, h => by
    simp only [RepD] at h
    obtain ⟨p, vs, e, h1, h2⟩ := h
    simp only [D.noGl]; exact noGls_of hx ds vs h2
theorem noGls_of (hx : G1.xa = none) : ∀ (ds : List D) (vs : List V), RepDs G1 w1 H ds vs → D.noGls ds = true
  | [], vs, _ => rfl
  | d :: ds, vs, h => by
    simp only [RepDs] at h
    obtain ⟨v, vs', e, h1, h2⟩ := h
    simp only [D.noGls, Bool.and_eq_true]
    exact ⟨noGl_of hx d v h1, noGls_of hx ds vs' h2⟩
end
theorem RepO.via (hK : G2.K = G1.K) (hρ : w2.ρ = w1.ρ) (hn : w2.n = w1.n) (hf : w2.fz = w1.fz) (n : Nat) (o : O) (z : G1.xa = none ∨ o.noGl = true) (h : RepO G1 w1 H n o) : RepO G2 w2 H n o := by
  cases o with
  | gone => trivial
  | lst ds =>
    obtain ⟨h0, vs, h1, h2⟩ := h
    exact ⟨by rw [hf, hρ]; exact h0, vs, by rw [hρ]; exact h1, RepDs.via hK hρ hn hf ds vs z h2⟩
theorem RepD.pinX {p : Addr → Option HO} (hK : G2.K = G1.K) (d : D) (v : V) (z : G1.xa = none ∨ d.noGl = true) (h : RepD G1 w1 H d v) : RepD G2 { w1 with pin := p } H d v := RepD.via (G1 := G1) (G2 := G2) (w1 := w1) (w2 := { w1 with pin := p }) hK rfl rfl rfl d v z h
theorem RepO.pinX {p : Addr → Option HO} (hK : G2.K = G1.K) (n : Nat) (o : O) (z : G1.xa = none ∨ o.noGl = true) (h : RepO G1 w1 H n o) : RepO G2 { w1 with pin := p } H n o := RepO.via (G1 := G1) (G2 := G2) (w1 := w1) (w2 := { w1 with pin := p }) hK rfl rfl rfl n o z h
end
section
variable {G : Gx} {X : Cx} {W : WX}
/-- a scalar is told by itself -/
theorem scal_rep {w w' : Wd} {H H' : Hp} {G' : Gx} {d : D} {v : V} (hs : d.scal = true) (h : RepD G w H d v) : RepD G' w' H' d v := by
  cases d <;> first | (cases hs; done) | (simpa only [RepD] using h)
/-- into the suite -/
theorem into_suite (hx : G.xa = none) {w : Wd} {vh : VH} {H : Hp} {a dx : Addr} {fv : List (Str × V)} (R : RelH G w vh H) (hd : H dx = some (.xd fv)) : RelH (Gxa G (a, dx, fv)) { w with pin := pinAt dx (.xd fv) w.pin } vh H := by
  refine ⟨R.len, R.inj, R.there, R.frozen, fun b o e => ?_, fun b o e => ?_, fun i o e => RepO.pinX (G1 := G) (by rfl) i o (.inl hx) (R.obj i o e), fun x ex => ?_⟩
  · have e : pinAt dx (.xd fv) w.pin b = some o := e
    by_cases hb : b = dx
    · subst hb; rw [pinAt_self] at e; cases e; exact hd
    · rw [pinAt_ne hb] at e; exact R.pinH b o e
  · have e : pinAt dx (.xd fv) w.pin b = some o := e
    by_cases hb : b = dx
    · subst hb
      refine ⟨fun z => ?_, fun i hi q => ?_⟩
      · obtain ⟨vs, q⟩ := R.frozen _ z
        rw [hd] at q; cases q
      · obtain ⟨vs, q2⟩ := R.there i hi
        rw [q, hd] at q2; cases q2
    · rw [pinAt_ne hb] at e; exact R.pinZ b o e
  · cases ex
    exact pinAt_self
/-- out of the suite -/
theorem out_suite (hx : G.xa = none) {w w1 w3 : Wd} {vh1 v3 : VH} {H H1 H3 : Hp} {a dx : Addr} {fv : List (Str × V)} (L : Le G w H w1 H1) (R1 : RelH G w1 vh1 H1) (hd : H1 dx = some (.xd fv)) (L3' : Le (Gxa G (a, dx, fv)) { w1 with pin := pinAt dx (.xd fv) w1.pin } H1 w3 H3)
    (R3 : RelH (Gxa G (a, dx, fv)) w3 v3 H3) (hv : v3.all O.noGl = true) : Le G w H { w3 with pin := w.pin } H3 ∧ RelH G { w3 with pin := w.pin } v3 H3 ∧ ∀ d v, d.noGl = true → RepD (Gxa G (a, dx, fv)) w3 H3 d v → RepD G { w3 with pin := w.pin } H3 d v := by
  have pins : ∀ b o, w.pin b = some o → w3.pin b = some o := fun b o e => by
    rw [L3'.pin]
    show pinAt dx (.xd fv) w1.pin b = some o
    have e1 : w1.pin b = some o := by rw [L.pin]; exact e
    by_cases hb : b = dx
    · subst hb
      have := R1.pinH _ _ e1
      rw [hd] at this
      rw [pinAt_self]; exact this
    · rw [pinAt_ne hb]; exact e1
  have back : ∀ d v, d.noGl = true → RepD (Gxa G (a, dx, fv)) w3 H3 d v → RepD G { w3 with pin := w.pin } H3 d v := fun d v hg h => RepD.pinX (G1 := Gxa G (a, dx, fv)) (by rfl) d v (.inr hg) h
  refine ⟨⟨Nat.le_trans L.n L3'.n, fun d v h => ?_, rfl⟩, ⟨R3.len, R3.inj, R3.there, R3.frozen, fun b o e => R3.pinH b o (pins b o e), fun b o e => R3.pinZ b o (pins b o e), fun i o e => RepO.pinX (G1 := Gxa G (a, dx, fv)) (by rfl) i o (.inr ?_) (R3.obj i o e), fun x ex => by rw [hx] at ex; cases ex⟩, back⟩
  · exact back d v (noGl_of hx d v h) (L3'.rep d v (RepD.pinX (G1 := G) (by rfl) d v (.inl hx) (L.rep d v h)))
  · exact List.all_eq_true.mp hv o (List.mem_of_getElem? e)
theorem env_into (hx : G.xa = none) {w : Wd} {H : Hp} {a dx : Addr} {fv : List (Str × V)} {env : Env3} {σ : L2.St} (RE : RelE G w H env σ) (keep : Bool) (i : Nat) :
    RelE (Gxa G (a, dx, fv)) { w with pin := pinAt dx (.xd fv) w.pin } H ((if keep then env else env.map fun _ => none).set i (some (.gl 0))) (σ.set i (some (.ref a))) := by
  have base : RelE (Gxa G (a, dx, fv)) { w with pin := pinAt dx (.xd fv) w.pin } H (if keep then env else env.map fun _ => none) σ := by
    cases keep with
    | true => exact ⟨RE.len, fun j d e => let ⟨v, e', r⟩ := RE.at_ j d e; ⟨v, e', RepD.pinX (G1 := G) (by rfl) d v (.inl hx) r⟩⟩
    | false => exact ⟨by simpa using RE.len, fun j d e => by simp [List.getElem?_map] at e⟩
  exact base.set i (by simp only [RepD]; exact ⟨_, rfl, rfl⟩)
theorem env_out {w3 : Wd} {H3 : Hp} {G' : Gx} {p : Addr → Option HO} (hK : G.K = G'.K) {e : Env3} {σ : L2.St} (RE : RelE G' w3 H3 e σ) (i : Nat) (hg : (e.set i none).all noGlO = true) : RelE G { w3 with pin := p } H3 (e.set i none) (σ.set i none) := by
  refine ⟨by rw [List.length_set, List.length_set]; exact RE.len, fun j d q => ?_⟩
  have hng : d.noGl = true := List.all_eq_true.mp hg (some d) (List.mem_of_getElem? q)
  by_cases hj : i = j
  · subst hj
    rw [List.getElem?_set] at q
    split at q
    · split at q <;> cases q
    · rename_i h; exact absurd rfl h
  · rw [List.getElem?_set_ne hj] at q
    obtain ⟨v, e', r⟩ := RE.at_ j d q
    exact ⟨v, by rw [List.getElem?_set_ne hj]; exact e', RepD.pinX (G1 := G') hK d v (.inr hng) r⟩
theorem goneH {w : Wd} {vh : VH} {H : Hp} (R : RelH G w vh H) (keep : Bool) : RelH G w (if keep then vh else vh.map fun _ => .gone) H := by
  cases keep with
  | true => exact R
  | false =>
    refine ⟨by simpa using R.len, R.inj, R.there, R.frozen, R.pinH, R.pinZ, fun i o e => ?_, R.xp⟩
    simp only [Bool.false_eq_true, if_false, List.getElem?_map, Option.map_eq_some_iff] at e
    obtain ⟨_, _, rfl⟩ := e
    trivial
end
end L3
end
section
set_option Elab.async false
set_option linter.all false
set_option maxRecDepth 100000
set_option maxHeartbeats 8000000
namespace L3
open PySem PySem.Spec L2 L2H
open PyProof.Rows hiding St
section
variable {G : Gx} {X : Cx} {W : WX}
/-- what the suite is told of the caught error -/
structure XFs (G : Gx) (okF : Nat → Str → Bool) (cx : Nat) (x : Addr × Addr × List (Str × V)) (fs : List (Str × D)) : Prop where
  ok : ∀ f d, fs.lookup f = some d → okF cx f = true
  rep : ∀ f d, fs.lookup f = some d → ∃ v, x.2.2.lookup f = some v ∧ ∀ w H, RepD (Gxa G x) w H d v
theorem ss_try {x n : Str} {c i : Nat} {body suite : List Stmt} {b₀ : Stmt} {np pos pos' : Pos} {f : Env3 → VH → SRes} {sub : Nat → Option Bool} {okF : Nat → Str → Bool} {keep : Bool} {s : List (Str × D) → Env3 → VH → SRes}
    (hx : G.xa = none) (tk : L2N.Takes X W) (hs : X.stack = X.env :: X.outer) (hf : X.env.frame = some X.env.locals) (hN : X.N.Nodup) (hi : X.N[i]? = some n) (hln : X.env.kindOf n = some .local) (hc : Names X x (.ref (G.ga c)))
    (hsub : ∀ c' b, sub c' = some b → PySem.W.exmOne X.K (.ref (G.ga c')) (.ref (G.ga c)) = some b)
    (hb : ∀ (W' : WX) (pn : List (Addr × Obj)) (xe : Value → Shared → Prop), L2N.Takes (X.tr pn xe) W' → PassesOwn (model X.prog X.w) X.A X.env xe → PSs (X.tr pn xe) body (tS G W' f))
    (hsu : ∀ (z : Addr × Addr × List (Str × V)) (oe : Obj) (cx : Nat) (fs : List (Str × D)) (pn : List (Addr × Obj)), L2N.Zn (.ref (G.ga cx)) (some z.2.1) oe → (∃ vs, oe.data = .fields vs) → XFs G okF cx z fs → PSs (X.suite z.1 ((z.1, oe) :: pn)) (b₀ :: suite) (tS (Gxa G z) W0 (s fs))) :
    PS X (.Try body [.ExceptHandler (some (.Name x np)) (some n) (b₀ :: suite) pos'] [] [] pos) (tS G W (tryS f sub okF i keep s)) := by
  refine PS.imp (L2N.ps_try_as (tb := fun W' => tS G W' f) (ts := fun a cls d D σ H => ∃ (z : Addr × Addr × List (Str × V)) (cx : Nat) (fs : List (Str × L3.D)), z.1 = a ∧ d = some z.2.1 ∧ cls = .ref (G.ga cx) ∧ XFs G okF cx z fs ∧ tS (Gxa G z) W0 (s fs) D σ H) hs hf hN hi hln hc tk hb
    fun a oe cls d pn hz hv => ⟨fun pins s1 σ H D I ⟨z, cx, fs, e1, e2, e3, xf, h⟩ => ?_⟩) fun D σ H ⟨w, env, vh, R, RE, h⟩ => ⟨w, env, vh, R, RE, ?_⟩
  · subst e1 e2 e3
    exact (hsu z oe cx fs pn hz hv xf).run pins s1 σ H D I h
  · unfold tryS at h
    generalize f env vh = r at h
    cases r with
    | nx e v => exact h
    | rt d v => exact h
    | bk e v => exact h
    | ct e v => exact h
    | bad => exact h
    | exn c' fs env' vh' =>
      intro w' σ' dx fv H' L R' RE' hd rf
      dsimp only at h
      cases es : sub c' with
      | none => rw [es] at h; exact h.elim
      | some b =>
        rw [es] at h
        refine ⟨b, hsub c' b es, fun hb1 a ha => ?_, fun hb0 => ?_⟩
        · subst hb1
          dsimp only at h
          split at h
          · rename_i hall
            have hall : ∀ p ∈ fs, p.2.scal = true ∧ okF c' p.1 = true := fun p hp => by
              have := List.all_eq_true.mp hall p hp
              simpa using this
            refine ⟨(a, dx, fv), c', fs, rfl, rfl, rfl, ⟨fun f d e => (hall (f, d) (PySem.mem_of_lookup e)).2, fun f d e => ?_⟩, ?_⟩
            · obtain ⟨v, ev, rv⟩ := rf f d e
              exact ⟨v, ev, fun w2 H2 => scal_rep (hall (f, d) (PySem.mem_of_lookup e)).1 rv⟩
            refine ⟨_, _, _, goneH (into_suite hx R' hd) keep, env_into hx RE' keep i, ?_⟩
            have L0 := fun {w3 : Wd} {v3 : VH} {H3 : Hp} (L3' : Le (Gxa G (a, dx, fv)) { w' with pin := pinAt dx (.xd fv) w'.pin } H' w3 H3) (R3 : RelH (Gxa G (a, dx, fv)) w3 v3 H3) (hv : v3.all O.noGl = true) => out_suite hx L R' hd L3' R3 hv
            generalize s fs ((if keep then env' else env'.map fun _ => none).set i (some (.gl 0))) (if keep then vh' else vh'.map fun _ => .gone) = q at h
            cases q with
            | nx e v =>
              dsimp only at h
              split at h
              · rename_i hg
                rw [Bool.and_eq_true] at hg
                intro w3 σ3 H3 L3' R3 RE3
                obtain ⟨l1, l2, _⟩ := L0 L3' R3 hg.2
                exact h _ _ _ l1 l2 (env_out (G := G) (by rfl) RE3 i hg.1)
              · exact h.elim
            | bk e v =>
              dsimp only at h
              split at h
              · rename_i hg
                rw [Bool.and_eq_true] at hg
                intro w3 σ3 H3 L3' R3 RE3
                obtain ⟨l1, l2, _⟩ := L0 L3' R3 hg.2
                exact h _ _ _ l1 l2 (env_out (G := G) (by rfl) RE3 i hg.1)
              · exact h.elim
            | ct e v =>
              dsimp only at h
              split at h
              · rename_i hg
                rw [Bool.and_eq_true] at hg
                intro w3 σ3 H3 L3' R3 RE3
                obtain ⟨l1, l2, _⟩ := L0 L3' R3 hg.2
                exact h _ _ _ l1 l2 (env_out (G := G) (by rfl) RE3 i hg.1)
              · exact h.elim
            | rt d v =>
              dsimp only at h
              split at h
              · rename_i hg
                rw [Bool.and_eq_true] at hg
                intro w3 v3 H3 L3' R3 r3
                obtain ⟨l1, l2, l3⟩ := L0 L3' R3 hg.2
                exact h _ _ _ l1 l2 (l3 d v3 hg.1 r3)
              · exact h.elim
            | exn => exact h.elim
            | bad => exact h.elim
          · exact h.elim
        · subst hb0
          exact h w' σ' dx fv H' L R' RE' hd rf
end
end L3
end
section
set_option Elab.async false
set_option linter.all false
set_option maxRecDepth 100000
set_option maxHeartbeats 8000000
namespace L3
open PySem PySem.Spec L2
open PyProof.Rows hiding St
inductive Tg where
  | nm (i : Nat) | sub (o i : Ex) | tp (ts : List Tg)
inductive Sm where
  | pass
  | expr (e : Ex)
  | ret (e : Ex)
  | retN
  | brk
  | cnt
  | ifs (c : Ex) (a b : List Sm)
  | whl (n : Nat) (c : Ex) (b : List Sm)
  | fr (t : CT) (ik : IK) (a b : Ex) (body : List Sm)
  | set (i : Nat) (e : Ex)
  | asg (t : Tg) (e : Ex)
  | par2 (i j : Nat) (es : List Ex)
  | par3 (i j l : Nat) (es : List Ex)
  | aug (i : Nat) (o : Operator) (e : Ex)
  | never
  | raise (c : Nat) (es : List Ex)
  | tryx (b : List Sm) (c : Nat) (i : Nat) (keep : Bool) (s : List Sm)
mutual
def evalTg (C : Cs) : Tg → TF
  | .nm i => nmF i
  | .sub o i => subF (evalE C o) (evalE C i)
  | .tp ts => tpF ts.length (evalTgs C ts)
def evalTgs (C : Cs) : List Tg → TFs
  | [] => nilF
  | t :: ts => consF (evalTg C t) (evalTgs C ts)
end
mutual
def evalS (C : Cs) : Sm → Env3 → VH → SRes
  | .pass => nxS
  | .expr e => exprS (evalE C e)
  | .ret e => retS (evalE C e)
  | .retN => retNS
  | .brk => brkS
  | .cnt => cntS
  | .ifs c a b => ifS (evalE C c) (evalSs C a) (evalSs C b)
  | .whl n c b => whlS (evalE C c) (evalSs C b) n
  | .fr t ik a b body => forS t (itE ik (evalE C a) (evalE C b)) (evalSs C body)
  | .set i e => asgS (nmF i) (evalE C e)
  | .asg t e => asgS (evalTg C t) (evalE C e)
  | .par2 i j es => asgS (tpF 2 (consF (nmF i) (consF (nmF j) nilF))) (tupE (evalEs C es))
  | .par3 i j l es => asgS (tpF 3 (consF (nmF i) (consF (nmF j) (consF (nmF l) nilF)))) (tupE (evalEs C es))
  | .aug i o e => augS i o (evalE C e)
  | .never => fun _ _ => .bad
  | .raise c es => raiseS C.lv (C.cf c) c (evalEs C es)
  | .tryx b c i keep s => tryS (evalSs C b) (fun c' => C.sub c' c) (okFld C) i keep (fun fs => evalSs (csX C fs) s)
def evalSs (C : Cs) : List Sm → Env3 → VH → SRes
  | [] => nxS
  | s :: ss => seqS (evalS C s) (evalSs C ss)
end
/-! ### the check -/
def isFrz : Ex → Bool
  | .frz _ => true
  | _ => false
def isName : Expr → Bool
  | .Name .. => true
  | _ => false
def isComp : Expr → Bool
  | .ListComp .. => true
  | .SetComp .. => true
  | .DictComp .. => true
  | _ => false
def nmLoc (sc : Scope) (line : Nat) : Expr → Option Str
  | .Name id pos => if sc.names.lookup id == some .local && pos.line == line then some id else none
  | _ => none
/-- which stores the model swaps -/
def swB (sc : Scope) (ts vs : List Expr) : Option (Option (List Str)) :=
  if !(ts.length == 2 || ts.length == 3) || vs.length != ts.length then some none
  else if vs.any isStar then some none
  else if (ts.filterMap (nmLoc sc ((ts.head?.map (·.pos.line)).getD 0))).length != ts.length || (ts.filterMap (nmLoc sc ((ts.head?.map (·.pos.line)).getD 0))).eraseDups.length != (ts.filterMap (nmLoc sc ((ts.head?.map (·.pos.line)).getD 0))).length then some none
  else if vs.all (foldedForSure 8) then some none
  else if vs.all (constantsAlone 8) then none
  else some (some (ts.filterMap (nmLoc sc ((ts.head?.map (·.pos.line)).getD 0))))
def isNoneO {α : Type} : Option (Option α) → Bool
  | some none => true
  | _ => false
/-- does a comprehension's value go to the name within it -/
def setLcB (sc : Scope) (x : Str) (p : Pos) : Expr → Bool
  | .ListComp _ _ s q => (sc.names.lookup x == some .local) && p.line == q.line && !(s.names.any fun (n, k) => n == x && (k == .local || k == .cell))
  | _ => false
mutual
def chkTg (T : Tb) (N : List Str) (sc : Scope) : Tg → Expr → Bool
  | .nm i, .Name x _ => decide (N[i]? = some x) && locB sc x
  | .sub o i, .Subscript o' i' _ => !isSlice i' && chkE T N sc o o' && chkE T N sc i i'
  | .tp ts, .Tuple es _ _ => chkTgs T N sc ts es
  | _, _ => false
def chkTgs (T : Tb) (N : List Str) (sc : Scope) : List Tg → List Expr → Bool
  | [], [] => true
  | t :: ts, e :: es => !isStar e && chkTg T N sc t e && chkTgs T N sc ts es
  | _, _ => false
end
mutual
def chkS (T TH : Tb) (N : List Str) (sc : Scope) : Sm → Stmt → Bool
  | .pass, .Pass _ => true
  | .expr e, .Expr e' _ => !isComp e' && chkE T N sc e e'
  | .ret e, .Return (some e') _ => chkE T N sc e e'
  | .retN, .Return none _ => true
  | .brk, .Break _ => true
  | .cnt, .Continue _ => true
  | .ifs c a b, .If c' a' b' _ => okT c && chkE T N sc c c' && chkSs T TH N sc a a' && chkSs T TH N sc b b'
  | .whl _ c b, .While c' b' [] _ => okT c && chkE T N sc c c' && chkSs T TH N sc b b'
  | .fr t ik a b body, .For tg it body' [] _ => ctB N sc t tg && itB T sc ik it (fun v => chkE T N sc a v) (fun v => chkE T N sc b v) && chkSs T TH N sc body body'
  | .set i e, .Assign [.Name x p] e' _ => decide (N[i]? = some x) && locB sc x && (setLcB sc x p e' || !isComp e' || (isComp e' && !(sc.names.lookup x == some .local))) && !isFrz e && chkE T N sc e e'
  | .asg t e, .Assign [tg] e' _ => !isName tg && chkTg T N sc t tg && chkE T N sc e e' && (match tg, e' with
      | .Tuple ts _ _, .Tuple vs _ _ => isNoneO (swB sc ts vs)
      | _, _ => true)
  | .par2 i j es, .Assign [.Tuple [.Name x px, .Name y py] _ _] (.Tuple vs _ _) _ => decide (N[i]? = some x) && decide (N[j]? = some y) && decide (i ≠ j) && decide (sc.names.lookup x = some .local) && decide (sc.names.lookup y = some .local) && decide (vs.length = 2) &&
      decide (swB sc [.Name x px, .Name y py] vs = some (some [x, y])) && chkEs T N sc es vs
  | .par3 i j l es, .Assign [.Tuple [.Name x px, .Name y py, .Name z pz] _ _] (.Tuple vs _ _) _ => !T.hot && decide (N[i]? = some x) && decide (N[j]? = some y) && decide (N[l]? = some z) && decide (i ≠ j) && decide (i ≠ l) && decide (j ≠ l) && decide (sc.names.lookup x = some .local) && decide (sc.names.lookup y = some .local) && decide (sc.names.lookup z = some .local) && decide (vs.length = 3) &&
      decide (swB sc [.Name x px, .Name y py, .Name z pz] vs = some (some [x, y, z])) && chkEs T N sc es vs
  | .aug i o e, .AugAssign (.Name x _) o' e' _ => decide (o = o') && augOk o && decide (N[i]? = some x) && locB sc x && chkE T N sc e e'
  | .never, _ => true
  | .raise c es, .Raise (some (.Call (.Name x _) (v :: vs) [] _)) none _ => !T.hot && glB sc x && decide (T.cl[c]? = some (some x)) && plainName x && chkEs T N sc es (v :: vs)
  | .tryx b c i _ s, .Try body [.ExceptHandler (some (.Name x _)) (some n) (st :: sts) _] [] [] _ => !T.hot && glB sc x && decide (T.cl[c]? = some (some x)) && plainName x && decide (N[i]? = some n) && decide (sc.names.lookup n = some .local) && chkSs T TH N sc b body && chkSs TH TH N sc s (st :: sts)
  | _, _ => false
def chkSs (T TH : Tb) (N : List Str) (sc : Scope) : List Sm → List Stmt → Bool
  | [], [] => true
  | s :: ss, v :: vs => chkS T TH N sc s v && chkSs T TH N sc ss vs
  | _, _ => false
end
theorem sw_gen {A B C D F : Bool} {n : List Str} {U : Sem PUnit} {r : Option (List Str)} (h : (if A then some none else if B then some none else if C then some none else if D then some none else if F then none else some (some n)) = some r) :
    (if (A || false) = true then (pure none : Sem (Option (List Str))) else if B = true then pure none else if C = true then pure none else if D = true then pure none else if F = true then (do U; pure (some n)) else pure (some n)) = pure r := by
  cases A <;> cases B <;> cases C <;> cases D <;> cases F <;> first | (cases h; done) | (cases h; rfl)
theorem sw_ok {env : Env} {ts vs : List Expr} {k k2 : Nat} {p p2 : Pos} {r : Option (List Str)} (hk : env.scope.kind = .function) (h : swB env.scope ts vs = some r) : swappedStores [.Tuple ts k p] (.Tuple vs k2 p2) env = pure r := by
  have hb : env.blockKind = .function := by unfold Env.blockKind; rw [hk]; rfl
  have e1 : (vs.any fun | .Starred .. => true | _ => false) = vs.any isStar := by
    congr 1
  have e2 : (ts.filterMap fun
    | .Name id pos => if env.kindOf id == some .local && pos.line == (ts.head?.map (·.pos.line)).getD 0 then some id else none
    | _ => none) = ts.filterMap (nmLoc env.scope ((ts.head?.map (·.pos.line)).getD 0)) := by
    congr 1
  unfold swappedStores
  simp only [hb]
  unfold swB at h
  exact sw_gen (U := unsupported "assign.tuple-of-constant-expressions:order-of-the-stores") h
end L3
end
section
set_option Elab.async false
set_option linter.all false
set_option maxRecDepth 100000
set_option maxHeartbeats 8000000
namespace L3
open PySem PySem.Spec L2 L2H
open PyProof.Rows hiding St
/-- the body of a def -/
structure GdD (G : Gx) (k : Nat) (T : Tb) (C : Cs) (N : List Str) (sc : Scope) (X : Cx) : Prop extends Gd G k T C N sc X where
  fn : ∀ x, X.fn x = true
  pass : PassesOwn (model X.prog X.w) X.A X.env X.xe
  kind : X.env.scope.kind = .function
  stk : X.stack = X.env :: X.outer
  frm : X.env.frame = some X.env.locals
/-- what the suites of a def want -/
def HotOk (G : Gx) (k : Nat) (T TH : Tb) (C : Cs) : Prop := T.hot = false → G.xa = none ∧ TH.hot = true ∧ TH.xs = true ∧ ∀ z fs, Tabs (Gxa G z) k TH (csX C fs)
section
variable {G : Gx} {k : Nat} {ho : Bool} {N : List Str} {T : Tb} {C : Cs} {X : Cx} {W : WX} {sc : Scope}
theorem GdD.store (g : GdD G k T C N sc X) (x : Str) (h : locB sc x = true) : StoreAt X x := ⟨by rw [g.sc]; exact locB_ok h, .inl (g.fn x)⟩
theorem GdD.blockF (g : GdD G k T C N sc X) : X.env.blockKind = .function := by
  unfold Env.blockKind; rw [g.kind]; rfl
theorem swaps_no {e : Expr} (h : isComp e = false) (t : Option Expr) (l : Nat) (env : Env) : swapsWith e t l env = pure false := by
  cases e <;> first | (cases h; done) | rfl
theorem swaps_not {e t : Expr} (h : isName t = false) (l : Nat) (env : Env) : swapsWith e (some t) l env = pure false := by
  cases e <;> first | rfl | (cases t <;> first | rfl | (cases h; done))
theorem swaps_far {e : Expr} {x : Str} {p : Pos} (l : Nat) (env : Env) (h : (env.kindOf x == some .local) = false) : swapsWith e (some (.Name x p)) l env = pure false := by
  have z : ∀ a b c : Bool, (a && (env.kindOf x == some .local) && b && c) = false := fun a b c => by rw [h]; cases a <;> rfl
  cases e <;> first | rfl | exact congrArg (pure (f := Sem)) (z _ _ _)
theorem swaps_yes {el : Expr} {gs : List Comprehension} {s : Scope} {q p : Pos} {x : Str} (l : Nat) (g : GdD G k T C N sc X) (h : setLcB sc x p (.ListComp el gs s q) = true) : swapsWith (.ListComp el gs s q) (some (.Name x p)) l X.env = pure true ∧ X.env.scope.names.lookup x = some .local := by
  have h : ((sc.names.lookup x == some .local) && p.line == q.line && !(s.names.any fun (n, k) => n == x && (k == .local || k == .cell))) = true := h
  obtain ⟨h, h3⟩ := an h
  obtain ⟨h1, h2⟩ := an h
  refine ⟨?_, by rw [g.sc]; simpa using h1⟩
  show pure (X.env.blockKind == .function && X.env.kindOf x == some .local && p.line == q.line && !(s.names.any fun (n, k) => n == x && (k == .local || k == .cell))) = _
  have e1 : (X.env.kindOf x == some .local) = true := by unfold Env.kindOf; rw [g.sc]; exact h1
  rw [g.blockF, e1, h2, h3]; rfl
theorem sub_assign {o i : Expr} {pos : Pos} (h : isSlice i = false) (env : Env) (v : Value) : assign (.Subscript o i pos) env v = (do
      let ov ← holding [v] (eval o env)
      let iv ← holding [v, ov] (eval i env)
      standAt pos
      holding [v, ov, iv] (setItem ov iv v)
      release [v, ov, iv] []) := by
  cases i <;> first | (cases h; done) | rfl
mutual
theorem snd_tg (TB : Tabs G k T C) (g : GdD G k T C N sc X) (tk : L2N.Takes X W) : ∀ (t : Tg) (tg : Expr), chkTg T N sc t tg = true → PG X tg (tG G (evalTg C t))
  | .nm i, tg, h => by
    cases tg <;> try exact (Bool.false_ne_true h).elim
    obtain ⟨h1, h2⟩ := an h
    obtain ⟨a, b⟩ := g.store _ h2
    exact sg_name g.nd' (by rw [g.nN]; exact dc h1) a b
  | .sub o i, tg, h => by
    cases tg <;> try exact (Bool.false_ne_true h).elim
    obtain ⟨h, hi⟩ := an h
    obtain ⟨hs, ho⟩ := an h
    exact sg_sub ((snd TB o) _ sc X W g.toGd tk ho).1 ((snd TB i) _ sc X W g.toGd tk hi).1 (sub_assign (nt hs) X.env)
  | .tp ts, tg, h => by
    cases tg <;> try exact (Bool.false_ne_true h).elim
    rename_i es kk pos
    have h : chkTgs T N sc ts es = true := h
    obtain ⟨a, b, c⟩ := snd_tgs TB g tk ts es h
    obtain ⟨h3, h4⟩ := assign_names X.env b
    exact PG.imp (pg_tupM g.md a (by rw [h3]; exact c) h4) (tG_tup g.K)
theorem snd_tgs (TB : Tabs G k T C) (g : GdD G k T C N sc X) (tk : L2N.Takes X W) : ∀ (ts : List Tg) (es : List Expr), chkTgs T N sc ts es = true → PGs X es (tGs G (evalTgs C ts)) ∧ (∀ e ∈ es, isStar e = false) ∧ es.length = ts.length
  | [], [], _ => ⟨sgs_nil, fun e he => (by cases he), rfl⟩
  | [], _ :: _, h => (Bool.false_ne_true h).elim
  | _ :: _, [], h => (Bool.false_ne_true h).elim
  | t :: ts, e :: es, h => by
    obtain ⟨h, h2⟩ := an h
    obtain ⟨hs, h1⟩ := an h
    obtain ⟨a, b, c⟩ := snd_tgs TB g tk ts es h2
    refine ⟨sgs_cons (snd_tg TB g tk t e h1) a (by rw [assign_star (nt hs)]; rfl), fun u hu => ?_, by rw [List.length_cons, List.length_cons, c]⟩
    rcases List.mem_cons.mp hu with rfl | hu
    · exact nt hs
    · exact b u hu
end
theorem noneO {α : Type} {o : Option (Option α)} (h : isNoneO o = true) : o = some none := by
  match o, h with
  | some none, _ => rfl
theorem two_of {α : Type} {l : List α} (h : l.length = 2) : ∃ a b, l = [a, b] := by
  match l, h with
  | [a, b], _ => exact ⟨a, b, rfl⟩
theorem three_of {α : Type} {l : List α} (h : l.length = 3) : ∃ a b c, l = [a, b, c] := by
  match l, h with
  | [a, b, c], _ => exact ⟨a, b, c, rfl⟩
section
variable {k' : Nat}
theorem ps_setLcM {i : Nat} {y : Str} {py : Pos} {elt tg iter : Expr} {ifs : List Expr} {scope : Scope} {own : List (Str × Nat)} {pos spos : Pos} {wi : TI} {g : TG} {tt : TT} {te : TE} (hc : Md ho k' X) (hN : X.N.Nodup) (hy : X.N[i]? = some y) (hyl : X.env.scope.names.lookup y = some .local)
    (hsw : swapsWith (.ListComp elt [⟨tg, iter, ifs, 0⟩] scope pos) (some (.Name y py)) spos.line X.env = pure true) (hi : PIM ho X tg iter wi) (ok : BlkOk X.N X.env.scope scope own)
    (hg : ∀ (s : Shared) (H : Hp) (C : Addr) (cl : List (Str × Addr)) (fp : List Addr), PG (blkM ho X s H scope (compEnvC scope cl C X.env) fp) tg g) (ht : ∀ (s : Shared) (H : Hp) (C : Addr) (cl : List (Str × Addr)) (fp : List Addr), PTs (blkM ho X s H scope (compEnvC scope cl C X.env) fp) ifs tt)
    (he : ∀ (s : Shared) (H : Hp) (C : Addr) (cl : List (Str × Addr)) (fp : List Addr), PE (blkM ho X s H scope (compEnvC scope cl C X.env) fp) elt te) (hs : ∀ x, foldedSetIterable iter X.env x = pure x) :
    PS X (.Assign [.Name y py] (.ListComp elt [⟨tg, iter, ifs, 0⟩] scope pos) spos) (tAsg (tLc wi g tt te (own.map (·.2))) (gName i)) := by
  cases ho with
  | false => exact ps_setLc hc.1 hN hy hyl hsw hi ok hg ht he hs
  | true => exact ps_setLcH hc.1 hN hy hyl hsw hi ok hg ht he hs
theorem ps_setLc2M {i : Nat} {y : Str} {py : Pos} {elt tg iter tg1 iter1 : Expr} {ifs ifs1 : List Expr} {scope : Scope} {own : List (Str × Nat)} {vs1 : List Nat} {pos spos : Pos} {wi wi1 : TI} {g g1 : TG} {tt tt1 : TT} {te : TE} (hc : Md ho k' X) (hN : X.N.Nodup) (hy : X.N[i]? = some y) (hyl : X.env.scope.names.lookup y = some .local)
    (hsw : swapsWith (.ListComp elt [⟨tg, iter, ifs, 0⟩, ⟨tg1, iter1, ifs1, 0⟩] scope pos) (some (.Name y py)) spos.line X.env = pure true) (hi : PIM ho X tg iter wi) (ok : BlkOk X.N X.env.scope scope own) (hv : ∀ i ∈ vs1, i ∈ own.map (·.2))
    (hg : ∀ (s : Shared) (H : Hp) (C : Addr) (cl : List (Str × Addr)) (fp : List Addr), PG (blkM ho X s H scope (compEnvC scope cl C X.env) fp) tg g) (ht : ∀ (s : Shared) (H : Hp) (C : Addr) (cl : List (Str × Addr)) (fp : List Addr), PTs (blkM ho X s H scope (compEnvC scope cl C X.env) fp) ifs tt)
    (hi1 : ∀ (s : Shared) (H : Hp) (C : Addr) (cl : List (Str × Addr)) (fp : List Addr), PIM ho (blkM ho X s H scope (compEnvC scope cl C X.env) fp) tg1 iter1 wi1)
    (hg1 : ∀ (s : Shared) (H : Hp) (C : Addr) (cl : List (Str × Addr)) (fp : List Addr), PG (blkM ho X s H scope (compEnvC scope cl C X.env) fp) tg1 g1) (ht1 : ∀ (s : Shared) (H : Hp) (C : Addr) (cl : List (Str × Addr)) (fp : List Addr), PTs (blkM ho X s H scope (compEnvC scope cl C X.env) fp) ifs1 tt1)
    (he : ∀ (s : Shared) (H : Hp) (C : Addr) (cl : List (Str × Addr)) (fp : List Addr), PE (blkM ho X s H scope (compEnvC scope cl C X.env) fp) elt te) (hs : ∀ x, foldedSetIterable iter X.env x = pure x) (hs1 : ∀ env x, foldedSetIterable iter1 env x = pure x) :
    PS X (.Assign [.Name y py] (.ListComp elt [⟨tg, iter, ifs, 0⟩, ⟨tg1, iter1, ifs1, 0⟩] scope pos) spos) (tAsg (tLc2 wi g tt wi1 g1 tt1 te (own.map (·.2)) vs1) (gName i)) := by
  cases ho with
  | false => exact ps_setLc2 hc.1 hN hy hyl hsw hi ok hv hg ht hi1 hg1 ht1 he hs hs1
  | true => exact ps_setLc2H hc.1 hN hy hyl hsw hi ok hv hg ht hi1 hg1 ht1 he hs hs1
end
/-- a comprehension's list that goes to the name within it -/
theorem set_post {f : Env3 → VH → Res D} {i : Nat} {te : TE} (h : ∀ σ H Q, tE G W f σ H Q → te σ H Q) (D : Ends) (σ : L2.St) (H : Hp) (q : tS G W (asgS (nmF i) f) D σ H) : tAsg te (gName i) D σ H := by
  obtain ⟨w, env, vh, R, RE, q⟩ := q
  exact h _ _ _ ⟨w, env, vh, R, RE, (PostS.bind (rep := RepD G) q RE).mono fun v H1 ⟨w1, d, vh1, L1, R1, r1, h1⟩ => h1.nx R1 ((RE.le L1).set i r1)⟩
theorem snd_setLc (TB : Tabs G k T C) (g : GdD G k T C N sc X) (tk : L2N.Takes X W) {i : Nat} {e : Ex} {el : Expr} {gs : List Comprehension} {s : Scope} {q p pos : Pos} {x : Str} (hi : X.N[i]? = some x) (hb : setLcB sc x p (.ListComp el gs s q) = true) (h : chkE T N sc e (.ListComp el gs s q) = true) (hf : ∀ a, e ≠ .frz a) :
    PS X (.Assign [.Name x p] (.ListComp el gs s q) pos) (tS G W (asgS (nmF i) (evalE C e))) := by
  obtain ⟨sw, lx⟩ := swaps_yes (X := X) pos.line g hb
  have TB' := TB
  cases e <;> try exact (Bool.false_ne_true h).elim
  case comp m own t ik a b c e =>
    match gs, h, sw with
    | [], h, _ => exact (Bool.false_ne_true h).elim
    | ⟨_, _, _, _⟩ :: ⟨_, _, _, _⟩ :: _, h, _ => exact (Bool.false_ne_true h).elim
    | [⟨tg, it', ifs, as⟩], h, sw =>
      obtain ⟨h, h7⟩ := an h
      obtain ⟨h, h6⟩ := an h
      obtain ⟨h, h5⟩ := an h
      obtain ⟨h, h4⟩ := an h
      obtain ⟨h, h3⟩ := an h
      obtain ⟨h, h2⟩ := an h
      obtain ⟨h0, h1⟩ := an h
      obtain rfl := dc h0
      obtain ⟨a1, a2, a3, a4, a5, a6⟩ := snd_comp TB g.toGd tk (snd TB a) (snd TB b) (snd TB c) (snd TB e) h1 h2 h4 h5 h6 h7
      exact PS.imp (ps_setLcM g.md g.nd' hi lx sw a1 a3 a4 a5 a6 (notSet_folded a2 X.env)) (set_post (tE_comp (slots_ok h3)))
  case comp2 m own t ik a b c t1 ik1 b1 b2 c1 e =>
    match gs, h, sw with
    | [], h, _ => exact (Bool.false_ne_true h).elim
    | [⟨_, _, _, _⟩], h, _ => exact (Bool.false_ne_true h).elim
    | ⟨_, _, _, _⟩ :: ⟨_, _, _, _⟩ :: _ :: _, h, _ => exact (Bool.false_ne_true h).elim
    | [⟨tg, it', ifs, as⟩, ⟨tg1, it1', ifs1, as1⟩], h, sw =>
      obtain ⟨h, h7⟩ := an h
      obtain ⟨h, k6⟩ := an h
      obtain ⟨h, k5⟩ := an h
      obtain ⟨h, k4⟩ := an h
      obtain ⟨h, h6⟩ := an h
      obtain ⟨h, h5⟩ := an h
      obtain ⟨h, h4⟩ := an h
      obtain ⟨h, k3⟩ := an h
      obtain ⟨h, k2⟩ := an h
      obtain ⟨h, h3⟩ := an h
      obtain ⟨h, h2⟩ := an h
      obtain ⟨h, h1⟩ := an h
      obtain ⟨h0, h01⟩ := an h
      obtain rfl := dc h0
      obtain rfl := dc h01
      obtain ⟨a1, a2, a3, a4, a5, a6⟩ := snd_comp TB g.toGd tk (snd TB a) (snd TB b) (snd TB c) (snd TB e) h1 h2 h4 h5 h6 h7
      have it1s : ∀ (s' : Shared) (H : Hp) (C0 : Addr) (cl : List (Str × Addr)) (fp : List Addr), PIM T.hot (blkM T.hot X s' H s (compEnvC s cl C0 X.env) fp) tg1 it1' (tI G W0 (itE ik1 (evalE C b1) (evalE C b2))) ∧ isSet it1' = false := fun s' H C0 cl fp => snd_it TB (g.toGd.blk ..) takes0 (snd TB b1) (snd TB b2) k4
      have hs1 : isSet it1' = false := by
        cases ik1 with
        | sq => exact nt (an k4).1
        | r1 => cases it1' <;> first | rfl | exact (Bool.false_ne_true k4).elim
        | r2 => cases it1' <;> first | rfl | exact (Bool.false_ne_true k4).elim
      refine PS.imp (ps_setLc2M (vs1 := t1.slots) g.md g.nd' hi lx sw a1 a3 (slots_ok k3) a4 a5 (fun s' H C0 cl fp => (it1s s' H C0 cl fp).1) (fun s' H C0 cl fp => ?_) (fun s' H C0 cl fp => snd_ifs (g.toGd.blk ..) takes0 (snd TB c1) k5 k6) a6 (notSet_folded a2 X.env) (notSet_folded hs1)) (set_post (tE_comp2 (slots_ok h3) (fun i hi => hi)))
      have gb := g.toGd.blk s' H s C0 cl fp
      exact ct_pg (X := blkM T.hot X s' H s (compEnvC s cl C0 X.env) fp) (st := fun x => locB s x = true) (fun x hx => blk_store x hx) gb.nd' gb.md gb.K (fun x hx => hx) (by rw [gb.nN]; exact k2)
  case frz a => exact (hf a rfl).elim
end
end L3
end
section
set_option Elab.async false
set_option linter.all false
set_option maxRecDepth 100000
set_option maxHeartbeats 8000000
namespace L3
open PySem PySem.Spec L2 L2H
open PyProof.Rows hiding St
section
variable {G : Gx} {k : Nat} {N : List Str} {T TH : Tb} {C : Cs} {X : Cx} {W : WX} {sc : Scope}
theorem snd_set (TB : Tabs G k T C) (g : GdD G k T C N sc X) (tk : L2N.Takes X W) {i : Nat} {e : Ex} {e' : Expr} {x : Str} {p pos : Pos} (hi : N[i]? = some x) (hl : locB sc x = true)
    (hc : (setLcB sc x p e' || !isComp e' || (isComp e' && !(sc.names.lookup x == some .local))) = true) (he : chkE T N sc e e' = true) (hf : isFrz e = false) : PS X (.Assign [.Name x p] e' pos) (tS G W (asgS (nmF i) (evalE C e))) := by
  have hi' : X.N[i]? = some x := by rw [g.nN]; exact hi
  by_cases h1 : setLcB sc x p e' = true
  · cases e' <;> try exact (Bool.false_ne_true h1).elim
    exact snd_setLc TB g tk hi' h1 he (fun a q => by subst q; cases hf)
  · obtain ⟨a, b⟩ := g.store x hl
    refine ss_set g.nd' hi' a ((snd TB e) _ sc X W g.toGd tk he).1 ?_ b
    by_cases h2 : isComp e' = true
    · have h3 : (X.env.kindOf x == some .local) = false := by
        unfold Env.kindOf
        rw [g.sc]
        have h1' : setLcB sc x p e' = false := by simpa using h1
        rw [h1', h2] at hc
        simpa using hc
      exact swaps_far _ _ h3
    · exact swaps_no (by simpa using h2) _ _ _
section
variable {ho : Bool} {k' : Nat}
theorem ss_forM {tg iter : Expr} {body : List Stmt} {t : CT} {it : Env3 → VH → Res (List D)} {g : Env3 → VH → SRes} {pos : Pos} (hp : PassesOwn (model X.prog X.w) X.A X.env X.xe) (hc : Md ho k' X) (hi : PIM ho X tg iter (tI G W it)) (hg : PG X tg (gCT G.K t)) (hb : PSs X body (tS G W g))
    (hs : ∀ x, foldedSetIterable iter X.env x = pure x) : PS X (.For tg iter body [] pos) (tS G W (forS t it g)) := by
  cases ho with
  | false => exact ss_for hp hc.1 hi hg hb hs
  | true => exact PS.imp (ps_forH hp hc.1 hi hg hb hs) tS_for
theorem ss_par2M {i j : Nat} {x y : Str} {a b : Expr} {fs : Env3 → VH → Res (List D)} {px py pt pos : Pos} {kt k2 : Nat} {pt2 : Pos} (hc : Md ho k' X) (hN : X.N.Nodup) (hi : X.N[i]? = some x) (hj : X.N[j]? = some y) (hij : i ≠ j)
    (hx : X.env.scope.names.lookup x = some .local) (hy : X.env.scope.names.lookup y = some .local) (ha : PA X [a, b] (tAs G W fs))
    (hw : swappedStores [.Tuple [.Name x px, .Name y py] kt pt] (.Tuple [a, b] k2 pt2) X.env = pure (some [x, y])) (hs : swapsWithSole [.Tuple [.Name x px, .Name y py] kt pt] (.Tuple [a, b] k2 pt2) pos.line X.env = pure false) :
    PS X (.Assign [.Tuple [.Name x px, .Name y py] kt pt] (.Tuple [a, b] k2 pt2) pos) (tS G W (asgS (tpF 2 (consF (nmF i) (consF (nmF j) nilF))) (tupE fs))) := by
  cases ho with
  | false => exact ss_par2 hc.1 hN hi hj hij hx hy ha hw hs
  | true => exact PS.imp (ps_parH hc.1 hN hi hj hij hx hy ha hw hs) tS_par2
end
theorem raise_shape {c : Nat} {es : List Ex} {st : Stmt} (h : chkS T TH N sc (.raise c es) st = true) : ∃ x px v vs pos pos', st = .Raise (some (.Call (.Name x px) (v :: vs) [] pos)) none pos' := by
  cases st <;> try exact (Bool.false_ne_true h).elim
  rename_i e' f' pos
  match e', f', h with
  | some (.Call (.Name x px) (v :: vs) [] pos), none, _ => exact ⟨_, _, _, _, _, _, rfl⟩
theorem try_shape {b s : List Sm} {c i : Nat} {keep : Bool} {st : Stmt} (h : chkS T TH N sc (.tryx b c i keep s) st = true) : ∃ body x px n s0 sts ph pos, st = .Try body [.ExceptHandler (some (.Name x px)) (some n) (s0 :: sts) ph] [] [] pos := by
  cases st <;> try exact (Bool.false_ne_true h).elim
  rename_i body hs el fin pos
  match hs, el, fin, h with
  | [.ExceptHandler (some (.Name x px)) (some n) (s0 :: sts) ph], [], [], _ => exact ⟨_, _, _, _, _, _, _, _, rfl⟩
theorem par2_shape {i j : Nat} {es : List Ex} {st : Stmt} (h : chkS T TH N sc (.par2 i j es) st = true) : ∃ x y px py kt pt vs k2 p2 pos, st = .Assign [.Tuple [.Name x px, .Name y py] kt pt] (.Tuple vs k2 p2) pos := by
  cases st <;> try exact (Bool.false_ne_true h).elim
  rename_i tgs e' pos
  match tgs, e', h with
  | [.Tuple [.Name x px, .Name y py] kt pt], .Tuple vs k2 p2, _ => exact ⟨_, _, _, _, _, _, _, _, _, _, rfl⟩
theorem par3_shape {i j l : Nat} {es : List Ex} {st : Stmt} (h : chkS T TH N sc (.par3 i j l es) st = true) : ∃ x y z px py pz kt pt vs k2 p2 pos, st = .Assign [.Tuple [.Name x px, .Name y py, .Name z pz] kt pt] (.Tuple vs k2 p2) pos := by
  cases st <;> try exact (Bool.false_ne_true h).elim
  rename_i tgs e' pos
  match tgs, e', h with
  | [.Tuple [.Name x px, .Name y py, .Name z pz] kt pt], .Tuple vs k2 p2, _ => exact ⟨_, _, _, _, _, _, _, _, _, _, _, _, rfl⟩
mutual
theorem sndS : ∀ (s : Sm) {G : Gx} {T : Tb} {C : Cs} {X : Cx} {W : WX} (TB : Tabs G k T C) (HB : HotOk G k T TH C) (g : GdD G k T C N sc X) (tk : L2N.Takes X W) (st : Stmt), chkS T TH N sc s st = true → PS X st (tS G W (evalS C s))
  | .pass, G, T, C, X, W, TB, HB, g, tk, st, h => by
    cases st <;> try exact (Bool.false_ne_true h).elim
    exact ss_pass
  | .expr e, G, T, C, X, W, TB, HB, g, tk, st, h => by
    cases st <;> try exact (Bool.false_ne_true h).elim
    obtain ⟨hs, h⟩ := an h
    exact ss_expr ((snd TB e) _ sc X W g.toGd tk h).1 (swaps_no (nt hs) _ _ _)
  | .ret e, G, T, C, X, W, TB, HB, g, tk, st, h => by
    cases st <;> try exact (Bool.false_ne_true h).elim
    rename_i e' pos
    cases e' <;> try exact (Bool.false_ne_true h).elim
    exact ss_ret ((snd TB e) _ sc X W g.toGd tk h).1
  | .retN, G, T, C, X, W, TB, HB, g, tk, st, h => by
    cases st <;> try exact (Bool.false_ne_true h).elim
    rename_i e' pos
    cases e' <;> try exact (Bool.false_ne_true h).elim
    exact ss_retN
  | .brk, G, T, C, X, W, TB, HB, g, tk, st, h => by
    cases st <;> try exact (Bool.false_ne_true h).elim
    exact ss_brk
  | .cnt, G, T, C, X, W, TB, HB, g, tk, st, h => by
    cases st <;> try exact (Bool.false_ne_true h).elim
    exact ss_cnt
  | .ifs c a b, G, T, C, X, W, TB, HB, g, tk, st, h => by
    cases st <;> try exact (Bool.false_ne_true h).elim
    obtain ⟨h, h4⟩ := an h
    obtain ⟨h, h3⟩ := an h
    obtain ⟨h1, h2⟩ := an h
    exact ss_if (((snd TB c) _ sc X W g.toGd tk h2).2 h1) (sndSs a TB HB g tk _ h3) (sndSs b TB HB g tk _ h4)
  | .whl n c b, G, T, C, X, W, TB, HB, g, tk, st, h => by
    cases st <;> try exact (Bool.false_ne_true h).elim
    rename_i c' b' el pos
    cases el <;> try exact (Bool.false_ne_true h).elim
    obtain ⟨h, h3⟩ := an h
    obtain ⟨h1, h2⟩ := an h
    exact ss_whl n g.pass (((snd TB c) _ sc X W g.toGd tk h2).2 h1) (sndSs b TB HB g tk _ h3)
  | .fr t ik a b body, G, T, C, X, W, TB, HB, g, tk, st, h => by
    cases st <;> try exact (Bool.false_ne_true h).elim
    rename_i tg it body' el pos
    cases el <;> try exact (Bool.false_ne_true h).elim
    obtain ⟨h, h3⟩ := an h
    obtain ⟨h1, h2⟩ := an h
    obtain ⟨p, q⟩ := snd_it (tg := tg) TB g.toGd tk (snd TB a) (snd TB b) h2
    exact ss_forM g.pass g.md p (ct_pg (st := fun x => locB sc x = true) g.store g.nd' g.md g.K (fun x hx => hx) (by rw [g.nN]; exact h1)) (sndSs body TB HB g tk _ h3) (notSet_folded q X.env)
  | .set i e, G, T, C, X, W, TB, HB, g, tk, st, h => by
    cases st <;> try exact (Bool.false_ne_true h).elim
    rename_i tgs e' pos
    match tgs, h with
    | [], h => exact (Bool.false_ne_true h).elim
    | _ :: _ :: _, h => rename_i t _ _; cases t <;> exact (Bool.false_ne_true h).elim
    | [t], h =>
      cases t <;> try exact (Bool.false_ne_true h).elim
      obtain ⟨h, h4⟩ := an h
      obtain ⟨h, h5⟩ := an h
      obtain ⟨h, h3⟩ := an h
      obtain ⟨h1, h2⟩ := an h
      exact snd_set TB g tk (dc h1) h2 h3 h4 (nt h5)
  | .asg t e, G, T, C, X, W, TB, HB, g, tk, st, h => by
    cases st <;> try exact (Bool.false_ne_true h).elim
    rename_i tgs e' pos
    match tgs, h with
    | [], h => exact (Bool.false_ne_true h).elim
    | _ :: _ :: _, h => exact (Bool.false_ne_true h).elim
    | [tg], h =>
      obtain ⟨h, h4⟩ := an h
      obtain ⟨h, h3⟩ := an h
      obtain ⟨h1, h2⟩ := an h
      refine ss_asg ((snd TB e) _ sc X W g.toGd tk h3).1 (snd_tg TB g tk t tg h2) (swaps_not (nt h1) _ _) ?_ ?_
      · cases tg <;> try rfl
        · cases t <;> exact (Bool.false_ne_true h2).elim
        · cases e' <;> try rfl
          have h4 : isNoneO (swB sc _ _) = true := h4
          rw [← g.sc] at h4
          exact sw_ok g.kind (noneO h4)
      · cases t <;> cases tg <;> first | rfl | exact (Bool.false_ne_true h2).elim | exact (Bool.false_ne_true h1).elim
  | .par2 i j es, G, T, C, X, W, TB, HB, g, tk, st, h => by
    obtain ⟨x, y, px, py, kt, pt, vs, k2, p2, pos, rfl⟩ := par2_shape h
    obtain ⟨h, q8⟩ := an h
    obtain ⟨h, q7⟩ := an h
    obtain ⟨h, q6⟩ := an h
    obtain ⟨h, q5⟩ := an h
    obtain ⟨h, q4⟩ := an h
    obtain ⟨h, q3⟩ := an h
    obtain ⟨q1, q2⟩ := an h
    obtain ⟨a, b, rfl⟩ := two_of (dc q6)
    have q7 := dc q7
    rw [← g.sc] at q7
    exact ss_par2M g.md g.nd' (by rw [g.nN]; exact dc q1) (by rw [g.nN]; exact dc q2) (dc q3) (by rw [g.sc]; exact dc q4) (by rw [g.sc]; exact dc q5) (snd_args g.toGd tk (snds TB es) q8) (sw_ok g.kind q7) rfl
  | .par3 i j l es, G, T, C, X, W, TB, HB, g, tk, st, h => by
    obtain ⟨x, y, z, px, py, pz, kt, pt, vs, k2, p2, pos, rfl⟩ := par3_shape h
    obtain ⟨h, q8⟩ := an h
    obtain ⟨h, q7⟩ := an h
    obtain ⟨h, q6⟩ := an h
    obtain ⟨h, l3⟩ := an h
    obtain ⟨h, l2⟩ := an h
    obtain ⟨h, l1⟩ := an h
    obtain ⟨h, d3⟩ := an h
    obtain ⟨h, d2⟩ := an h
    obtain ⟨h, d1⟩ := an h
    obtain ⟨h, n3⟩ := an h
    obtain ⟨h, n2⟩ := an h
    obtain ⟨nh, n1⟩ := an h
    have hcm : X.calm = true := by
      have z := g.md
      rw [nt nh] at z
      exact z.1
    obtain ⟨a, b, c, rfl⟩ := three_of (dc q6)
    have q7 := dc q7
    rw [← g.sc] at q7
    exact ss_par3 hcm g.nd' (by rw [g.nN]; exact dc n1) (by rw [g.nN]; exact dc n2) (by rw [g.nN]; exact dc n3) (dc d1) (dc d2) (dc d3) (by rw [g.sc]; exact dc l1) (by rw [g.sc]; exact dc l2) (by rw [g.sc]; exact dc l3) (snd_args g.toGd tk (snds TB es) q8) (sw_ok g.kind q7) rfl
  | .aug i o e, G, T, C, X, W, TB, HB, g, tk, st, h => by
    cases st <;> try exact (Bool.false_ne_true h).elim
    rename_i t o' e' pos
    cases t <;> try exact (Bool.false_ne_true h).elim
    obtain ⟨h, h5⟩ := an h
    obtain ⟨h, h4⟩ := an h
    obtain ⟨h, h3⟩ := an h
    obtain ⟨h1, h2⟩ := an h
    obtain rfl := dc h1
    obtain ⟨a, b⟩ := g.store _ h4
    exact ss_aug h2 g.nd' (by rw [g.nN]; exact dc h3) a ((snd TB e) _ sc X W g.toGd tk h5).1 b
  | .raise c es, G, T, C, X, W, TB, HB, g, tk, st, h => by
    obtain ⟨x, px, v, vs, pos, pos', rfl⟩ := raise_shape h
    obtain ⟨h, hs⟩ := an h
    obtain ⟨h, hp⟩ := an h
    obtain ⟨h, hcl⟩ := an h
    obtain ⟨hh, hg⟩ := an h
    have z := g.md
    rw [nt hh] at z
    obtain ⟨a, _, _⟩ := plain_ok hp
    have st0 := chkEs_star hs
    have gl := glB_ok g.toGd hg
    have hm : X.mg x = some (.ref (G.ga c)) := by rw [g.mg]; exact TB.clx c x (dc hcl)
    have pa := snd_args g.toGd tk (snds TB es) hs
    have e1 := star_cons (st0 v List.mem_cons_self) vs X.env
    have e2 := backTo_any pos X.env fun u hu => st0 u (List.mem_cons_of_mem _ hu)
    show PS X _ (tS G W (raiseS C.lv (C.cf c) c (evalEs C es)))
    cases ec : C.cf c with
    | none =>
      exact ⟨fun pins s1 σ H D I ⟨w, env, vh, R, RE, q⟩ => q.elim⟩
    | some ng =>
      obtain ⟨n, gs⟩ := ng
      have Z := TB.cl c n gs ec
      obtain ⟨fI, fd, ps, i1, i2, i3, i4⟩ := Z.ini
      refine ss_raise z.1 tk g.K (fun hlv => ⟨L2N.CX X.prog X.w, fI, fd, ps, by rw [g.K]; exact Z.T, by rw [g.K]; exact i1, by rw [g.K]; exact i2, by rw [g.P, g.w, g.K, g.mg, g.base]; exact i3, by rw [g.K]; exact i4, z.2.mono (Nat.le_trans hlv TB.lv), passN⟩) Z.n Z.pos Z.nd gl hm pa a e1 e2
  | .tryx b c i keep s, G, T, C, X, W, TB, HB, g, tk, st, h => by
    obtain ⟨body, x, px, n, s0, sts, ph, pos, rfl⟩ := try_shape h
    obtain ⟨h, h8⟩ := an h
    obtain ⟨h, h7⟩ := an h
    obtain ⟨h, h6⟩ := an h
    obtain ⟨h, h5⟩ := an h
    obtain ⟨h, h4⟩ := an h
    obtain ⟨h, h3⟩ := an h
    obtain ⟨h1, h2⟩ := an h
    obtain ⟨hx, th1, th2, hT⟩ := HB (nt h1)
    have z := g.md
    rw [nt h1] at z
    obtain ⟨a, _, _⟩ := plain_ok h4
    have hm : X.mg x = some (.ref (G.ga c)) := by rw [g.mg]; exact TB.clx c x (dc h3)
    refine ss_try hx tk g.stk g.frm g.nd' (by rw [g.nN]; exact dc h5) (by unfold Env.kindOf; rw [g.sc]; exact dc h6) ⟨glB_ok g.toGd h2, a, .inl hm⟩ (fun c' b e => by rw [g.K]; exact TB.sub c' c b e) (fun W' pn xe tk' hp => ?_) (fun zz oe cx fs pn hz hv xf => ?_)
    · refine sndSs (X := X.tr pn xe) b TB HB ⟨⟨g.P, g.w, g.K, g.mg, g.base, g.nN, g.sc, by rw [nt h1]; exact z, fun q => absurd (g.xs q).1 (by rw [nt h1]; exact Bool.false_ne_true), g.nd⟩, g.fn, hp, g.kind, g.stk, g.frm⟩ tk' body h7
    · refine sndSs (X := X.suite zz.1 ((zz.1, oe) :: pn)) s (hT zz fs) (fun q => absurd q (by rw [th1]; exact fun y => nomatch y)) ⟨⟨g.P, g.w, g.K, g.mg, g.base, g.nN, g.sc, ?_, fun _ => ⟨th1, zz, oe, G.ga cx, rfl, List.mem_cons_self, hz.zc, hv, fun f d e => ?_⟩, g.nd⟩, g.fn, ?_, g.kind, g.stk, g.frm⟩ takes0 (s0 :: sts) h8
      · rw [th1]
        obtain ⟨vs, hvs⟩ := hv
        exact ⟨⟨(zz.1, oe), ⟨rfl, vs, hvs, hz.2.2 vs hvs⟩, List.mem_cons_self⟩, roomH_mark z.2 _⟩
      · have hk := xf.ok f d e
        unfold okFld at hk
        split at hk
        · rename_i n gs ec
          have Z := TB.cl cx n gs ec
          obtain ⟨q, hq, rfl⟩ := List.mem_map.mp (dc hk)
          exact ⟨Z.xf, Z.no q hq, xf.rep _ d e⟩
        · cases hk
      · exact PassesOwn.never
  | .never, G, T, C, X, W, TB, HB, g, tk, st, h => ⟨fun pins s σ H D I ⟨w, env, vh, R, RE, q⟩ => q.elim⟩
theorem sndSs : ∀ (ss : List Sm) {G : Gx} {T : Tb} {C : Cs} {X : Cx} {W : WX} (TB : Tabs G k T C) (HB : HotOk G k T TH C) (g : GdD G k T C N sc X) (tk : L2N.Takes X W) (sts : List Stmt), chkSs T TH N sc ss sts = true → PSs X sts (tS G W (evalSs C ss))
  | [], G, T, C, X, W, TB, HB, g, tk, [], _ => ss_nil
  | [], G, T, C, X, W, TB, HB, g, tk, _ :: _, h => (Bool.false_ne_true h).elim
  | _ :: _, G, T, C, X, W, TB, HB, g, tk, [], h => (Bool.false_ne_true h).elim
  | s :: ss, G, T, C, X, W, TB, HB, g, tk, st :: sts, h => by
    obtain ⟨h1, h2⟩ := an h
    exact ss_cons (sndS s TB HB g tk st h1) (sndSs ss TB HB g tk sts h2)
end
end
end L3
end
section
set_option Elab.async false
set_option linter.all false
set_option maxRecDepth 100000
set_option maxHeartbeats 8000000
namespace L3
open PySem PySem.Spec L2 L2H
open PyProof.Rows hiding St
/-! ### a whole program of defs -/
structure Df where
  np : Nat
  m : Nat
  body : List Sm
def startD (m : Nat) (ds : List D) : Env3 := ds.map some ++ List.replicate (m - ds.length) none
def endR : SRes → Res D
  | .nx _ vh => .ok .non vh
  | .rt d vh => .ok d vh
  | .exn c fs _ vh => .exn c fs vh
  | _ => .bad
def callG (cs : (Nat → List D → VH → Res D) → Nat → Cs) (defs : Nat → Df) : Nat → Nat → List D → VH → Res D
  | 0, _ => fun _ _ => .bad
  | n + 1, f => fun ds vh => endR (evalSs (cs (callG cs defs n) n) (defs f).body (startD (defs f).m ds) vh)
/-- what a program has besides its defs -/
structure Env0D where
  gc : Nat → D
  cf : Nat → Option (Nat × List (Str × Nat))
  sub : Nat → Nat → Option Bool
/-- within an except suite -/
def csH (e : Env0D) (dH : Nat → Df) (F : Nat → List D → VH → Res D) (_ : Nat) : Cs := ⟨fun g => (dH g).np, F, e.gc, fun _ => none, e.sub, 0, fun g => (dH g).np, fun _ _ _ => .bad, fun _ => none⟩
def callH (e : Env0D) (dH : Nat → Df) : Nat → Nat → List D → VH → Res D := callG (csH e dH) dH
def csC (e : Env0D) (d dH : Nat → Df) (F : Nat → List D → VH → Res D) (n : Nat) : Cs := ⟨fun g => (d g).np, F, e.gc, e.cf, e.sub, n, fun g => (dH g).np, callH e dH n, fun _ => none⟩
def callF (e : Env0D) (d dH : Nat → Df) : Nat → Nat → List D → VH → Res D := callG (csC e d dH) d
/-- a def of the text -/
structure PyDef where
  x : Str
  ps : List Str
  N : List Str
  st : Stmt
  df : Df
def dfOf (pd : List PyDef) (f : Nat) : Df := match pd[f]? with
  | some p => p.df
  | none => ⟨0, 0, []⟩
structure DefOk (T TH : Tb) (p : PyDef) : Prop where
  np : p.df.np = p.ps.length
  m : p.df.m = p.N.length
  sc : FnScope p.N p.ps (defScope p.st)
  chk : chkSs T TH p.N (defScope p.st) p.df.body (defBody p.st) = true
section
variable {G : Gx}
theorem startE {w : Wd} {H : Hp} {N : List Str} {ds : List D} {vs : List V} (r : RepDs G w H ds vs) : RelE G w H (startD N.length ds) (L2.start N vs) := by
  have hl := r.length
  refine ⟨?_, fun i d e => ?_⟩
  · unfold startD L2.start
    rw [List.length_append, List.length_append, List.length_map, List.length_map, List.length_replicate, List.length_replicate, hl]
  · unfold startD at e
    by_cases hi : i < ds.length
    · rw [List.getElem?_append_left (by simpa using hi), List.getElem?_map, List.getElem?_eq_getElem hi] at e
      obtain ⟨v, ev, rv⟩ := r.get (List.getElem?_eq_getElem hi)
      cases e
      refine ⟨v, ?_, rv⟩
      unfold L2.start
      rw [List.getElem?_append_left (by rw [List.length_map, hl]; exact hi), List.getElem?_map, ev]
      rfl
    · rw [List.getElem?_append_right (by simpa using hi), List.getElem?_replicate] at e
      split at e <;> cases e
theorem post_end {W : WX} {E : XK} (hW : ∀ cls d σ H, E cls d H → W cls d σ H) {w : Wd} {H : Hp} {Q : VK} {z : SRes} (h : Post G (RepD G) E w H Q (endR z)) : PostS G W w H { nx := fun _ H' => Q .non H', rt := Q } z := by
  cases z with
  | nx env vh' => exact fun w' σ' H' l R' RE' => h w' .non H' l R' (by simp only [RepD])
  | rt d vh' => exact fun w' v H' l R' r' => h w' v H' l R' r'
  | exn c fs env vh' => exact fun w' σ' dx fv H' l R' _ hd rf => hW _ _ _ _ (h w' dx fv H' l R' hd rf)
  | bk => exact h.elim
  | ct => exact h.elim
  | bad => exact h.elim
theorem def_ok {k : Nat} {T TH : Tb} {C : Cs} {p : PyDef} {f : Addr} {fd : FuncData} (TB : Tabs G k T C) (HB : HotOk G k T TH C) (hxs : T.xs = false) (o : DefOk T TH p) (F : FunD G.K p.x p.x (defArgs p.st) (defBody p.st) (defScope p.st) [] [] f fd) :
    FnM T.hot G.P G.w G.K G.mg G.base (L2N.CX G.P G.w) (k + 1) f fd p.ps (spOf G p.ps.length fun ds vh => endR (evalSs C p.df.body (startD p.df.m ds) vh)) := by
  cases ho : T.hot with
  | false =>
    refine F.ok o.sc (fun vs H Q E h => spOf_len vs H Q E h) fun cdv A outer s H vs Q E hr ⟨w, ds, vh, R, r, hn, h⟩ => ?_
    refine ⟨tS G (fun cls d _ H => E cls d H) (evalSs C p.df.body), sndSs (sc := defScope p.st) _ TB HB ⟨⟨rfl, rfl, rfl, rfl, rfl, rfl, rfl, by rw [ho]; exact ⟨rfl, hr⟩, fun q => absurd q (by rw [hxs]; exact Bool.false_ne_true), o.sc.nd⟩, fun _ => rfl, passes_of rfl, o.sc.kind, rfl, rfl⟩ (L2N.takes_of rfl rfl rfl rfl) _ o.chk, ?_⟩
    exact ⟨w, startD p.df.m ds, vh, R, by rw [o.m]; exact startE r, post_end (fun _ _ _ _ h => h) h⟩
  | true =>
    obtain ⟨oc, od, dV, kV, doc, pm, an, cdv, ct, osl, rfl, lk, hcd, _, _⟩ := F.ex
    refine fn_ofH lk hcd o.sc (fun vs H Q E h => spOf_len vs H Q E h) fun A outer s H vs Q E pq hot hr ⟨w, ds, vh, R, r, hn, h⟩ => ?_
    refine ⟨tS G (fun cls d _ H => E cls d H) (evalSs C p.df.body), sndSs (sc := defScope p.st) _ TB HB ⟨⟨rfl, rfl, rfl, rfl, rfl, rfl, rfl, by rw [ho]; exact ⟨⟨pq, hot, List.mem_cons_self⟩, hr⟩, fun q => absurd q (by rw [hxs]; exact Bool.false_ne_true), o.sc.nd⟩, fun _ => rfl, passes_of rfl, o.sc.kind, rfl, rfl⟩ (L2N.takes_of rfl rfl rfl rfl) _ o.chk, ?_⟩
    exact ⟨w, startD p.df.m ds, vh, R, by rw [o.m]; exact startE r, post_end (fun _ _ _ _ h => h) h⟩
theorem fnM_bad {ho : Bool} {f : Addr} {fd : FuncData} {ps : List Str} {n : Nat} (hn : n = ps.length) : FnM ho G.P G.w G.K G.mg G.base (L2N.CX G.P G.w) 0 f fd ps (spOf G n fun _ _ => .bad) := by
  cases ho with
  | false => exact ⟨fun vs H Q E h => (spOf_len vs H Q E h).trans hn, fun A outer s H args us vs Q E _ _ _ _ h => by obtain ⟨w, ds, vh, R, r, hn, h⟩ := h; exact h.elim⟩
  | true => exact ⟨fun vs H Q E h => (spOf_len vs H Q E h).trans hn, fun A outer s H args us vs Q E pq _ _ _ _ _ _ h => by obtain ⟨w, ds, vh, R, r, hn, h⟩ := h; exact h.elim⟩
/-- the defs of one table -/
def FnsOk (G : Gx) (T TH : Tb) (pd : List PyDef) : Prop := ∀ f x, T.fn[f]? = some (some x) → ∃ p fd, pd[f]? = some p ∧ p.x = x ∧ FunD G.K p.x p.x (defArgs p.st) (defBody p.st) (defScope p.st) [] [] (G.ga f) fd ∧ G.mg x = some (.ref (G.ga f)) ∧ Binds G.K fd p.ps [] ∧ DefOk T TH p
/-- the facts of the written part, and the defs: T the table of the calm code, TH that of the code within except suites, TS that of the suites themselves -/
structure Prg (G : Gx) (T TH TS : Tb) (e : Env0D) (pd pdH : List PyDef) : Prop where
  xa : G.xa = none
  fn : FnsOk G T TS pd
  fnH : FnsOk G TH TS pdH
  hotT : T.hot = false ∧ T.xs = false
  hotH : TH.hot = true ∧ TH.xs = false
  hotS : TS.hot = true ∧ TS.xs = true ∧ TS.fn = TH.fn ∧ TS.free = TH.free ∧ TS.gc = TH.gc ∧ TS.cl = TH.cl
  free : ∀ x, x ∈ T.free ∨ x ∈ TH.free → G.mg x = none
  gc : ∀ k x, T.gc[k]? = some x ∨ TH.gc[k]? = some x → ∃ u v, G.mg x = some u ∧ RelV v u ∧ ∀ xa w H, RepD { G with xa := xa } w H (e.gc k) v
  clx : ∀ c x, T.cl[c]? = some (some x) ∨ TH.cl[c]? = some (some x) → G.mg x = some (.ref (G.ga c))
  cl : ∀ c n fs, e.cf c = some (n, fs) → ClOk G (G.ga c) n fs
  sub : ∀ c c' b, e.sub c c' = some b → PySem.W.exmOne G.K (.ref (G.ga c)) (.ref (G.ga c')) = some b
theorem fns_step {k : Nat} {T TH : Tb} {pd : List PyDef} {cs : (Nat → List D → VH → Res D) → Nat → Cs} (Z : FnsOk G T TH pd) (hn : ∀ F n f, (cs F n).n f = (dfOf pd f).np) (hF : ∀ F n, (cs F n).F = F) (hxs : T.xs = false)
    (TB : Tabs G k T (cs (callG cs (dfOf pd) k) k)) (HB : HotOk G k T TH (cs (callG cs (dfOf pd) k) k)) : ∀ f x, T.fn[f]? = some (some x) → ∃ fd ps, FnM T.hot G.P G.w G.K G.mg G.base (L2N.CX G.P G.w) (k + 1) (G.ga f) fd ps (spOf G ((cs (callG cs (dfOf pd) (k + 1)) (k + 1)).n f) ((cs (callG cs (dfOf pd) (k + 1)) (k + 1)).F f)) ∧ G.mg x = some (.ref (G.ga f)) ∧ PySem.W.keepIn G.K (.ref (G.ga f)) = true ∧ Binds G.K fd ps [] := fun f x e => by
  obtain ⟨p, fd, ep, rfl, F, m1, b1, o⟩ := Z f x e
  have en : dfOf pd f = p.df := by unfold dfOf; rw [ep]
  refine ⟨fd, p.ps, ?_, m1, F.kp, b1⟩
  have h := def_ok TB HB hxs o F
  have e3 : callG cs (dfOf pd) (k + 1) f = fun ds vh => endR (evalSs (cs (callG cs (dfOf pd) k) k) p.df.body (startD p.df.m ds) vh) := by
    funext ds vh
    show endR (evalSs _ (dfOf pd f).body (startD (dfOf pd f).m ds) vh) = _
    rw [en]
  rw [hF, hn, e3, en, o.np]
  exact h
theorem fns_zero {T TH : Tb} {pd : List PyDef} {cs : (Nat → List D → VH → Res D) → Nat → Cs} (Z : FnsOk G T TH pd) (hn : ∀ F n f, (cs F n).n f = (dfOf pd f).np) (hF : ∀ F n, (cs F n).F = F) : ∀ f x, T.fn[f]? = some (some x) → ∃ fd ps, FnM T.hot G.P G.w G.K G.mg G.base (L2N.CX G.P G.w) 0 (G.ga f) fd ps (spOf G ((cs (callG cs (dfOf pd) 0) 0).n f) ((cs (callG cs (dfOf pd) 0) 0).F f)) ∧ G.mg x = some (.ref (G.ga f)) ∧ PySem.W.keepIn G.K (.ref (G.ga f)) = true ∧ Binds G.K fd ps [] := fun f x e => by
  obtain ⟨p, fd, ep, rfl, F, m1, b1, o⟩ := Z f x e
  have en : dfOf pd f = p.df := by unfold dfOf; rw [ep]
  refine ⟨fd, p.ps, ?_, m1, F.kp, b1⟩
  rw [hF]
  exact fnM_bad (by rw [hn, en, o.np])
theorem hot_tabs {T TH TS : Tb} {e : Env0D} {pd pdH : List PyDef} (Z : Prg G T TH TS e pd pdH) (z : Addr × Addr × List (Str × V)) : ∀ n : Nat, Tabs (Gxa G z) n TH (csH e (dfOf pdH) (callH e (dfOf pdH) n) n)
  | 0 => ⟨fns_zero (G := Gxa G z) (TH := TS) (cs := csH e (dfOf pdH)) Z.fnH (fun _ _ _ => rfl) (fun _ _ => rfl), fun x h => Z.free x (.inr h), fun k x h => let ⟨u, v, a, b, c⟩ := Z.gc k x (.inr h); ⟨u, v, a, b, c (some z)⟩, fun c x h => Z.clx c x (.inr h), fun c n fs h => (by cases h), Nat.zero_le _, Z.sub⟩
  | n + 1 => by
    have TB := hot_tabs Z z n
    exact ⟨fns_step (G := Gxa G z) (TH := TS) (cs := csH e (dfOf pdH)) Z.fnH (fun _ _ _ => rfl) (fun _ _ => rfl) Z.hotH.2 TB (fun q => absurd q (by rw [Z.hotH.1]; exact fun y => nomatch y)), fun x h => Z.free x (.inr h), fun k x h => let ⟨u, v, a, b, c⟩ := Z.gc k x (.inr h); ⟨u, v, a, b, c (some z)⟩,
      fun c x h => Z.clx c x (.inr h), fun c n fs h => (by cases h), Nat.zero_le _, Z.sub⟩
theorem hot_ok {T TH TS : Tb} {e : Env0D} {pd pdH : List PyDef} (Z : Prg G T TH TS e pd pdH) (n : Nat) : HotOk G n T TS (csC e (dfOf pd) (dfOf pdH) (callF e (dfOf pd) (dfOf pdH) n) n) := fun _ => ⟨Z.xa, Z.hotS.1, Z.hotS.2.1, fun z fs => by
  have TB := hot_tabs Z z n
  obtain ⟨s1, s2, s3, s4, s5, s6⟩ := Z.hotS
  refine ⟨fun f x h => ?_, fun x h => TB.free x (s4 ▸ h), fun k x h => TB.gc k x (s5 ▸ h), fun c x h => TB.clx c x (s6 ▸ h), fun c n fs h => (by cases h), Nat.zero_le _, Z.sub⟩
  rw [s3] at h
  obtain ⟨fd, ps, q⟩ := TB.fn f x h
  rw [Z.hotH.1] at q
  exact ⟨fd, ps, by rw [s1]; exact q⟩⟩
theorem prg_tabs {T TH TS : Tb} {e : Env0D} {pd pdH : List PyDef} (Z : Prg G T TH TS e pd pdH) : ∀ n : Nat, Tabs G n T (csC e (dfOf pd) (dfOf pdH) (callF e (dfOf pd) (dfOf pdH) n) n)
  | 0 => ⟨fns_zero (TH := TS) (cs := csC e (dfOf pd) (dfOf pdH)) Z.fn (fun _ _ _ => rfl) (fun _ _ => rfl), fun x h => Z.free x (.inl h), fun k x h => (let ⟨u, v, a, b, c⟩ := Z.gc k x (.inl h); ⟨u, v, a, b, by have := c G.xa; exact this⟩), fun c x h => Z.clx c x (.inl h), Z.cl, Nat.le_refl _, Z.sub⟩
  | n + 1 => by
    have TB := prg_tabs Z n
    exact ⟨fns_step (TH := TS) (cs := csC e (dfOf pd) (dfOf pdH)) Z.fn (fun _ _ _ => rfl) (fun _ _ => rfl) Z.hotT.2 TB (hot_ok Z n), fun x h => Z.free x (.inl h), fun k x h => (let ⟨u, v, a, b, c⟩ := Z.gc k x (.inl h); ⟨u, v, a, b, by have := c G.xa; exact this⟩),
      fun c x h => Z.clx c x (.inl h), Z.cl, Nat.le_refl _, Z.sub⟩
end
end L3
end
section
set_option Elab.async false
set_option linter.all false
set_option maxRecDepth 100000
set_option maxHeartbeats 4000000
/-! ### rules to reckon what a tree evaluates to -/
namespace L3
open PySem PySem.Spec L2
section
/-- the same rules as L3's own, but no steps of reckoning for the kernel -/
theorem rb_ok {α β : Type} (a : α) (vh : VH) (k : α → VH → Res β) : (Res.ok a vh).bind k = k a vh := (rfl)
theorem ro_some {α : Type} (a : α) (vh : VH) : Res.ofO (some (a, vh)) = .ok a vh := (rfl)
theorem bs_ok {α : Type} (a : α) (vh : VH) (env : Env3) (k : α → VH → SRes) : bindS (.ok a vh) env k = k a vh := (rfl)
theorem to_ok {α : Type} (a : α) (vh : VH) : toO (.ok a vh) = some (a, vh) := (rfl)
theorem om_some {α β : Type} (f : α → β) (a : α) : (some a).map f = some (f a) := (rfl)
theorem ob_some {α β : Type} (f : α → Option β) (a : α) : (some a).bind f = f a := (rfl)
def o2 {α β : Type} (o : Option (α × VH)) (f : α → VH → Option β) : Option β := match o with
  | some (a, v) => f a v
  | none => none
theorem o2_some {α β : Type} (a : α) (v : VH) (f : α → VH → Option β) : o2 (some (a, v)) f = f a v := (rfl)
def seqK (r : SRes) (k : Env3 → VH → SRes) : SRes := match r with
  | .nx e v => k e v
  | r => r
theorem seqK_nx (e : Env3) (v : VH) (k : Env3 → VH → SRes) : seqK (.nx e v) k = k e v := (rfl)
theorem seqK_rt (d : D) (v : VH) (k : Env3 → VH → SRes) : seqK (.rt d v) k = .rt d v := (rfl)
theorem seqK_bk (e : Env3) (v : VH) (k : Env3 → VH → SRes) : seqK (.bk e v) k = .bk e v := (rfl)
theorem seqK_ct (e : Env3) (v : VH) (k : Env3 → VH → SRes) : seqK (.ct e v) k = .ct e v := (rfl)
theorem seqK_xn (c : Nat) (fs : List (Str × D)) (e : Env3) (v : VH) (k : Env3 → VH → SRes) : seqK (.exn c fs e v) k = .exn c fs e v := (rfl)
def asgK (o : Option (Env3 × VH)) : SRes := match o with
  | some (e, v) => .nx e v
  | none => .bad
theorem asgK_some (e : Env3) (v : VH) : asgK (some (e, v)) = .nx e v := (rfl)
def ptK (d : D) (vh : VH) : Res (Option Int) := match d with
  | .int i => .ok (some i) vh
  | _ => .bad
theorem ptK_int (i : Int) (vh : VH) : ptK (.int i) vh = .ok (some i) vh := (rfl)
variable {C : Cs} {env : Env3} {vh : VH}
theorem ev_var (i : Nat) : evalE C (.var i) env vh = varE i env vh := (rfl)
theorem ev_int (i : Int) : evalE C (.cst (.int i)) env vh = .ok (.int i) vh := (rfl)
theorem ev_str (x : Str) : evalE C (.cst (.str x)) env vh = .ok (.str x) vh := (rfl)
theorem ev_bool (b : Bool) : evalE C (.cst (.bool b)) env vh = .ok (.bl b) vh := (rfl)
theorem ev_none : evalE C (.cst .none) env vh = .ok .non vh := (rfl)
theorem ev_glc (k : Nat) : evalE C (.glc k) env vh = .ok (C.gc k) vh := (rfl)
theorem ev_bin (o : Operator) (m : Bool) (a b : Ex) : evalE C (.bin o m a b) env vh = (evalE C a env vh).bind fun x vh1 => (evalE C b env vh1).bind fun y vh2 => .ofO (binD m o vh2 x y) := (rfl)
theorem ev_neg (a : Ex) : evalE C (.neg a) env vh = (evalE C a env vh).bind fun x vh1 => .ofO (negD vh1 x) := (rfl)
theorem ev_not (a : Ex) : evalE C (.not a) env vh = (evalE C a env vh).bind fun x vh1 => (truthR x vh1).bind fun k vh2 => .ok (.bl !k) vh2 := (rfl)
theorem ev_and (es : List Ex) : evalE C (.and es) env vh = evalAnd C es env vh := (rfl)
theorem ev_or (es : List Ex) : evalE C (.or es) env vh = evalOr C es env vh := (rfl)
theorem ev_and1 (a : Ex) : evalAnd C [a] env vh = evalE C a env vh := (rfl)
theorem ev_and2 (a b : Ex) (r : List Ex) : evalAnd C (a :: b :: r) env vh = (evalE C a env vh).bind fun x vh1 => (truthR x vh1).bind fun k vh2 => if k then evalAnd C (b :: r) env vh2 else .ok x vh2 := (rfl)
theorem ev_or1 (a : Ex) : evalOr C [a] env vh = evalE C a env vh := (rfl)
theorem ev_or2 (a b : Ex) (r : List Ex) : evalOr C (a :: b :: r) env vh = (evalE C a env vh).bind fun x vh1 => (truthR x vh1).bind fun k vh2 => if k then .ok x vh2 else evalOr C (b :: r) env vh2 := (rfl)
theorem ev_ite (c a b : Ex) : evalE C (.ite c a b) env vh = (testE (evalE C c) env vh).bind fun k vh1 => if k then evalE C a env vh1 else evalE C b env vh1 := (rfl)
theorem ev_cmp (o : CmpOp) (a b : Ex) : evalE C (.cmp o a b) env vh = (evalE C a env vh).bind fun x vh1 => (evalE C b env vh1).bind fun y vh2 => .ofO (cmpD o vh2 x y) := (rfl)
def chK (k : D) (vh : VH) (r : Res D) : Res D := match k with
  | .bl true => r
  | .bl false => .ok (.bl false) vh
  | _ => .bad
theorem ev_cmp2 (o p : CmpOp) (a b c : Ex) : evalE C (.cmp2 o p a b c) env vh = (evalE C a env vh).bind fun x vh1 => (evalE C b env vh1).bind fun y vh2 => (Res.ofO (cmpD o vh2 x y)).bind fun k vh3 => chK k vh3 ((evalE C c env vh3).bind fun z vh4 => .ofO (cmpD p vh4 y z)) := (rfl)
theorem ch_bl (p q : Bool) (vh : VH) : chK (.bl p) vh (.ok (.bl q) vh) = .ok (.bl (p && q)) vh := by cases p <;> rfl
theorem ev_tup (es : List Ex) : evalE C (.tup es) env vh = (evalEs C es env vh).bind fun xs vh1 => .ofO (lineO xs.length (.tup xs, vh1)) := (rfl)
theorem ev_lst (m : Bool) (es : List Ex) : evalE C (.lst m es) env vh = (evalEs C es env vh).bind fun xs vh1 => .ofO (lineO xs.length (mkL m xs vh1)) := (rfl)
theorem ev_idx (a b : Ex) : evalE C (.idx a b) env vh = (evalE C a env vh).bind fun x vh1 => (evalE C b env vh1).bind fun y vh2 => .ofO (idxD vh2 x y) := (rfl)
theorem ev_slc (m l u : Bool) (a lo hi : Ex) : evalE C (.slc m l u a lo hi) env vh = (evalE C a env vh).bind fun x vh1 => (partE (if l then some (evalE C lo) else none) env vh1).bind fun l vh2 => (partE (if u then some (evalE C hi) else none) env vh2).bind fun u vh3 => .ofO (slcD m vh3 x l u) := (rfl)
theorem pt_none : partE none env vh = .ok none vh := (rfl)
theorem pt_some (f : Env3 → VH → Res D) : partE (some f) env vh = (f env vh).bind fun d vh1 => ptK d vh1 := (rfl)
theorem ev_rev (m : Bool) (a : Ex) : evalE C (.rev m a) env vh = (evalE C a env vh).bind fun x vh1 => .ofO (revD m vh1 x) := (rfl)
theorem rev_tup (m : Bool) (ds : List D) : revD m vh (.tup ds) = some (.tup ds.reverse, vh) := (rfl)
theorem rev_lst (m : Bool) (ds : List D) : revD m vh (.lst ds) = some (mkL m ds.reverse vh) := (rfl)
theorem ev_call (f : Nat) (es : List Ex) : evalE C (.call f es) env vh = (evalEs C es env vh).bind fun ds vh1 => if ds.length = C.n f then cutR vh1 (C.F f ds vh1) else .bad := (rfl)
theorem ev_blt (b : Blt) (m : Bool) (es : List Ex) : evalE C (.blt b m es) env vh = (evalEs C es env vh).bind fun xs vh1 => .ofO (bltD b m vh1 xs) := (rfl)
theorem ev_isi (t : Ty) (a : Ex) : evalE C (.isi t a) env vh = (evalE C a env vh).bind fun x vh1 => .ofO ((tyD vh1 x).map fun s => (.bl (s.isa t), vh1)) := (rfl)
theorem ev_app (a e : Ex) : evalE C (.app a e) env vh = (evalE C a env vh).bind fun x vh1 => if (lstOf vh1 x).isSome then (evalE C e env vh1).bind fun y vh2 => .ofO (appD vh2 x y) else .bad := (rfl)
theorem ev_comp (m : Bool) (own : List (Str × Nat)) (t : CT) (ik : IK) (a b c e : Ex) : evalE C (.comp m own t ik a b c e) env vh = (itE ik (evalE C a) (evalE C b) env vh).bind fun ds vh1 => .ofO (compF m (compStep (own.map (·.2)) t (testE (evalE C c)) (evalE C e) env) ds vh1) := (rfl)
theorem ev_comp2 (m : Bool) (own : List (Str × Nat)) (t : CT) (ik : IK) (a b c : Ex) (t1 : CT) (ik1 : IK) (a1 b1 c1 e : Ex) : evalE C (.comp2 m own t ik a b c t1 ik1 a1 b1 c1 e) env vh = (itE ik (evalE C a) (evalE C b) env vh).bind fun ds vh1 => .ofO (compF m (comp2Step (own.map (·.2)) t (testE (evalE C c)) t1.slots t1 (itE ik1 (evalE C a1) (evalE C b1)) (testE (evalE C c1)) (evalE C e) env) ds vh1) := (rfl)
theorem ev_yes : evalE C .yes env vh = .ok (.bl true) vh := (rfl)
theorem ev_frz (a : Ex) : evalE C (.frz a) env vh = (evalE C a env vh).bind fun x vh1 => .ofO (freezeD x vh1) := (rfl)
theorem ev_sset (m : Bool) (a : Ex) : evalE C (.sset m a) env vh = (evalE C a env vh).bind fun x vh1 => .ofO (ssetD m vh1 x) := (rfl)
theorem ev_xat (i : Nat) (f : Str) : evalE C (.xat i f) env vh = match env[i]? with
    | some (some (.gl _)) => (match C.xa f with
      | some d => .ok d vh
      | none => .bad)
    | _ => .bad := (rfl)
theorem evs_nil : evalEs C [] env vh = .ok [] vh := (rfl)
theorem evs_cons (e : Ex) (es : List Ex) : evalEs C (e :: es) env vh = (evalE C e env vh).bind fun x vh1 => (evalEs C es env vh1).bind fun xs vh2 => .ok (x :: xs) vh2 := (rfl)
theorem te_ev (c : Ex) : testE (evalE C c) env vh = (evalE C c env vh).bind truthR := (rfl)
theorem it_sq (f g : Env3 → VH → Res D) : itE .sq f g env vh = (f env vh).bind fun x vh1 => .ofO ((itemsD x).map fun ds => (ds, vh1)) := (rfl)
def r1K (x : D) (vh : VH) : Res (List D) := match x with
  | .int j => if -(2 ^ 62) ≤ j ∧ j < 2 ^ 62 then .ok (rngL 0 j) vh else .bad
  | _ => .bad
def r2K (x y : D) (vh : VH) : Res (List D) := match x, y with
  | .int i, .int j => if -(2 ^ 62) ≤ i ∧ i < 2 ^ 62 ∧ -(2 ^ 62) ≤ j ∧ j < 2 ^ 62 then .ok (rngL i j) vh else .bad
  | _, _ => .bad
theorem it_r1 (f g : Env3 → VH → Res D) : itE .r1 f g env vh = (f env vh).bind fun x vh1 => r1K x vh1 := (rfl)
theorem it_r2 (f g : Env3 → VH → Res D) : itE .r2 f g env vh = (f env vh).bind fun x vh1 => (g env vh1).bind fun y vh2 => r2K x y vh2 := (rfl)
def inR (i : Int) : Prop := -(2 ^ 62) ≤ i ∧ i < 2 ^ 62
theorem inR_of {i : Int} (h : -1000000000000 ≤ i) (h2 : i ≤ 1000000000000) : inR i := by
  have : (2 : Int) ^ 62 = 4611686018427387904 := by decide
  unfold inR
  rw [this]
  omega
theorem szl {n : Nat} (h : n ≤ 10000000) : n ≤ sizeLine := by
  have : sizeLine = 16777216 := (rfl)
  omega
theorem r1_ok {j : Int} (hj : inR j) : r1K (.int j) vh = .ok ((List.range j.toNat).map fun (k : Nat) => D.int k) vh := by
  unfold r1K
  have : rngL 0 j = (List.range j.toNat).map fun (k : Nat) => D.int k := by unfold rngL; simp
  rw [← this]
  exact if_pos hj
theorem r2_ok {i j : Int} (hi : inR i) (hj : inR j) : r2K (.int i) (.int j) vh = .ok ((List.range (j - i).toNat).map fun (k : Nat) => D.int (i + k)) vh := by
  unfold r2K
  exact if_pos ⟨hi.1, hi.2, hj.1, hj.2⟩
theorem li0 {α : Type} (a : α) : lineO 0 a = some a := if_pos (by decide)
theorem li1 {α : Type} (a : α) : lineO 1 a = some a := if_pos (by decide)
theorem li2 {α : Type} (a : α) : lineO 2 a = some a := if_pos (by decide)
theorem li3 {α : Type} (a : α) : lineO 3 a = some a := if_pos (by decide)
theorem li4 {α : Type} (a : α) : lineO 4 a = some a := if_pos (by decide)
theorem li5 {α : Type} (a : α) : lineO 5 a = some a := if_pos (by decide)
theorem li6 {α : Type} (a : α) : lineO 6 a = some a := if_pos (by decide)
theorem li7 {α : Type} (a : α) : lineO 7 a = some a := if_pos (by decide)
/- values -/
theorem v0 (o : D) (e : Env3) : varE 0 (some o :: e) vh = .ok o vh := (rfl)
theorem vS (i : Nat) (o : Option D) (e : Env3) : varE (i + 1) (o :: e) vh = varE i e vh := (rfl)
theorem tr_bl (b : Bool) : truthR (.bl b) vh = .ok b vh := (rfl)
theorem tr_int (i : Int) : truthR (.int i) vh = .ok (i != 0) vh := (rfl)
theorem tr_non : truthR .non vh = .ok false vh := (rfl)
theorem and_bl (p q : Bool) (vh : VH) : (if p = true then (.ok (.bl q) vh : Res D) else .ok (.bl p) vh) = .ok (.bl (p && q)) vh := by cases p <;> rfl
theorem or_bl (p q : Bool) (vh : VH) : (if p = true then (.ok (.bl p) vh : Res D) else .ok (.bl q) vh) = .ok (.bl (p || q)) vh := by cases p <;> rfl
theorem c_lt (i j : Int) : cmpD .Lt vh (.int i) (.int j) = some (.bl (decide (i < j)), vh) := (rfl)
theorem c_le (i j : Int) : cmpD .LtE vh (.int i) (.int j) = some (.bl (decide (i ≤ j)), vh) := (rfl)
theorem c_gt (i j : Int) : cmpD .Gt vh (.int i) (.int j) = some (.bl (decide (j < i)), vh) := (rfl)
theorem c_ge (i j : Int) : cmpD .GtE vh (.int i) (.int j) = some (.bl (decide (j ≤ i)), vh) := (rfl)
theorem c_isN (a : D) : cmpD .Is vh a .non = some (.bl (isNonD a), vh) := by
  show isD false vh a .non = _
  cases a <;> rfl
theorem c_isntN (a : D) : cmpD .IsNot vh a .non = some (.bl (!isNonD a), vh) := by
  show isD true vh a .non = _
  cases a <;> rfl
theorem c_isB (x y : Bool) : cmpD .Is vh (.bl x) (.bl y) = some (.bl (x == y), vh) := by cases x <;> cases y <;> rfl
theorem c_isntB (x y : Bool) : cmpD .IsNot vh (.bl x) (.bl y) = some (.bl (x != y), vh) := by cases x <;> cases y <;> rfl
theorem b_add (m : Bool) (i j : Int) : binD m .Add vh (.int i) (.int j) = some (.int (i + j), vh) := (rfl)
theorem b_sub (m : Bool) (i j : Int) : binD m .Sub vh (.int i) (.int j) = some (.int (i - j), vh) := (rfl)
theorem b_addL {ds es : List D} (m : Bool) (h : ds.length + es.length ≤ sizeLine) : binD m .Add vh (.lst ds) (.lst es) = some (mkL m (ds ++ es) vh) := if_pos h
theorem b_addT {ds es : List D} (m : Bool) (h : ds.length + es.length ≤ sizeLine) : binD m .Add vh (.tup ds) (.tup es) = some (.tup (ds ++ es), vh) := if_pos h
theorem line_ok {α : Type} {n : Nat} {a : α} (h : n ≤ sizeLine) : lineO n a = some a := if_pos h
theorem mk_f (ds : List D) : mkL false ds vh = (.lst ds, vh) := (rfl)
theorem mk_t (ds : List D) : mkL true ds vh = (.ref vh.length, vh ++ [.lst ds]) := (rfl)
theorem ix_tup (ds : List D) (i : Int) : idxD vh (.tup ds) (.int i) = (atI ds i).map fun d => (d, vh) := (rfl)
theorem ix_lst (ds : List D) (i : Int) : idxD vh (.lst ds) (.int i) = (atI ds i).map fun d => (d, vh) := (rfl)
theorem ix_ref {n : Nat} {ds : List D} (i : Int) (h : vh[n]? = some (.lst ds)) : idxD vh (.ref n) (.int i) = (atI ds i).map fun d => (d, vh) := by
  show (match seqOf vh (.ref n) with
      | some ds => (atI ds i).map fun d => (d, vh)
      | none => none) = _
  have e : seqOf vh (.ref n) = some ds := by
    show (match vh[n]? with
      | some (.lst ds) => some ds
      | _ => none) = _
    rw [h]
  rw [e]
theorem at_nat {α : Type} (xs : List α) (k : Nat) : atI xs (k : Int) = xs[k]? := by
  unfold atI ixN
  rw [if_pos (by omega)]
  by_cases h : k < xs.length
  · rw [if_pos (by omega)]; simp
  · rw [if_neg (by omega), List.getElem?_eq_none (by omega)]; rfl
theorem at_0 {α : Type} (x : α) (xs : List α) : atI (x :: xs) 0 = some x := at_nat (x :: xs) 0
theorem at_1 {α : Type} (y x : α) (xs : List α) : atI (y :: x :: xs) 1 = some x := at_nat (y :: x :: xs) 1
theorem at_2 {α : Type} (z y x : α) (xs : List α) : atI (z :: y :: x :: xs) 2 = some x := at_nat (z :: y :: x :: xs) 2
theorem at_3 {α : Type} (u z y x : α) (xs : List α) : atI (u :: z :: y :: x :: xs) 3 = some x := at_nat (u :: z :: y :: x :: xs) 3
theorem at_4 {α : Type} (t u z y x : α) (xs : List α) : atI (t :: u :: z :: y :: x :: xs) 4 = some x := at_nat (t :: u :: z :: y :: x :: xs) 4
theorem at_map {α : Type} (f : α → D) (xs : List α) (k : Nat) (h : k < xs.length) : atI (xs.map f) (k : Int) = some (f xs[k]) := by
  rw [at_nat, List.getElem?_map, List.getElem?_eq_getElem h]; rfl
theorem bl_lenT (m : Bool) (ds : List D) : bltD .len m vh [.tup ds] = some (.int ds.length, vh) := (rfl)
theorem bl_lenL (m : Bool) (ds : List D) : bltD .len m vh [.lst ds] = some (.int ds.length, vh) := (rfl)
theorem bl_max2 (m : Bool) (i j : Int) : bltD .max2 m vh [.int i, .int j] = some (.int (max i j), vh) := by
  show some (D.int (if j > i then j else i), vh) = _
  congr 3
  omega
theorem bl_sum (m : Bool) (ns : List Int) : bltD .sum m vh [.lst (ns.map .int)] = some (.int ns.sum, vh) := by
  show ((seqOf vh (.lst (ns.map .int))).bind intsOf).map _ = _
  rw [seqOf_lst, Option.bind_some, ints_map]; rfl
theorem bl_all (m : Bool) (ns : List Bool) : bltD .all m vh [.lst (ns.map .bl)] = some (.bl (ns.all id), vh) := by
  show ((seqOf vh (.lst (ns.map .bl))).bind boolsOf).map _ = _
  rw [seqOf_lst, Option.bind_some, bools_map]; rfl
theorem bl_maxL (m : Bool) (n : Int) (ns : List Int) : bltD .maxL m vh [.lst (.int n :: ns.map .int)] = some (.int (ns.foldl max n), vh) := by
  show ((seqOf vh (.lst ((n :: ns).map .int))).bind intsOf).bind _ = _
  rw [seqOf_lst, Option.bind_some, ints_map]; rfl
theorem bl_sumf {α : Type} (m : Bool) (f : α → Int) (xs : List α) : bltD .sum m vh [.lst (xs.map fun x => .int (f x))] = some (.int (xs.map f).sum, vh) := by
  have := bl_sum (vh := vh) m (xs.map f)
  rwa [List.map_map] at this
theorem bl_allf {α : Type} (m : Bool) (f : α → Bool) (xs : List α) : bltD .all m vh [.lst (xs.map fun x => .bl (f x))] = some (.bl (xs.all f), vh) := by
  have := bl_all (vh := vh) m (xs.map f)
  rw [List.map_map] at this
  rw [List.all_map] at this
  exact this
theorem bl_maxf {α : Type} (m : Bool) (n : Int) (f : α → Int) (xs : List α) : bltD .maxL m vh [.lst (.int n :: xs.map fun x => .int (f x))] = some (.int (xs.foldl (fun a x => max a (f x)) n), vh) := by
  have := bl_maxL (vh := vh) m n (xs.map f)
  rw [List.map_map] at this
  rw [List.foldl_map] at this
  exact this
theorem bl_tupT (m : Bool) (ds : List D) : bltD .tuple m vh [.tup ds] = some (.tup ds, vh) := (rfl)
theorem bl_tupL (m : Bool) (ds : List D) : bltD .tuple m vh [.lst ds] = some (.tup ds, vh) := (rfl)
theorem bl_int (m : Bool) (i : Int) : bltD .int m vh [.int i] = some (.int i, vh) := (rfl)
theorem bl_intB (m : Bool) (k : Bool) : bltD .int m vh [.bl k] = some (.int (if k then 1 else 0), vh) := (rfl)
/- calls -/
/-- called with these, it gives this one back and leaves all as it was -/
abbrev Says (F : List D → VH → Res D) (ds : List D) (d : D) : Prop := ∀ vh, cutR vh (F ds vh) = .ok d vh
theorem says_of {F : List D → VH → Res D} {ds : List D} {d : D} (hp : d.pure = true) (h : ∀ vh, ∃ z, F ds vh = .ok d (vh ++ z)) : Says F ds d := fun vh => by
  obtain ⟨z, e⟩ := h vh
  rw [e]
  show (if (vh ++ z).take vh.length = vh ∧ d.pure = true then Res.ok d vh else .ok d (vh ++ z)) = _
  rw [if_pos ⟨by simp, hp⟩]
theorem call_says {f : Nat} {es : List Ex} {ds : List D} {d : D} {vh1 : VH} (h : Says (C.F f) ds d) (e : evalEs C es env vh = .ok ds vh1) (hn : ds.length = C.n f) : evalE C (.call f es) env vh = .ok d vh1 := by
  rw [ev_call, e, Res.bind_ok, if_pos hn]; exact h vh1
/- statements -/
theorem sq_nil : evalSs C [] env vh = .nx env vh := (rfl)
theorem sq_cons (s : Sm) (ss : List Sm) : evalSs C (s :: ss) env vh = seqK (evalS C s env vh) fun e v => evalSs C ss e v := (rfl)
theorem sq_nx {s : Sm} {ss : List Sm} {e : Env3} {v : VH} (h : evalS C s env vh = .nx e v) : evalSs C (s :: ss) env vh = evalSs C ss e v := by
  rw [sq_cons, h, seqK_nx]
theorem sq_rt {s : Sm} {ss : List Sm} {d : D} {v : VH} (h : evalS C s env vh = .rt d v) : evalSs C (s :: ss) env vh = .rt d v := by
  rw [sq_cons, h, seqK_rt]
theorem s_set (i : Nat) (e : Ex) : evalS C (.set i e) env vh = bindS (evalE C e env vh) env fun d vh1 => .nx (env.set i (some d)) vh1 := (rfl)
theorem s_ret (e : Ex) : evalS C (.ret e) env vh = bindS (evalE C e env vh) env fun d vh1 => .rt d vh1 := (rfl)
theorem s_expr (e : Ex) : evalS C (.expr e) env vh = bindS (evalE C e env vh) env fun _ vh1 => .nx env vh1 := (rfl)
theorem s_ifs (c : Ex) (a b : List Sm) : evalS C (.ifs c a b) env vh = bindS (testE (evalE C c) env vh) env fun k vh1 => if k then evalSs C a env vh1 else evalSs C b env vh1 := (rfl)
theorem s_fr (t : CT) (ik : IK) (a b : Ex) (body : List Sm) : evalS C (.fr t ik a b body) env vh = bindS (itE ik (evalE C a) (evalE C b) env vh) env fun ds vh1 => forL t (evalSs C body) ds env vh1 := (rfl)
theorem s_whl (n : Nat) (c : Ex) (b : List Sm) : evalS C (.whl n c b) env vh = whlS (evalE C c) (evalSs C b) n env vh := (rfl)
theorem s_asg (t : Tg) (e : Ex) : evalS C (.asg t e) env vh = bindS (evalE C e env vh) env fun d vh1 => asgK (evalTg C t d env vh1) := (rfl)
theorem s_brk : evalS C .brk env vh = .bk env vh := (rfl)
theorem s_cnt : evalS C .cnt env vh = .ct env vh := (rfl)
theorem s_aug (i : Nat) (o : Operator) (e : Ex) : evalS C (.aug i o e) env vh = bindS (varE i env vh) env fun a vh1 => bindS (evalE C e env vh1) env fun b vh2 => bindS (.ofO (augD o vh2 a b)) env fun c vh3 => .nx (env.set i (some c)) vh3 := (rfl)
theorem s_par2 (i j : Nat) (a b : Ex) : evalS C (.par2 i j [a, b]) env vh = bindS (evalE C a env vh) env fun x vh1 => bindS (evalE C b env vh1) env fun y vh2 => .nx ((env.set i (some x)).set j (some y)) vh2 := by
  have h : evalS C (.par2 i j [a, b]) env vh = asgS (tpF 2 (consF (nmF i) (consF (nmF j) nilF))) (tupE (evalEs C [a, b])) env vh := (rfl)
  rw [h]
  unfold asgS tupE
  rw [evs_cons]
  cases evalE C a env vh with
  | ok x vh1 =>
    simp only [Res.bind_ok, bindS_ok]
    rw [evs_cons]
    cases evalE C b env vh1 with
    | ok y vh2 => rfl
    | exn => rfl
    | bad => rfl
  | exn => rfl
  | bad => rfl
theorem f_nil (t : CT) (b : Env3 → VH → SRes) : forL t b [] env vh = .nx env vh := (rfl)
/- loops -/
/-- a for, turn by turn: I of the items behind; R of how it ends -/
theorem for_rule {α : Type} {t : CT} {b : Env3 → VH → SRes} (enc : α → D) (R : SRes → Prop) (I : List α → Env3 → VH → Prop) {xs : List α}
    (h : ∀ pre x suf env vh, xs = pre ++ x :: suf → I pre env vh → ∃ env1, setCT t (enc x) env = some env1 ∧
      ((∃ e v, (b env1 vh = .nx e v ∨ b env1 vh = .ct e v) ∧ I (pre ++ [x]) e v) ∨ (∃ e v, b env1 vh = .bk e v ∧ R (.nx e v)) ∨ (∃ d v, b env1 vh = .rt d v ∧ R (.rt d v))))
    (hend : ∀ e v, I xs e v → R (.nx e v)) : ∀ {env vh}, I [] env vh → R (forL t b (xs.map enc) env vh) := by
  have go : ∀ suf pre env vh, xs = pre ++ suf → I pre env vh → R (forL t b (suf.map enc) env vh) := by
    intro suf
    induction suf with
    | nil => intro pre env vh e hi; rw [List.append_nil] at e; subst e; exact hend _ _ hi
    | cons x suf ih =>
      intro pre env vh e hi
      obtain ⟨env1, e1, h1⟩ := h pre x suf env vh e hi
      show R (match setCT t (enc x) env with
        | none => .bad
        | some env1 => match b env1 vh with
          | .nx e v => forL t b (suf.map enc) e v
          | .ct e v => forL t b (suf.map enc) e v
          | .bk e v => .nx e v
          | r => r)
      rw [e1]
      rcases h1 with ⟨e2, v2, h2, h3⟩ | ⟨e2, v2, h2, h3⟩ | ⟨d, v2, h2, h3⟩
      · have := ih (pre ++ [x]) e2 v2 (by simp [e]) h3
        rcases h2 with h2 | h2 <;> (simp only [h2]; exact this)
      · simp only [h2]; exact h3
      · simp only [h2]; exact h3
  exact fun {env vh} hi => go xs [] env vh rfl hi
/-- a for that goes through -/
theorem for_all {α : Type} {t : CT} {b : Env3 → VH → SRes} (enc : α → D) (I : List α → Env3 → VH → Prop) {xs : List α}
    (h : ∀ pre x suf env vh, xs = pre ++ x :: suf → I pre env vh → ∃ env1, setCT t (enc x) env = some env1 ∧
      ∃ e v, (b env1 vh = .nx e v ∨ b env1 vh = .ct e v) ∧ I (pre ++ [x]) e v) {env vh} (hi : I [] env vh) : ∃ e v, forL t b (xs.map enc) env vh = .nx e v ∧ I xs e v :=
  for_rule enc (fun r => ∃ e v, r = .nx e v ∧ I xs e v) I (fun pre x suf env vh e hi => by
    obtain ⟨env1, e1, h1⟩ := h pre x suf env vh e hi
    exact ⟨env1, e1, .inl h1⟩) (fun e v hi => ⟨e, v, rfl, hi⟩) hi
theorem whl_rule {c : Env3 → VH → Res D} {b : Env3 → VH → SRes} (R : SRes → Prop) (I : Nat → Env3 → VH → Prop)
    (h : ∀ m env vh, I m env vh → ∃ k vh1, testE c env vh = .ok k vh1 ∧ ((k = false ∧ R (.nx env vh1)) ∨ (k = true ∧
      ((∃ e v m', m' < m ∧ (b env vh1 = .nx e v ∨ b env vh1 = .ct e v) ∧ I m' e v) ∨ (∃ e v, b env vh1 = .bk e v ∧ R (.nx e v)) ∨ (∃ d v, b env vh1 = .rt d v ∧ R (.rt d v)))))) :
    ∀ n {m env vh}, m < n → I m env vh → R (whlS c b n env vh) := by
  intro n
  induction n with
  | zero => intro m env vh hm; omega
  | succ n ih =>
    intro m env vh hm hi
    obtain ⟨k, vh1, e1, h1⟩ := h m env vh hi
    show R (bindS (testE c env vh) env fun k vh1 => if k then (match b env vh1 with
      | .nx e v => whlS c b n e v
      | .ct e v => whlS c b n e v
      | .bk e v => .nx e v
      | r => r) else .nx env vh1)
    rw [e1, bindS_ok]
    rcases h1 with ⟨rfl, h1⟩ | ⟨rfl, h1⟩
    · exact h1
    · simp only [if_true]
      rcases h1 with ⟨e, v, m', hlt, h2, h3⟩ | ⟨e, v, h2, h3⟩ | ⟨d, v, h2, h3⟩
      · have := ih (m := m') (by omega) h3
        rcases h2 with h2 | h2 <;> (simp only [h2]; exact this)
      · simp only [h2]; exact h3
      · simp only [h2]; exact h3
/- comprehensions -/
theorem compL_map {α : Type} {step : D → VH → Option (List D × VH)} (enc : α → D) (p : α → Bool) (g : α → D) {xs : List α} (h : ∀ x ∈ xs, step (enc x) vh = some (if p x then [g x] else [], vh)) :
    compL step (xs.map enc) vh = some ((xs.filter p).map g, vh) := by
  induction xs with
  | nil => rfl
  | cons x xs ih =>
    have ih := ih fun y hy => h y (List.mem_cons_of_mem _ hy)
    show (step (enc x) vh).bind _ = _
    rw [h x List.mem_cons_self, Option.bind_some]
    show (compL step (xs.map enc) vh).map _ = _
    rw [ih, Option.map_some]
    cases hp : p x <;> simp [hp]
theorem compL_flat {α : Type} {step : D → VH → Option (List D × VH)} (enc : α → D) (g : α → List D) {xs : List α} (h : ∀ x ∈ xs, step (enc x) vh = some (g x, vh)) :
    compL step (xs.map enc) vh = some (xs.flatMap g, vh) := by
  induction xs with
  | nil => rfl
  | cons x xs ih =>
    have ih := ih fun y hy => h y (List.mem_cons_of_mem _ hy)
    show (step (enc x) vh).bind _ = _
    rw [h x List.mem_cons_self, Option.bind_some]
    show (compL step (xs.map enc) vh).map _ = _
    rw [ih, Option.map_some]
    simp
theorem compF_map {α : Type} {m : Bool} {step : D → VH → Option (List D × VH)} (enc : α → D) (p : α → Bool) (g : α → D) {xs : List α} (h : ∀ x ∈ xs, step (enc x) vh = some (if p x then [g x] else [], vh)) (hl : xs.length ≤ sizeLine) :
    compF m step (xs.map enc) vh = some (mkL m ((xs.filter p).map g) vh) := by
  unfold compF
  rw [compL_map enc p g h, Option.bind_some]
  exact line_ok (by rw [List.length_map]; exact Nat.le_trans (List.length_filter_le _ _) hl)
theorem compF_all {α : Type} {m : Bool} {step : D → VH → Option (List D × VH)} (enc : α → D) (g : α → D) {xs : List α} (h : ∀ x ∈ xs, step (enc x) vh = some ([g x], vh)) (hl : xs.length ≤ sizeLine) :
    compF m step (xs.map enc) vh = some (mkL m (xs.map g) vh) := by
  have := compF_map (m := m) enc (fun _ => true) g (xs := xs) (vh := vh) (step := step) (by simpa using h) hl
  rw [List.filter_eq_self.mpr (fun _ _ => rfl)] at this
  exact this
theorem cs_def (own : List Nat) (t : CT) (c : Env3 → VH → Res Bool) (e : Env3 → VH → Res D) (d : D) : compStep own t c e env d vh = (setCT t d (wipeE env own)).bind fun env1 => o2 (toO (c env1 vh)) fun k vh1 => if k then o2 (toO (e env1 vh1)) fun y vh2 => some ([y], vh2) else some ([], vh1) := by
  unfold compStep
  congr 1
  funext env1
  cases c env1 vh with
  | ok k v =>
    simp only [toO_ok, Option.bind_some, o2]
    cases k with
    | false => rfl
    | true =>
      simp only [if_true]
      cases e env1 v <;> rfl
  | exn => rfl
  | bad => rfl
theorem rng_map (lo hi : Int) : rngL lo hi = (List.range (hi - lo).toNat).map fun (k : Nat) => D.int (lo + k) := (rfl)
theorem rng0 (n : Nat) : rngL 0 (n : Int) = (List.range n).map fun (k : Nat) => D.int k := by
  unfold rngL
  simp
theorem ct_nm (i : Nat) (d : D) : setCT (.nm i) d env = some (env.set i (some d)) := (rfl)
theorem ct_tp2 (i j : Nat) (a b : D) : setCT (.tp [i, j]) (.tup [a, b]) env = some ((env.set i (some a)).set j (some b)) := (rfl)
theorem ct_tp3 (i j k : Nat) (a b c : D) : setCT (.tp [i, j, k]) (.tup [a, b, c]) env = some (((env.set i (some a)).set j (some b)).set k (some c)) := (rfl)
theorem wp_nil : wipeE env [] = env := (rfl)
theorem wp_cons (v : Nat) (vs : List Nat) : wipeE env (v :: vs) = (wipeE env vs).set v none := (rfl)
theorem cs2_def (own : List Nat) (t : CT) (c : Env3 → VH → Res Bool) (vs1 : List Nat) (t1 : CT) (it1 : Env3 → VH → Res (List D)) (c1 : Env3 → VH → Res Bool) (e : Env3 → VH → Res D) (d : D) : comp2Step own t c vs1 t1 it1 c1 e env d vh =
  (setCT t d (wipeE env own)).bind fun env1 => o2 (toO (c env1 vh)) fun k vh1 => if k then o2 (toO (it1 env1 vh1)) fun ds1 vh2 => compL (compStep vs1 t1 c1 e env1) ds1 vh2 else some ([], vh1) := by
  unfold comp2Step
  congr 1
  funext env1
  cases c env1 vh with
  | ok k v =>
    simp only [toO_ok, Option.bind_some, o2]
    cases k with
    | false => rfl
    | true =>
      simp only [if_true]
      cases it1 env1 v <;> rfl
  | exn => rfl
  | bad => rfl
theorem if_som {α : Type} (k : Bool) (a b : α) (vh : VH) : (if k = true then some (a, vh) else some (b, vh)) = some (if k = true then a else b, vh) := by cases k <;> rfl
theorem compF_flat {α : Type} {m : Bool} {step : D → VH → Option (List D × VH)} (enc : α → D) (g : α → List D) {xs : List α} (h : ∀ x ∈ xs, step (enc x) vh = some (g x, vh)) (hl : (xs.flatMap g).length ≤ sizeLine) :
    compF m step (xs.map enc) vh = some (mkL m (xs.flatMap g) vh) := by
  unfold compF
  rw [compL_flat enc g h, Option.bind_some]
  exact line_ok hl
theorem tg_nm (i : Nat) (d : D) : evalTg C (.nm i) d env vh = some (env.set i (some d), vh) := (rfl)
theorem tg_sub (o i : Ex) (d : D) : evalTg C (.sub o i) d env vh = o2 (toO (evalE C o env vh)) fun o vh1 => o2 (toO (evalE C i env vh1)) fun i vh2 => (setIxD vh2 o i d).map fun vh3 => (env, vh3) := by
  show (toO (evalE C o env vh)).bind _ = _
  cases evalE C o env vh with
  | ok k v =>
    simp only [toO_ok, Option.bind_some, o2]
    cases evalE C i env v <;> rfl
  | exn => rfl
  | bad => rfl
theorem tg_tp2 (s t : Tg) (a b : D) : evalTg C (.tp [s, t]) (.tup [a, b]) env vh = o2 (evalTg C s a env vh) fun env1 vh1 => evalTg C t b env1 vh1 := by
  show (evalTg C s a env vh).bind _ = _
  cases evalTg C s a env vh with
  | none => rfl
  | some p =>
    simp only [Option.bind_some, o2]
    show (evalTg C t b p.1 p.2).bind _ = _
    cases evalTg C t b p.1 p.2 <;> rfl
theorem tg_tp3 (s t u : Tg) (a b c : D) : evalTg C (.tp [s, t, u]) (.tup [a, b, c]) env vh = o2 (evalTg C s a env vh) fun env1 vh1 => o2 (evalTg C t b env1 vh1) fun env2 vh2 => evalTg C u c env2 vh2 := by
  show (evalTg C s a env vh).bind _ = _
  cases evalTg C s a env vh with
  | none => rfl
  | some p =>
    simp only [Option.bind_some, o2]
    show (evalTg C t b p.1 p.2).bind _ = _
    cases evalTg C t b p.1 p.2 with
    | none => rfl
    | some q =>
      simp only [Option.bind_some]
      show (evalTg C u c q.1 q.2).bind _ = _
      cases evalTg C u c q.1 q.2 <;> rfl
theorem six_nat {n : Nat} {ds : List D} {k : Nat} {d : D} (h : vh[n]? = some (.lst ds)) (hk : k < ds.length) : setIxD vh (.ref n) (.int (k : Int)) d = some (vh.set n (.lst (ds.set k d))) := by
  show (match vh[n]? with
    | some (.lst ds) => (ixN ds.length (k : Int)).map fun j => vh.set n (.lst (ds.set j d))
    | _ => none) = _
  rw [h]
  have : ixN ds.length (k : Int) = some k := by unfold ixN; rw [if_pos (by omega), if_pos (by omega)]; rfl
  simp only [this, Option.map_some]
theorem fz_ref {n : Nat} {ds : List D} (h : vh[n]? = some (.lst ds)) : freezeD (.ref n) vh = some (.lst ds, vh.set n .gone) := by
  show (match vh[n]? with
    | some (.lst ds) => some (D.lst ds, vh.set n .gone)
    | _ => none) = _
  rw [h]
theorem app_ref {n : Nat} {ds : List D} {d : D} (h : vh[n]? = some (.lst ds)) (hl : ds.length < sizeLine) : appD vh (.ref n) d = some (.non, vh.set n (.lst (ds ++ [d]))) := by
  show (match vh[n]? with
    | some (.lst ds) => if ds.length < sizeLine then some (D.non, vh.set n (.lst (ds ++ [d]))) else none
    | _ => none) = _
  rw [h]; exact if_pos hl
theorem lst_ref {n : Nat} {ds : List D} (h : vh[n]? = some (.lst ds)) : lstOf vh (.ref n) = some ds := by
  show (match vh[n]? with
    | some (.lst ds) => some ds
    | _ => none) = _
  rw [h]
theorem seq_ref {n : Nat} {ds : List D} (h : vh[n]? = some (.lst ds)) : seqOf vh (.ref n) = some ds := by
  show (match vh[n]? with
    | some (.lst ds) => some ds
    | _ => none) = _
  rw [h]
theorem bl_lenR {n : Nat} {ds : List D} (m : Bool) (h : vh[n]? = some (.lst ds)) : bltD .len m vh [.ref n] = some (.int ds.length, vh) := by
  show (seqOf vh (.ref n)).map (fun ds => (D.int ds.length, vh)) = _
  rw [seq_ref h]; rfl
theorem b_mulI (m : Bool) {i j : Int} (h : mulOk i j = true) : binD m .Mult vh (.int i) (.int j) = some (.int (i * j), vh) := if_pos h
theorem b_mulL (m : Bool) (x : D) (k : Nat) (h : k ≤ sizeLine) : binD m .Mult vh (.lst [x]) (.int (k : Int)) = some (mkL m (List.replicate k x) vh) := by
  simp only [binD, mulD, lstOf_lst]
  have h2 : sizeLine = 16777216 := (rfl)
  rw [if_pos (by omega), line_ok (by simp; omega)]
  have : (List.replicate (k : Int).toNat [x]).flatten = List.replicate k x := by
    rw [Int.toNat_natCast]
    simp
  rw [this]
theorem at_last {vh0 : VH} {o : O} : (vh0 ++ [o])[vh0.length]? = some o := by simp
theorem set_last {vh0 : VH} {o o' : O} : (vh0 ++ [o]).set vh0.length o' = vh0 ++ [o'] := by simp
theorem at_p0 {vh0 : VH} {o : O} {z : VH} : (vh0 ++ o :: z)[vh0.length]? = some o := by simp
theorem set_p0 {vh0 : VH} {o o' : O} {z : VH} : (vh0 ++ o :: z).set vh0.length o' = vh0 ++ o' :: z := by simp
theorem at_p1 {vh0 : VH} {o o1 : O} {z : VH} : (vh0 ++ o :: o1 :: z)[vh0.length + 1]? = some o1 := by simp
theorem set_p1 {vh0 : VH} {o o1 o' : O} {z : VH} : (vh0 ++ o :: o1 :: z).set (vh0.length + 1) o' = vh0 ++ o :: o' :: z := by simp
theorem range_split {n x : Nat} {pre suf : List Nat} (h : List.range n = pre ++ x :: suf) : x = pre.length ∧ pre = List.range pre.length ∧ x < n := by
  have hl := congrArg List.length h
  simp at hl
  have h1 : (List.range n)[pre.length]? = some x := by rw [h]; simp
  rw [List.getElem?_range (by omega)] at h1
  have h2 := congrArg (List.take pre.length) h
  rw [List.take_range, List.take_left' rfl, Nat.min_eq_left (by omega)] at h2
  exact ⟨(Option.some.inj h1).symm, h2.symm, by have := Option.some.inj h1; omega⟩
theorem b_addR {n : Nat} {ds es : List D} (m : Bool) (hd : vh[n]? = some (.lst ds)) (h : ds.length + es.length ≤ sizeLine) : binD m .Add vh (.ref n) (.lst es) = some (mkL m (ds ++ es) vh) := by
  show (match lstOf vh (.ref n), lstOf vh (.lst es) with
    | some xs, some ys => lineO (xs.length + ys.length) (mkL m (xs ++ ys) vh)
    | _, _ => none) = _
  rw [lst_ref hd]
  exact if_pos h
theorem mulOk_r {i j : Int} (h : -1000000000000 ≤ j) (h2 : j ≤ 1000000000000) : mulOk i j = true := by
  have : (2 : Int) ^ 64 = 18446744073709551616 := by decide
  unfold mulOk
  rw [this]
  have e1 : decide (-18446744073709551616 < j) = true := by rw [decide_eq_true_eq]; omega
  have e2 : decide (j < 18446744073709551616) = true := by rw [decide_eq_true_eq]; omega
  rw [e1, e2, Bool.and_self, Bool.or_true, Bool.true_or]
theorem b_fdiv (m : Bool) {i j : Int} (h : 0 < j) (h2 : j ≤ 1000000000000) : binD m .FloorDiv vh (.int i) (.int j) = some (.int (i / j), vh) := by
  have : j.natAbs.log2 < 9000 := by
    have h3 : j.natAbs < 2 ^ 40 := by
      have : (2 : Nat) ^ 40 = 1099511627776 := by decide
      omega
    have := (Nat.log2_lt (by omega)).mpr h3
    omega
  exact if_pos ⟨h, this⟩
theorem b_mod (m : Bool) {i j : Int} (h : 0 < j) : binD m .Mod vh (.int i) (.int j) = some (.int (i % j), vh) := if_pos h
theorem bl_abs (m : Bool) (i : Int) : bltD .abs m vh [.int i] = some (.int (if i < 0 then -i else i), vh) := (rfl)
theorem cut_of (d : D) (vh1 : VH) : ∃ vh2, cutR vh (.ok d vh1) = .ok d vh2 ∧ (vh2 = vh1 ∨ (vh2 = vh ∧ vh1.take vh.length = vh)) := by
  unfold cutR
  simp only
  split
  · rename_i h
    exact ⟨vh, rfl, .inr ⟨rfl, h.1⟩⟩
  · exact ⟨vh1, rfl, .inl rfl⟩
/-- a comprehension whose turns may change the heap -/
theorem compL_st {α : Type} {step : D → VH → Option (List D × VH)} {enc : α → D} {xs : List α} (J : List α → List D → VH → Prop)
    (h : ∀ pre x suf acc vh, xs = pre ++ x :: suf → J pre acc vh → ∃ ys vh', step (enc x) vh = some (ys, vh') ∧ J (pre ++ [x]) (acc ++ ys) vh') (h0 : J [] [] vh) :
    ∃ ys vh', compL step (xs.map enc) vh = some (ys, vh') ∧ J xs ys vh' := by
  have go : ∀ suf pre acc vh, xs = pre ++ suf → J pre acc vh → ∃ ys vh', compL step (suf.map enc) vh = some (ys, vh') ∧ J xs (acc ++ ys) vh' := by
    intro suf
    induction suf with
    | nil => intro pre acc vh e hj; rw [List.append_nil] at e; subst e; exact ⟨[], vh, rfl, by rw [List.append_nil]; exact hj⟩
    | cons x suf ih =>
      intro pre acc vh e hj
      obtain ⟨ys, vh', e1, h1⟩ := h pre x suf acc vh e hj
      obtain ⟨zs, vh2, e2, h2⟩ := ih (pre ++ [x]) (acc ++ ys) vh' (by simp [e]) h1
      refine ⟨ys ++ zs, vh2, ?_, by rw [← List.append_assoc]; exact h2⟩
      show (step (enc x) vh).bind _ = _
      rw [e1, Option.bind_some]
      show (compL step (suf.map enc) vh').map _ = _
      rw [e2, Option.map_some]
  obtain ⟨ys, vh', e, hj⟩ := go xs [] [] vh rfl h0
  exact ⟨ys, vh', e, hj⟩
theorem compF_st {α : Type} {m : Bool} {step : D → VH → Option (List D × VH)} {enc : α → D} {xs : List α} (J : List α → List D → VH → Prop)
    (h : ∀ pre x suf acc vh, xs = pre ++ x :: suf → J pre acc vh → ∃ ys vh', step (enc x) vh = some (ys, vh') ∧ J (pre ++ [x]) (acc ++ ys) vh') (h0 : J [] [] vh) (hl : ∀ ys vh', J xs ys vh' → ys.length ≤ sizeLine) :
    ∃ ys vh', compF m step (xs.map enc) vh = some (mkL m ys vh') ∧ J xs ys vh' := by
  obtain ⟨ys, vh', e, hj⟩ := compL_st J h h0
  refine ⟨ys, vh', ?_, hj⟩
  unfold compF
  rw [e, Option.bind_some]
  exact line_ok (hl ys vh' hj)
theorem six_0 {n : Nat} {ds : List D} {d : D} (h : vh[n]? = some (.lst ds)) (hk : 0 < ds.length) : setIxD vh (.ref n) (.int 0) d = some (vh.set n (.lst (ds.set 0 d))) := by
  show (match vh[n]? with
    | some (.lst ds) => (ixN ds.length 0).map fun j => vh.set n (.lst (ds.set j d))
    | _ => none) = _
  rw [h]
  have : ixN ds.length 0 = some 0 := by unfold ixN; rw [if_pos (by omega), if_pos (by omega)]; rfl
  simp only [this, Option.map_some]
theorem slc_T (m : Bool) (ds : List D) (lo hi : Option Int) : slcD m vh (.tup ds) lo hi = some (.tup (cutL ds lo hi), vh) := (rfl)
theorem slc_L (m : Bool) (ds : List D) (lo hi : Option Int) : slcD m vh (.lst ds) lo hi = some (mkL m (cutL ds lo hi) vh) := (rfl)
theorem slc_S (m : Bool) (ds : List D) (lo hi : Option Int) : slcD m vh (.scr ds) lo hi = some (mkL m (cutL ds lo hi) vh) := (rfl)
theorem cut_take {α : Type} (xs : List α) (k : Nat) : cutL xs none (some (k : Int)) = xs.take k := by
  unfold cutL
  rw [HT.sIx_none, HT.sIx_nat, List.drop_zero, Nat.sub_zero]
  by_cases h : k ≤ xs.length
  · rw [Nat.min_eq_left h]
  · rw [Nat.min_eq_right (by omega), List.take_length, List.take_of_length_le (by omega)]
theorem cut_drop {α : Type} (xs : List α) (k : Nat) : cutL xs (some (k : Int)) none = xs.drop k := by
  unfold cutL
  rw [HT.sIx_none, HT.sIx_nat]
  by_cases h : k ≤ xs.length
  · rw [Nat.min_eq_left h, List.take_of_length_le (by simp)]
  · rw [Nat.min_eq_right (by omega), List.drop_of_length_le (Nat.le_refl _), List.drop_of_length_le (by omega)]; simp
theorem neq_self (n : Nat) : (n = n) = True := eq_self n
theorem items_tup (ds : List D) : itemsD (.tup ds) = some ds := (rfl)
theorem items_lst (ds : List D) : itemsD (.lst ds) = some ds := (rfl)
theorem items_scr (ds : List D) : itemsD (.scr ds) = some ds := (rfl)
theorem nc0 : ((0 : Nat) : Int) = 0 := (rfl)
theorem nc1 : ((1 : Nat) : Int) = 1 := (rfl)
theorem nc2 : ((2 : Nat) : Int) = 2 := (rfl)
theorem nc3 : ((3 : Nat) : Int) = 3 := (rfl)
theorem nc4 : ((4 : Nat) : Int) = 4 := (rfl)
theorem nc5 : ((5 : Nat) : Int) = 5 := (rfl)
theorem nc6 : ((6 : Nat) : Int) = 6 := (rfl)
theorem nc7 : ((7 : Nat) : Int) = 7 := (rfl)
theorem nc8 : ((8 : Nat) : Int) = 8 := (rfl)
theorem nc9 : ((9 : Nat) : Int) = 9 := (rfl)
theorem nc10 : ((10 : Nat) : Int) = 10 := (rfl)
theorem nc11 : ((11 : Nat) : Int) = 11 := (rfl)
theorem ty_tup (ds : List D) : tyD vh (.tup ds) = some .tuple := (rfl)
theorem ty_lst (ds : List D) : tyD vh (.lst ds) = some .list := (rfl)
theorem ty_int (i : Int) : tyD vh (.int i) = some .int := (rfl)
theorem ty_bl (b : Bool) : tyD vh (.bl b) = some .bl := (rfl)
theorem ty_str (x : Str) : tyD vh (.str x) = some .str := (rfl)
theorem ty_non : tyD vh .non = some .non := (rfl)
theorem isa_tt : Ty.isa .tuple .tuple = true := (rfl)
theorem isa_lt : Ty.isa .list .tuple = false := (rfl)
theorem isa_it : Ty.isa .int .tuple = false := (rfl)
theorem isa_bt : Ty.isa .bl .tuple = false := (rfl)
theorem isa_st : Ty.isa .str .tuple = false := (rfl)
theorem isa_nt : Ty.isa .non .tuple = false := (rfl)
theorem isa_ti : Ty.isa .tuple .int = false := (rfl)
theorem isa_li : Ty.isa .list .int = false := (rfl)
theorem isa_ii : Ty.isa .int .int = true := (rfl)
theorem isa_bi : Ty.isa .bl .int = true := (rfl)
theorem isa_si : Ty.isa .str .int = false := (rfl)
theorem isa_ni : Ty.isa .non .int = false := (rfl)
theorem isa_tb : Ty.isa .tuple .bl = false := (rfl)
theorem isa_lb : Ty.isa .list .bl = false := (rfl)
theorem isa_ib : Ty.isa .int .bl = false := (rfl)
theorem isa_bb : Ty.isa .bl .bl = true := (rfl)
theorem isa_sb : Ty.isa .str .bl = false := (rfl)
theorem isa_nb : Ty.isa .non .bl = false := (rfl)
theorem nn_tup (ds : List D) : isNonD (.tup ds) = false := (rfl)
theorem nn_lst (ds : List D) : isNonD (.lst ds) = false := (rfl)
theorem nn_int (i : Int) : isNonD (.int i) = false := (rfl)
theorem nn_bl (i : Bool) : isNonD (.bl i) = false := (rfl)
theorem nn_str (i : Str) : isNonD (.str i) = false := (rfl)
theorem nn_non : isNonD .non = true := (rfl)
theorem cut_same {vh : VH} {d : D} : cutR vh (.ok d vh) = .ok d vh := by
  unfold cutR
  simp only
  split <;> rfl
theorem cut_app {vh z : VH} {d : D} (h : d.pure = true) : cutR vh (.ok d (vh ++ z)) = .ok d vh := by
  show (if (vh ++ z).take vh.length = vh ∧ d.pure = true then Res.ok d vh else .ok d (vh ++ z)) = _
  rw [if_pos ⟨by simp, h⟩]
theorem er_rt (d : D) : endR (.rt d vh) = .ok d vh := (rfl)
theorem er_nx (e : Env3) : endR (.nx e vh) = .ok .non vh := (rfl)
theorem er_xn (c : Nat) (fs : List (Str × D)) (e : Env3) : endR (.exn c fs e vh) = .exn c fs vh := (rfl)
/-- how a turn ends: I of the next turn, or R of how the loop ends -/
@[irreducible] def turn (I : Env3 → VH → Prop) (R : SRes → Prop) (r : SRes) : Prop := match r with
  | .nx e v => I e v
  | .ct e v => I e v
  | .bk e v => R (.nx e v)
  | .rt d v => R (.rt d v)
  | _ => False
theorem turn_nx {I : Env3 → VH → Prop} {R : SRes → Prop} (e : Env3) (v : VH) : turn I R (.nx e v) = I e v := by unfold turn; rfl
theorem turn_ct {I : Env3 → VH → Prop} {R : SRes → Prop} (e : Env3) (v : VH) : turn I R (.ct e v) = I e v := by unfold turn; rfl
theorem turn_bk {I : Env3 → VH → Prop} {R : SRes → Prop} (e : Env3) (v : VH) : turn I R (.bk e v) = R (.nx e v) := by unfold turn; rfl
theorem turn_rt {I : Env3 → VH → Prop} {R : SRes → Prop} (d : D) (v : VH) : turn I R (.rt d v) = R (.rt d v) := by unfold turn; rfl
theorem turn_xn {I : Env3 → VH → Prop} {R : SRes → Prop} (c : Nat) (fs : List (Str × D)) (e : Env3) (v : VH) : turn I R (.exn c fs e v) = False := by unfold turn; rfl
theorem turn_bad {I : Env3 → VH → Prop} {R : SRes → Prop} : turn I R .bad = False := by unfold turn; rfl
@[irreducible] def turn1 (I : Env3 → VH → Prop) (R : SRes → Prop) (b : Env3 → VH → SRes) (vh : VH) (o : Option Env3) : Prop := match o with
  | none => False
  | some e => turn I R (b e vh)
theorem turn1_some {I : Env3 → VH → Prop} {R : SRes → Prop} {b : Env3 → VH → SRes} (e : Env3) : turn1 I R b vh (some e) = turn I R (b e vh) := by unfold turn1; rfl
theorem turn1_none {I : Env3 → VH → Prop} {R : SRes → Prop} {b : Env3 → VH → SRes} : turn1 I R b vh none = False := by unfold turn1; rfl
theorem for_g {α : Type} {t : CT} {b : Env3 → VH → SRes} {enc : α → D} {xs : List α} {r : SRes} (hr : forL t b (xs.map enc) env vh = r) (I : List α → Env3 → VH → Prop) (R : SRes → Prop) (hi : I [] env vh)
    (h : ∀ pre x suf env vh, xs = pre ++ x :: suf → I pre env vh → turn1 (I (pre ++ [x])) R b vh (setCT t (enc x) env)) (hend : ∀ e v, I xs e v → R (.nx e v)) : R r := by
  subst hr
  refine for_rule enc R I (fun pre x suf env vh e hi => ?_) hend hi
  have h1 := h pre x suf env vh e hi
  cases e1 : setCT t (enc x) env with
  | none => rw [e1, turn1_none] at h1; exact h1.elim
  | some env1 =>
    rw [e1, turn1_some] at h1
    refine ⟨env1, rfl, ?_⟩
    cases e2 : b env1 vh with
    | nx e v => rw [e2, turn_nx] at h1; exact .inl ⟨e, v, .inl rfl, h1⟩
    | ct e v => rw [e2, turn_ct] at h1; exact .inl ⟨e, v, .inr rfl, h1⟩
    | bk e v => rw [e2, turn_bk] at h1; exact .inr (.inl ⟨e, v, rfl, h1⟩)
    | rt d v => rw [e2, turn_rt] at h1; exact .inr (.inr ⟨d, v, rfl, h1⟩)
    | exn => rw [e2, turn_xn] at h1; exact h1.elim
    | bad => rw [e2, turn_bad] at h1; exact h1.elim
/-- a for that goes through -/
theorem for_t {α : Type} {t : CT} {b : Env3 → VH → SRes} {enc : α → D} {xs : List α} {r : SRes} (hr : forL t b (xs.map enc) env vh = r) (I : List α → Env3 → VH → Prop) (hi : I [] env vh)
    (h : ∀ pre x suf env vh, xs = pre ++ x :: suf → I pre env vh → turn1 (I (pre ++ [x])) (fun _ => False) b vh (setCT t (enc x) env)) : ∃ e v, r = .nx e v ∧ I xs e v :=
  for_g hr I (fun r => ∃ e v, r = .nx e v ∧ I xs e v) hi (fun pre x suf env vh e hi => by
    have h1 := h pre x suf env vh e hi
    cases e1 : setCT t (enc x) env with
    | none => rw [e1, turn1_none] at h1; exact h1.elim
    | some env1 =>
      rw [e1, turn1_some] at h1
      rw [turn1_some]
      cases e2 : b env1 vh with
      | nx e v => rw [e2, turn_nx] at h1; rw [turn_nx]; exact h1
      | ct e v => rw [e2, turn_ct] at h1; rw [turn_ct]; exact h1
      | bk e v => rw [e2, turn_bk] at h1; exact h1.elim
      | rt d v => rw [e2, turn_rt] at h1; exact h1.elim
      | exn => rw [e2, turn_xn] at h1; exact h1.elim
      | bad => rw [e2, turn_bad] at h1; exact h1.elim) (fun e v hi => ⟨e, v, rfl, hi⟩)
@[irreducible] def wturn (I : Env3 → VH → Prop) (R : SRes → Prop) (b : Env3 → VH → SRes) (env : Env3) (r : Res Bool) : Prop := match r with
  | .ok k vh => if k = true then turn I R (b env vh) else R (.nx env vh)
  | _ => False
theorem wturn_ok {I : Env3 → VH → Prop} {R : SRes → Prop} {b : Env3 → VH → SRes} (k : Bool) : wturn I R b env (.ok k vh) = if k = true then turn I R (b env vh) else R (.nx env vh) := by unfold wturn; rfl
theorem wturn_xn {I : Env3 → VH → Prop} {R : SRes → Prop} {b : Env3 → VH → SRes} (c : Nat) (fs : List (Str × D)) : wturn I R b env (.exn c fs vh) = False := by unfold wturn; rfl
theorem wturn_bad {I : Env3 → VH → Prop} {R : SRes → Prop} {b : Env3 → VH → SRes} : wturn I R b env .bad = False := by unfold wturn; rfl
theorem whl_g {c : Env3 → VH → Res D} {b : Env3 → VH → SRes} {n : Nat} {r : SRes} (hr : whlS c b n env vh = r) (I : Nat → Env3 → VH → Prop) (R : SRes → Prop) {m : Nat} (hm : m < n) (hi : I m env vh)
    (h : ∀ m env vh, I m env vh → wturn (fun e v => ∃ m', m' < m ∧ I m' e v) R b env (testE c env vh)) : R r := by
  subst hr
  refine whl_rule R I (fun m env vh hi => ?_) n hm hi
  have h1 := h m env vh hi
  cases e1 : testE c env vh with
  | ok k vh1 =>
    rw [e1, wturn_ok] at h1
    refine ⟨k, vh1, rfl, ?_⟩
    cases k with
    | false => exact .inl ⟨rfl, h1⟩
    | true =>
      refine .inr ⟨rfl, ?_⟩
      rw [if_pos rfl] at h1
      cases e2 : b env vh1 with
      | nx e v => rw [e2, turn_nx] at h1; obtain ⟨m', q1, q2⟩ := h1; exact .inl ⟨e, v, m', q1, .inl rfl, q2⟩
      | ct e v => rw [e2, turn_ct] at h1; obtain ⟨m', q1, q2⟩ := h1; exact .inl ⟨e, v, m', q1, .inr rfl, q2⟩
      | bk e v => rw [e2, turn_bk] at h1; exact .inr (.inl ⟨e, v, rfl, h1⟩)
      | rt d v => rw [e2, turn_rt] at h1; exact .inr (.inr ⟨d, v, rfl, h1⟩)
      | exn => rw [e2, turn_xn] at h1; exact h1.elim
      | bad => rw [e2, turn_bad] at h1; exact h1.elim
  | exn => rw [e1, wturn_xn] at h1; exact h1.elim
  | bad => rw [e1, wturn_bad] at h1; exact h1.elim
theorem compF_g {α : Type} {m : Bool} {step : D → VH → Option (List D × VH)} {enc : α → D} {xs : List α} {vh : VH} {res : Option (D × VH)} (hr : compF m step (xs.map enc) vh = res) (J : List α → List D → VH → Prop) (h0 : J [] [] vh)
    (h : ∀ pre x suf acc vh, xs = pre ++ x :: suf → J pre acc vh → ∃ ys vh', step (enc x) vh = some (ys, vh') ∧ J (pre ++ [x]) (acc ++ ys) vh') (hl : ∀ ys vh', J xs ys vh' → ys.length ≤ sizeLine) :
    ∃ ys vh', res = some (mkL m ys vh') ∧ J xs ys vh' := by
  subst hr
  exact compF_st J h h0 hl
theorem seqK_assoc (a : SRes) (f g : Env3 → VH → SRes) : seqK (seqK a f) g = seqK a fun e v => seqK (f e v) g := by cases a <;> rfl
theorem ex_seq {A : SRes} {k : Env3 → VH → SRes} {d : D} {S : VH → Prop} (I : Env3 → VH → Prop) (h1 : ∃ e v, A = .nx e v ∧ I e v) (h2 : ∀ e v, I e v → ∃ vh', k e v = .rt d vh' ∧ S vh') : ∃ vh', seqK A k = .rt d vh' ∧ S vh' := by
  obtain ⟨e, v, rfl, hi⟩ := h1
  exact h2 e v hi
theorem step_seq {C : Cs} {s : Sm} {ss : List Sm} {env : Env3} {v : VH} {P : SRes → Prop} (I : Env3 → VH → Prop) (h1 : ∃ e v', evalS C s env v = .nx e v' ∧ I e v') (h2 : ∀ e v', I e v' → P (evalSs C ss e v')) : P (evalSs C (s :: ss) env v) := by
  obtain ⟨e, v', h, hi⟩ := h1
  rw [sq_nx h]
  exact h2 e v' hi
/-- what is walked as it stands -/
theorem compF_none {m : Bool} {step : D → VH → Option (List D × VH)} {ds : List D} {vh : VH} (h : ∀ x ∈ ds, step x vh = some ([], vh)) : compF m step ds vh = some (mkL m [] vh) := by
  have : compL step ds vh = some ([], vh) := by
    induction ds with
    | nil => rfl
    | cons d ds ih =>
      show (step d vh).bind _ = _
      rw [h d List.mem_cons_self, Option.bind_some]
      show (compL step ds vh).map _ = _
      rw [ih fun x hx => h x (List.mem_cons_of_mem _ hx)]; rfl
  unfold compF
  rw [this]; rfl
/-- a def of the table, called at a level -/
theorem calm_rt {e : Env0D} {d dH : Nat → Df} {n f : Nat} {ds : List D} {r : D} (hp : r.pure = true) (h : ∀ vh, ∃ z, evalSs (csC e d dH (callF e d dH n) n) (d f).body (startD (d f).m ds) vh = .rt r (vh ++ z)) : Says (callF e d dH (n + 1) f) ds r :=
  says_of hp fun vh => by
    obtain ⟨z, h⟩ := h vh
    exact ⟨z, by show endR (evalSs (csC e d dH (callF e d dH n) n) (d f).body (startD (d f).m ds) vh) = _; rw [h]; rfl⟩
theorem hot_rt {e : Env0D} {dH : Nat → Df} {n f : Nat} {ds : List D} {r : D} (hp : r.pure = true) (h : ∀ vh, ∃ z, evalSs (csH e dH (callH e dH n) n) (dH f).body (startD (dH f).m ds) vh = .rt r (vh ++ z)) : Says (callH e dH (n + 1) f) ds r :=
  says_of hp fun vh => by
    obtain ⟨z, h⟩ := h vh
    exact ⟨z, by show endR (evalSs (csH e dH (callH e dH n) n) (dH f).body (startD (dH f).m ds) vh) = _; rw [h]; rfl⟩
end
end L3
end
section
set_option Elab.async false
set_option linter.all false
set_option maxRecDepth 100000
set_option maxHeartbeats 4000000
/-! ### equality of what is told by plain data -/
namespace L3
open PySem PySem.Spec
structure EqEnc {α : Type} [DecidableEq α] (enc : α → D) (n : Nat) : Prop where
  ex : ∃ py : α → PyData, (∀ a, D.py (enc a) = some (py a)) ∧ (∀ a, (py a).canLay0 = true) ∧ (∀ a, (py a).depth ≤ n) ∧ ∀ a b, PyData.eqv (py a) (py b) = decide (a = b)
theorem ee_int : EqEnc D.int 0 := ⟨.int, fun _ => rfl, fun _ => rfl, fun _ => Nat.le_refl 0, fun a b => by simp only [PyData.eqv]; rfl⟩
theorem ee_nat : EqEnc (fun k : Nat => D.int k) 0 := ⟨fun k => .int k, fun _ => rfl, fun _ => rfl, fun _ => Nat.le_refl 0, fun a b => by
  simp only [PyData.eqv]
  show decide ((a : Int) = b) = _
  congr 1
  exact propext Int.ofNat_inj⟩
theorem ee_bl : EqEnc D.bl 0 := ⟨.bool, fun _ => rfl, fun _ => rfl, fun _ => Nat.le_refl 0, fun a b => by simp only [PyData.eqv]; cases a <;> cases b <;> rfl⟩
theorem ee_tup2 {α β : Type} [DecidableEq α] [DecidableEq β] {e1 : α → D} {e2 : β → D} {n m : Nat} (h1 : EqEnc e1 n) (h2 : EqEnc e2 m) : EqEnc (fun p : α × β => D.tup [e1 p.1, e2 p.2]) (max n m + 1) := by
  obtain ⟨p1, a1, b1, c1, d1⟩ := h1
  obtain ⟨p2, a2, b2, c2, d2⟩ := h2
  refine ⟨fun p => .tuple [p1 p.1, p2 p.2], fun p => ?_, fun p => ?_, fun p => ?_, fun p q => ?_⟩
  · simp only [D.py, D.pys, a1, a2, Option.map_some]
  · simp only [PyData.canLay0, PyData.canLayAll0, b1, b2, Bool.and_self]
  · have := c1 p.1
    have := c2 p.2
    simp only [PyData.depth, PyData.depthAll]
    omega
  · obtain ⟨x, y⟩ := p
    obtain ⟨u, v⟩ := q
    simp only [PyData.eqv, PyData.eqvAll, d1, d2, Bool.and_true, Prod.mk.injEq, Bool.decide_and]
theorem pys_map {α : Type} {e : α → D} {py : α → PyData} (h : ∀ a, D.py (e a) = some (py a)) : ∀ xs : List α, D.pys (xs.map e) = some (xs.map py)
  | [] => rfl
  | x :: xs => by rw [List.map_cons, D.pys, h x, pys_map h xs]; rfl
theorem can_map {α : Type} {py : α → PyData} (h : ∀ a, (py a).canLay0 = true) : ∀ xs : List α, PyData.canLayAll0 (xs.map py) = true
  | [] => by simp only [List.map_nil, PyData.canLayAll0]
  | x :: xs => by simp only [List.map_cons, PyData.canLayAll0, h x, can_map h xs, Bool.and_self]
theorem dep_map {α : Type} {py : α → PyData} {n : Nat} (h : ∀ a, (py a).depth ≤ n) : ∀ xs : List α, PyData.depthAll (xs.map py) ≤ n
  | [] => by simp only [List.map_nil, PyData.depthAll]; omega
  | x :: xs => by
    have := h x
    have := dep_map h xs
    simp only [List.map_cons, PyData.depthAll]; omega
theorem eqv_map {α : Type} [DecidableEq α] {py : α → PyData} (h : ∀ a b, PyData.eqv (py a) (py b) = decide (a = b)) : ∀ xs ys : List α, PyData.eqvAll (xs.map py) (ys.map py) = decide (xs = ys)
  | [], [] => by simp only [List.map_nil, PyData.eqvAll]; rfl
  | [], _ :: _ => by simp only [List.map_nil, List.map_cons, PyData.eqvAll]; rfl
  | _ :: _, [] => by simp only [List.map_nil, List.map_cons, PyData.eqvAll]; rfl
  | x :: xs, y :: ys => by
    simp only [List.map_cons, PyData.eqvAll, h x y, eqv_map h xs ys, List.cons.injEq, Bool.decide_and]
theorem ee_lst {α : Type} [DecidableEq α] {e : α → D} {n : Nat} (h : EqEnc e n) : EqEnc (fun xs : List α => D.lst (xs.map e)) (n + 1) := by
  obtain ⟨p, a, b, c, d⟩ := h
  refine ⟨fun xs => .list (xs.map p), fun xs => ?_, fun xs => ?_, fun xs => ?_, fun xs ys => ?_⟩
  · simp only [D.py, pys_map a, Option.map_some]
  · simp only [PyData.canLay0, can_map b]
  · have := dep_map c xs
    simp only [PyData.depth]; omega
  · simp only [PyData.eqv, eqv_map d]
theorem ee_tupL {α : Type} [DecidableEq α] {e : α → D} {n : Nat} (h : EqEnc e n) : EqEnc (fun xs : List α => D.tup (xs.map e)) (n + 1) := by
  obtain ⟨p, a, b, c, d⟩ := h
  refine ⟨fun xs => .tuple (xs.map p), fun xs => ?_, fun xs => ?_, fun xs => ?_, fun xs ys => ?_⟩
  · simp only [D.py, pys_map a, Option.map_some]
  · simp only [PyData.canLay0, can_map b]
  · have := dep_map c xs
    simp only [PyData.depth]; omega
  · simp only [PyData.eqv, eqv_map d]
theorem py_top {vh : VH} {d : D} {x : PyData} (h : D.py d = some x) : pyTop vh d = some x := by
  cases d <;> first | (cases h; done) | exact h
theorem eqD_of {vh : VH} {a b : D} {x y : PyData} (ha : D.py a = some x) (hb : D.py b = some y) (sa : SeqAt.shaped x = true) (sb : SeqAt.shaped y = true) : eqD vh a b = some (PyData.eqv x y) := by
  unfold eqD
  simp only [py_top ha, py_top hb, sa, sb]
  rfl
theorem shaped_of {x : PyData} {n : Nat} (h1 : x.canLay0 = true) (h2 : x.depth ≤ n) (h3 : n ≤ 64) : SeqAt.shaped x = true := by
  unfold SeqAt.shaped
  rw [h1, Bool.true_and, decide_eq_true_eq]
  omega
section
variable {α : Type} [DecidableEq α] {enc : α → D} {n : Nat} {vh : VH}
theorem EqEnc.eq (h : EqEnc enc n) (hn : n ≤ 64) (a b : α) : eqD vh (enc a) (enc b) = some (decide (a = b)) := by
  obtain ⟨p, h1, h2, h3, h4⟩ := h
  rw [eqD_of (h1 a) (h1 b) (shaped_of (h2 a) (h3 a) hn) (shaped_of (h2 b) (h3 b) hn), h4]
theorem EqEnc.inL (h : EqEnc enc n) (hn : n ≤ 63) (a : α) (xs : List α) : inD vh (enc a) (.lst (xs.map enc)) = some (decide (a ∈ xs)) := by
  obtain ⟨p, h1, h2, h3, h4⟩ := h
  have e1 : pyTop vh (enc a) = some (p a) := py_top (h1 a)
  have e2 : pyTop vh (.lst (xs.map enc)) = some (.list (xs.map p)) := py_top (by simp only [D.py, pys_map h1, Option.map_some])
  unfold inD
  have s1 := shaped_of (h2 a) (h3 a) (Nat.le_trans hn (by decide))
  have s2 : SeqAt.shaped (.list (xs.map p)) = true := shaped_of (n := n + 1) (by simp only [PyData.canLay0, can_map h2]) (by have := dep_map h3 xs; simp only [PyData.depth]; omega) (by omega)
  simp only [e1, e2, s1, s2, Bool.and_self, if_true]
  congr 1
  rw [List.any_map]
  induction xs with
  | nil => simp
  | cons x xs ih =>
    have ih := ih (py_top (by simp only [D.py, pys_map h1, Option.map_some])) (shaped_of (n := n + 1) (by simp only [PyData.canLay0, can_map h2]) (by have := dep_map h3 xs; simp only [PyData.depth]; omega) (by omega))
    rw [List.any_cons, ih]
    simp only [Function.comp_apply, h4, List.mem_cons, Bool.decide_or]
    congr 1
    exact decide_eq_decide.mpr ⟨Eq.symm, Eq.symm⟩
theorem EqEnc.c_eq (h : EqEnc enc n) (hn : n ≤ 64) (a b : α) [dd : Decidable (a = b)] : cmpD .Eq vh (enc a) (enc b) = some (.bl (decide (a = b)), vh) := by
  show (eqD vh (enc a) (enc b)).map _ = _
  rw [h.eq hn, Option.map_some]
  congr 6
theorem EqEnc.c_ne (h : EqEnc enc n) (hn : n ≤ 64) (a b : α) [dd : Decidable (a = b)] : cmpD .NotEq vh (enc a) (enc b) = some (.bl (!decide (a = b)), vh) := by
  show (eqD vh (enc a) (enc b)).map _ = _
  rw [h.eq hn, Option.map_some]
  congr 6
theorem EqEnc.c_in (h : EqEnc enc n) (hn : n ≤ 63) (a : α) (xs : List α) [dd : Decidable (a ∈ xs)] : cmpD .In vh (enc a) (.lst (xs.map enc)) = some (.bl (decide (a ∈ xs)), vh) := by
  show (inD vh (enc a) (.lst (xs.map enc))).map _ = _
  rw [h.inL hn, Option.map_some]
  congr 6
theorem EqEnc.c_nin (h : EqEnc enc n) (hn : n ≤ 63) (a : α) (xs : List α) [dd : Decidable (a ∈ xs)] : cmpD .NotIn vh (enc a) (.lst (xs.map enc)) = some (.bl (!decide (a ∈ xs)), vh) := by
  show (inD vh (enc a) (.lst (xs.map enc))).map _ = _
  rw [h.inL hn, Option.map_some]
  congr 6
end
section
variable {α : Type} [DecidableEq α] {enc : α → D} {n : Nat} {vh : VH}
theorem EqEnc.ne_ref (h : EqEnc enc n) (hn : n ≤ 63) (xs ys : List α) {p : Nat} (hp : vh[p]? = some (.lst (ys.map enc))) [dd : Decidable (xs = ys)] : cmpD .NotEq vh (.lst (xs.map enc)) (.ref p) = some (.bl (!decide (xs = ys)), vh) := by
  obtain ⟨py, h1, h2, h3, h4⟩ := ee_lst h
  have e1 : pyTop vh (.lst (xs.map enc)) = some (py xs) := py_top (h1 xs)
  have e2 : pyTop vh (.ref p) = some (py ys) := by
    have h5 := h1 ys
    simp only [D.py] at h5
    unfold pyTop
    simp only [hp]
    exact h5
  have q : eqD vh (.lst (xs.map enc)) (.ref p) = some (decide (xs = ys)) := by
    unfold eqD
    simp only [e1, e2, shaped_of (h2 xs) (h3 xs) (show n + 1 ≤ 64 by omega), shaped_of (h2 ys) (h3 ys) (show n + 1 ≤ 64 by omega), Bool.and_self, if_true, h4]
    congr
  show (eqD vh (.lst (xs.map enc)) (.ref p)).map _ = _
  rw [q, Option.map_some]
end
section
variable {vh : VH}
theorem c_eqI (a b : Int) : cmpD .Eq vh (.int a) (.int b) = some (.bl (decide (a = b)), vh) := ee_int.c_eq (by decide) a b
theorem c_neI (a b : Int) : cmpD .NotEq vh (.int a) (.int b) = some (.bl (!decide (a = b)), vh) := ee_int.c_ne (by decide) a b
theorem c_eqB (a b : Bool) : cmpD .Eq vh (.bl a) (.bl b) = some (.bl (decide (a = b)), vh) := ee_bl.c_eq (by decide) a b
theorem c_neB (a b : Bool) : cmpD .NotEq vh (.bl a) (.bl b) = some (.bl (!decide (a = b)), vh) := ee_bl.c_ne (by decide) a b
theorem c_eqS (a b : Str) (ha : PyData.strOk a = true) (hb : PyData.strOk b = true) : cmpD .Eq vh (.str a) (.str b) = some (.bl (a == b), vh) := by
  show (eqD vh (.str a) (.str b)).map _ = _
  rw [eqD_of (x := .str a) (y := .str b) rfl rfl (by unfold SeqAt.shaped; simp only [PyData.canLay0, ha, PyData.depth]; rfl) (by unfold SeqAt.shaped; simp only [PyData.canLay0, hb, PyData.depth]; rfl)]
  simp only [PyData.eqv]; rfl
theorem c_neS (a b : Str) (ha : PyData.strOk a = true) (hb : PyData.strOk b = true) : cmpD .NotEq vh (.str a) (.str b) = some (.bl (!(a == b)), vh) := by
  show (eqD vh (.str a) (.str b)).map _ = _
  rw [eqD_of (x := .str a) (y := .str b) rfl rfl (by unfold SeqAt.shaped; simp only [PyData.canLay0, ha, PyData.depth]; rfl) (by unfold SeqAt.shaped; simp only [PyData.canLay0, hb, PyData.depth]; rfl)]
  simp only [PyData.eqv]; rfl
end
end L3
end
section
set_option Elab.async false
set_option linter.all false
set_option maxRecDepth 100000
set_option maxHeartbeats 8000000
/-! ### the head's hook, with error classes whose __init__ closes over __class__ -/
namespace L3
open PySem PySem.Spec PyProof.Rows L2 NdefX
/-- such an __init__: its class, its def; how many parameters; which fields it keeps -/
structure IniD where
  cls : Str
  name : Str
  qual : Str
  params : Arguments
  body : List Stmt
  scope : Scope
  n : Nat
  fs : List (Str × Nat)
def IniD.at_ (d : IniD) : Str × Option Str := (d.cls, some "__init__")
def cellsG (g : Addr → Option Obj) (as : List Addr) : List Addr := as.flatMap fun a => match g a with
  | some ⟨_, _, .func fd, _⟩ => fd.closure.map (·.2)
  | _ => []
def asI (g : Addr → Option Obj) (n : Nat) : List Addr := He.asD g n ++ (cStatics :: cellsG g (He.asD g n))
/-- the def's data but for its cells -/
def fnI (K : PySem.W.Frag) (p : Str × Option Str) : He.FnW := (He.fnW K p).map fun (a, b, c, d, e, f, _, h) => (a, b, c, d, e, f, [], h)
def IniD.val (d : IniD) : He.FnW := some (d.name, d.qual, d.params, .stmts d.body, d.scope, mainGlobals, [], builtinsNs)
def clsB (K : PySem.W.Frag) (C : Addr) : Bool := match K.lookup C with
  | some ⟨.type t, _, .cls cd, sl⟩ => decide (t = "type") && (match cd.mro, sl.toList with
    | .ref C' :: bm, [_, _, _, _, some (.builtin n), _] => decide (C' = C) && decide (n = "ValueError.__new__") && !cd.hasDel && cd.hasDict && HandSPX.refsVE bm
    | _, _ => false)
  | _ => false
def noneV : Value → Bool
  | .none => true
  | _ => false
def eqOV (a b : Option (Option Value)) : Bool := decide (a = b)
def iniB (P : Program) (K : PySem.W.Frag) (d : IniD) : Bool :=
  clsB K (He.ga K d.cls) && eqOV (PySem.W.findIn K (.ref (He.ga K d.cls)) "__setattr__") (some (some (.builtin "object.__setattr__"))) &&
  decide (PySem.W.subIn K (.ref (He.ga K d.cls)) (.type "BaseException") = some true) && decide (PySem.W.typeIn K (.ref (He.ga K d.cls)) = some (.type "type")) && PySem.W.keepIn K (.ref (He.ga K d.cls)) &&
  eqOV (PySem.W.ks_superIn K (He.ga K d.cls) (He.ga K d.cls) "__init__") (some (some (.builtin "ValueError.__init__"))) && decide (PySem.W.subIn K (.ref (He.ga K d.cls)) (.type "ValueError") = some true) &&
  decide (PySem.W.mroIn K (He.ga K d.cls) (.ref (He.ga K d.cls)) = some true) && eqOV (PySem.W.nsIn K cStatics "thirdparty.any") (some none) &&
  eqOV (PySem.W.findIn K (.ref (He.ga K d.cls)) "__init__") (some (some (.ref (He.fAd K d.at_)))) && decide (PySem.W.typeIn K (.ref (He.fAd K d.at_)) = some (.type "function")) && xfB K (He.ga K d.cls) &&
  d.fs.all (fun p => eqOV (PySem.W.findIn K (.ref (He.ga K d.cls)) p.1) (some none)) &&
  (match K.lookup (He.fAd K d.at_) with
  | some ⟨_, _, .func fd, _⟩ => (match fd.closure, fd.code with
    | [(x, cc)], .ref cda => decide (x = ("__class__" : Str)) && noneV fd.defaults && PySem.W.codeIn K (.ref cda) d.qual && (match K.lookup cc with
      | some ⟨_, _, .cell (some (.ref D)), _⟩ => decide (D = He.ga K d.cls)
      | _ => false) && (match K.lookup cda with
      | some ⟨_, _, .fields vs, _⟩ => (match (vs[2]? : Option Value) with
        | some (.str file _) => ((P.main.file : Str) == file)
        | _ => false)
      | _ => false)
    | _, _ => false)
  | _ => false)
abbrev AlI : Type := He.AlD × List He.FnW × Bool
def obsI (P : Program) (fa : List He.Fa) (fn : List He.DefD) (ins : List IniD) (K : PySem.W.Frag) : AlI := (He.obsD fa fn K, ins.map fun d => fnI K d.at_, ins.all fun d => iniB P K d)
def valI (fn : List He.DefD) (ins : List IniD) : AlI := (He.valD fn, ins.map IniD.val, true)
structure SaysI (P : Program) (fa : List He.Fa) (fn : List He.DefD) (ins : List IniD) (K : PySem.W.Frag) : Prop where
  d : He.SaysD fa fn K
  v : ∀ i ∈ ins, fnI K i.at_ = i.val
  b : ∀ i ∈ ins, iniB P K i = true
theorem saysI_of {P : Program} {fa : List He.Fa} {fn : List He.DefD} {ins : List IniD} {K : PySem.W.Frag} (e : obsI P fa fn ins K = valI fn ins) : SaysI P fa fn ins K := by
  have e1 : He.obsD fa fn K = He.valD fn := congrArg (fun z : AlI => z.1) e
  have e2 : ins.map (fun d => fnI K d.at_) = ins.map IniD.val := congrArg (fun z : AlI => z.2.1) e
  have e3 : (ins.all fun d => iniB P K d) = true := congrArg (fun z : AlI => z.2.2) e
  refine ⟨e1, fun i hi => ?_, fun i hi => List.all_eq_true.mp e3 i hi⟩
  obtain ⟨j, hj, rfl⟩ := List.mem_iff_getElem.mp hi
  have := congrArg (fun l : List He.FnW => l[j]?) e2
  simpa [List.getElem?_map, List.getElem?_eq_getElem hj] using this
def obsIG (P : Program) (n : Nat) (fa : List He.Fa) (fn : List He.DefD) (ins : List IniD) (g : Addr → Option Obj) : AlI := obsI P fa fn ins (He.frG g (asI g n))
def hookI (P : Program) (n : Nat) (fa : List He.Fa) (fn : List He.DefD) (ins : List IniD) : PySem.W.Hook where
  α := AlI
  obs := fun s => obsIG P n fa fn ins s.heap.get?
  val := fun _ => valI fn ins
  says := fun _ h => ∃ K : PySem.W.Frag, K.In h ∧ SaysI P fa fn ins K
  of := fun _ _ e => ⟨_, He.frG_in, saysI_of e⟩
  keeps := fun _ _ _ ⟨K, hK, c⟩ k => ⟨K, PySem.W.Frag.In.keeps hK k, c⟩
theorem obsIG_eq {P : Program} {n : Nat} {fa : List He.Fa} {fn : List He.DefD} {ins : List IniD} {g : Addr → Option Obj} {s : Shared} (h : ∀ a, g a = s.heap.get? a) : obsIG P n fa fn ins g = (hookI P n fa fn ins).obs s := by
  have e : g = s.heap.get? := funext h
  rw [e] <;> rfl
end L3
end
section
set_option Elab.async false
set_option linter.all false
set_option maxRecDepth 100000
set_option maxHeartbeats 8000000
namespace L3
open PySem PySem.Spec PyProof.Rows L2 NdefX
/-- the text of such a def -/
def iniTx (d : IniD) (N ps : List Str) (j : Nat) (self : Str) : Bool := match d.body with
  | .Expr (.Call (.Attribute (.Call (.Name s _) [] [] _) m apos) [.Name y _] [] pos) _ :: rest =>
    decide (s = ("super" : Str)) && decide (m = ("__init__" : Str)) && (apos.endLine == pos.line) && decide (N[j]? = some y) && decide (d.scope.names.lookup y = some .local) && plainName y && decide (j ≤ d.n) && fldsB N d.scope d.fs rest &&
    nscB N ps ["__class__"] d.scope && decide (((d.params.posonlyargs ++ d.params.args).head?.map (·.arg)) = some self) && decide (N[0]? = some self) && decide (d.scope.names.lookup ("super" : Str) = some .globalImplicit) && decide (d.scope.names.lookup self = some .local) &&
    decide (ps.length = d.n + 1) && decide (d.fs ≠ []) && d.fs.all (fun p => decide (p.2 ≤ d.n) && decide (0 < p.2)) && decide (d.fs.length ≤ 900) && decide (d.n ≤ 900) && decide (d.fs.map (·.1)).Nodup
  | _ => false
theorem clsB_ok {K : PySem.W.Frag} {C : Addr} (h : clsB K C = true) : ∃ nm q N bs bm sn sub ab col dd k0 k1 k2 k3 k5, K.lookup C = some (excClassObj nm q C N bs bm true sn sub ab col dd k0 k1 k2 k3 k5 "ValueError.__new__") ∧ HandSPX.refsVE bm = true := by
  unfold clsB at h
  split at h
  · rename_i t dd cd sl lk
    obtain ⟨ht, hq⟩ := an h
    have et := dc ht
    clear h ht
    subst et
    split at hq
    · rename_i C' bm k0 k1 k2 k3 n k5 hm hs
      obtain ⟨hq, h5⟩ := an hq
      obtain ⟨hq, h4⟩ := an hq
      obtain ⟨hq, h3⟩ := an hq
      obtain ⟨h1, h2⟩ := an hq
      have e1 := dc h1
      have e2 := dc h2
      subst e1 e2
      obtain ⟨nm, bs, mro, N, q, hd, sn, sub, ab, col, del⟩ := cd
      dsimp only at hm h3 h4
      have h3 := nt h3
      subst hm h4 h3
      have hsl : sl = #[k0, k1, k2, k3, some (.builtin "ValueError.__new__"), k5] := by
        have := congrArg List.toArray hs
        simpa using this
      subst hsl
      exact ⟨nm, q, N, bs, bm, sn, sub, ab, col, dd, k0, k1, k2, k3, k5, lk, h5⟩
    · cases hq
  · cases h
theorem SaysI.ini {P : Program} {fa : List He.Fa} {fn : List He.DefD} {ins : List IniD} {K : PySem.W.Frag} (c : SaysI P fa fn ins K) {d : IniD} (hd : d ∈ ins) {N ps : List Str} {j : Nat} {self : Str} (tx : iniTx d N ps j self = true)
    (hB : ∀ (cc cda : Addr) (kV doc pm ct : Value) (an : Option Addr) (us : List Value), us.length = ps.length → bindArgs (PySem.W.fnX d.name d.qual d.params d.body d.scope [("__class__", cc)] .none kV doc pm an (.ref cda) ct) ⟨us, []⟩ = pure (ps.zip us))
    (htop : (P.main.scope.names.lookup ("super" : Str)).isSome = false) {w : World} {mg : Str → Option Value} {base : Heap} {ga : Nat → Addr} {xa : Option (Addr × Addr × List (Str × V))} (hms : mg "super" = none) : ClOk ⟨P, w, K, mg, base, ga, xa⟩ (He.ga K d.cls) d.n d.fs := by
  have hv := c.v d hd
  have hb := c.b d hd
  unfold iniB at hb
  obtain ⟨hb, b14⟩ := an hb
  obtain ⟨hb, b13⟩ := an hb
  obtain ⟨hb, b12⟩ := an hb
  obtain ⟨hb, b11⟩ := an hb
  obtain ⟨hb, b10⟩ := an hb
  obtain ⟨hb, b9⟩ := an hb
  obtain ⟨hb, b8⟩ := an hb
  obtain ⟨hb, b7⟩ := an hb
  obtain ⟨hb, b6⟩ := an hb
  obtain ⟨hb, b5⟩ := an hb
  obtain ⟨hb, b4⟩ := an hb
  obtain ⟨hb, b3⟩ := an hb
  obtain ⟨b1, b2⟩ := an hb
  have T : OexC K (He.ga K d.cls) := ⟨clsB_ok b1, dc b2, dc b3, dc b4, b5⟩
  have hno : ∀ q ∈ d.fs, PySem.W.findIn K (.ref (He.ga K d.cls)) q.1 = some none := fun q hq => dc (List.all_eq_true.mp b13 q hq)
  unfold iniTx at tx
  split at tx <;> try exact (Bool.false_ne_true tx).elim
  rename_i s p0 p1 m apos y py pos pos' rest ebody
  obtain ⟨tx, t19⟩ := an tx
  obtain ⟨tx, t18⟩ := an tx
  obtain ⟨tx, t17⟩ := an tx
  obtain ⟨tx, t16⟩ := an tx
  obtain ⟨tx, t15⟩ := an tx
  obtain ⟨tx, t14⟩ := an tx
  obtain ⟨tx, t13⟩ := an tx
  obtain ⟨tx, t12⟩ := an tx
  obtain ⟨tx, t11⟩ := an tx
  obtain ⟨tx, t10⟩ := an tx
  obtain ⟨tx, t9⟩ := an tx
  obtain ⟨tx, t8⟩ := an tx
  obtain ⟨tx, t7⟩ := an tx
  obtain ⟨tx, t6⟩ := an tx
  obtain ⟨tx, t5⟩ := an tx
  obtain ⟨tx, t4⟩ := an tx
  obtain ⟨tx, t3⟩ := an tx
  obtain ⟨t1, t2⟩ := an tx
  have e1 := dc t1
  have e2 := dc t2
  subst e1 e2
  have hall : ∀ q ∈ d.fs, q.2 ≤ d.n ∧ 0 < q.2 := fun q hq => by
    have := List.all_eq_true.mp t16 q hq
    simpa using this
  obtain ⟨ar, har, hself⟩ := Option.map_eq_some_iff.mp (dc t10)
  subst hself
  refine ⟨T, ?_, dc t18, dc t19, fun q hq => (hall q hq).2, xfB_ok b12, hno⟩
  -- the function object
  unfold fnI He.fnW at hv
  cases lk : K.lookup (He.fAd K d.at_) with
  | none => rw [lk] at b14; cases b14
  | some o =>
    obtain ⟨oc, od, dt, osl⟩ := o
    rw [lk] at b14 hv
    cases dt with
    | func fd =>
      obtain ⟨n1, n2, n3, n4, n5, n6, n7, n8, n9, n10, n11, n12, n13, n14, n15⟩ := fd
      dsimp only at b14 hv
      split at b14
      · rename_i x cc cda
        have hv2 : (some (n1, n2, n3, n4, n5, n6, ([] : List (Str × Addr)), n15) : He.FnW) = some (d.name, d.qual, d.params, .stmts d.body, d.scope, mainGlobals, [], builtinsNs) := hv
        simp only [Option.some.injEq, Prod.mk.injEq] at hv2
        obtain ⟨g1, g2, g3, g4, g5, g6, _, g8⟩ := hv2
        subst g1 g2 g3 g4 g5 g6 g8
        obtain ⟨b14, c4⟩ := an b14
        obtain ⟨b14, c3⟩ := an b14
        obtain ⟨b14, c2⟩ := an b14
        obtain ⟨c1, c0⟩ := an b14
        have ex := dc c1
        subst ex
        have en : n8 = .none := by cases n8 <;> first | rfl | (cases c0; done)
        subst en
        have hcell : ∃ cl cld csl, K.lookup cc = some ⟨cl, cld, .cell (some (.ref (He.ga K d.cls))), csl⟩ := by
          split at c3
          · rename_i cl cld D csl q
            have := dc c3
            subst this
            exact ⟨cl, cld, csl, q⟩
          · cases c3
        have hcode : ∃ ccl cdd vs ccs file tf, K.lookup cda = some ⟨ccl, cdd, .fields vs, ccs⟩ ∧ vs[2]? = some (.str file tf) ∧ ((P.main.file : Str) == file) = true := by
          split at c4
          · rename_i ccl cdd vs ccs q
            split at c4
            · rename_i file tf q2
              exact ⟨ccl, cdd, vs, ccs, file, tf, q, q2, c4⟩
            · cases c4
          · cases c4
        have Z : SupOk P K (He.ga K d.cls) cc cda := ⟨T, hcell, hcode, dc b6, dc b7, dc b8, dc b9, htop⟩
        refine ⟨He.fAd K d.at_, _, ps, dc b10, dc b11, ini_fn (k := 0) (n := d.n) (fs := d.fs) Z (by rw [lk, ebody]) c2 (nscope_by t9) har (dc t11) (dc t12) (dc t13) hms t3 (dc t14) (dc t4) (dc t5) t6 (dc t7) t8 (dc t15) (fun q hq => ⟨(hall q hq).1, hno q hq⟩) (dc t17), ?_⟩
        exact .all (by rw [← ebody]; exact hB cc cda n9 n10 n11 n14 n12)
      · cases b14
    | _ => cases b14
end L3
end
section
set_option Elab.async false
set_option linter.all false
set_option maxRecDepth 100000
set_option maxHeartbeats 0
namespace K30
open PySem PySem.Spec L2 L3
def top (i : Nat) : Stmt := PySem.Challenge.pw_axeswright_k30_whole_stores_in_one_memor.main.body.getD i (.Pass ⟨0, 0, 0, 0⟩)
def free : List Str := ["ValueError", "abs", "all", "bool", "int", "isinstance", "len", "max", "range", "set", "sorted", "sum", "super", "tuple"]
def tC : Tb := ⟨false, false, [some ("is_block" : Str), some ("is_integer" : Str), some ("meet" : Str), some ("load" : Str), some ("pairs" : Str), some ("is_plan" : Str), some ("peak" : Str), some ("heights" : Str), some ("decided" : Str), some ("search" : Str), some ("apart" : Str), some ("too_long" : Str), some ("long_chain" : Str), some ("accepts_none" : Str), some ("shows" : Str), some ("least_plan" : Str), some ("accepts_least" : Str), some ("first_fit" : Str), some ("_law_state" : Str), some ("_law_take" : Str), some ("_law_pick" : Str), some ("_law_blocks" : Str), some ("_law_meet" : Str), some ("_law_pairs" : Str), some ("_law_plan" : Str), some ("_law_peak" : Str), some ("_law_least" : Str), some ("_law_fits" : Str), some ("_law_shows" : Str), some ("_law_bent" : Str), some ("_law_first" : Str), some ("_law_below" : Str), some ("law" : Str)], [none, none, none, none, none, none, none, none, none, none, none, none, none, none, none, none, none, none, none, none, none, none, none, none, none, none, none, none, none, none, none, none, none, some ("Wrong" : Str), some ("Great" : Str)], ["MOST_BLOCKS"], free⟩
def tH : Tb := ⟨true, false, [none, none, some ("meet" : Str), some ("load" : Str), some ("pairs" : Str), none, none, some ("heights" : Str), some ("decided" : Str), some ("search" : Str), some ("apart" : Str), some ("too_long" : Str), some ("long_chain" : Str), none, none, some ("least_plan" : Str), none, none, none, none, none, none, none, none, none, none, none, none, none, none, none, none, none], [none, none, none, none, none, none, none, none, none, none, none, none, none, none, none, none, none, none, none, none, none, none, none, none, none, none, none, none, none, none, none, none, none, some ("Wrong" : Str), some ("Great" : Str)], ["MOST_BLOCKS"], free⟩
def tS : Tb := ⟨true, true, [none, none, some ("meet" : Str), some ("load" : Str), some ("pairs" : Str), none, none, some ("heights" : Str), some ("decided" : Str), some ("search" : Str), some ("apart" : Str), some ("too_long" : Str), some ("long_chain" : Str), none, none, some ("least_plan" : Str), none, none, none, none, none, none, none, none, none, none, none, none, none, none, none, none, none], [none, none, none, none, none, none, none, none, none, none, none, none, none, none, none, none, none, none, none, none, none, none, none, none, none, none, none, none, none, none, none, none, none, some ("Wrong" : Str), some ("Great" : Str)], ["MOST_BLOCKS"], free⟩
abbrev st_is_block : Stmt := top 5
def g_is_block : Df := ⟨1, 2, [.ifs (.or [.not (.isi .tuple (.var 0)), .cmp .NotEq (.blt .len false [.var 0]) (.cst (.int 3)), .not (.blt .all false [.comp false [("one", 1)] (.nm 1) .sq (.var 0) .yes (.yes) (.call 1 [.var 1])])]) [.ret (.cst (.bool false))] [], .ret (.and [.cmp .GtE (.idx (.var 0) (.cst (.int 0))) (.cst (.int 0)), .cmp .Lt (.idx (.var 0) (.cst (.int 1))) (.idx (.var 0) (.cst (.int 2)))])]⟩
def p_is_block : PyDef := ⟨"is_block", ["value"], ["value", "one"], st_is_block, g_is_block⟩
abbrev st_is_integer : Stmt := top 6
def g_is_integer : Df := ⟨1, 1, [.ret (.and [.isi .int (.var 0), .not (.isi .bl (.var 0))])]⟩
def p_is_integer : PyDef := ⟨"is_integer", ["value"], ["value"], st_is_integer, g_is_integer⟩
abbrev st_meet : Stmt := top 7
def g_meet : Df := ⟨2, 2, [.ret (.and [.cmp .Gt (.idx (.var 0) (.cst (.int 0))) (.cst (.int 0)), .cmp .Gt (.idx (.var 1) (.cst (.int 0))) (.cst (.int 0)), .cmp .Lt (.idx (.var 0) (.cst (.int 1))) (.idx (.var 1) (.cst (.int 2))), .cmp .Lt (.idx (.var 1) (.cst (.int 1))) (.idx (.var 0) (.cst (.int 2)))])]⟩
def p_meet : PyDef := ⟨"meet", ["one", "other"], ["one", "other"], st_meet, g_meet⟩
def gH_meet : Df := ⟨2, 2, [.ret (.and [.cmp .Gt (.idx (.var 0) (.cst (.int 0))) (.cst (.int 0)), .cmp .Gt (.idx (.var 1) (.cst (.int 0))) (.cst (.int 0)), .cmp .Lt (.idx (.var 0) (.cst (.int 1))) (.idx (.var 1) (.cst (.int 2))), .cmp .Lt (.idx (.var 1) (.cst (.int 1))) (.idx (.var 0) (.cst (.int 2)))])]⟩
def pH_meet : PyDef := ⟨"meet", ["one", "other"], ["one", "other"], st_meet, gH_meet⟩
abbrev st_load : Stmt := top 8
def g_load : Df := ⟨1, 4, [.set 1 (.cst (.int 0)), .fr (.nm 2) .sq (.var 0) .yes [.set 1 (.blt .max2 false [.var 1, .blt .sum false [.comp false [("one", 3)] (.nm 3) .sq (.var 0) .yes (.cmp2 .LtE .Lt (.idx (.var 3) (.cst (.int 1))) (.idx (.var 2) (.cst (.int 1))) (.idx (.var 3) (.cst (.int 2)))) (.idx (.var 3) (.cst (.int 0)))]])], .ret (.var 1)]⟩
def p_load : PyDef := ⟨"load", ["blocks"], ["blocks", "best", "block", "one"], st_load, g_load⟩
def gH_load : Df := ⟨1, 4, [.set 1 (.cst (.int 0)), .fr (.nm 2) .sq (.var 0) .yes [.set 1 (.blt .max2 false [.var 1, .blt .sum false [.comp false [("one", 3)] (.nm 3) .sq (.var 0) .yes (.cmp2 .LtE .Lt (.idx (.var 3) (.cst (.int 1))) (.idx (.var 2) (.cst (.int 1))) (.idx (.var 3) (.cst (.int 2)))) (.idx (.var 3) (.cst (.int 0)))]])], .ret (.var 1)]⟩
def pH_load : PyDef := ⟨"load", ["blocks"], ["blocks", "best", "block", "one"], st_load, gH_load⟩
abbrev st_pairs : Stmt := top 9
def g_pairs : Df := ⟨1, 4, [.set 1 (.blt .len false [.var 0]), .ret (.comp2 false [("k", 2), ("j", 3)] (.nm 2) .r1 (.var 1) .yes (.yes) (.nm 3) .r2 (.bin .Add false (.var 2) (.cst (.int 1))) (.var 1) (.call 2 [.idx (.var 0) (.var 2), .idx (.var 0) (.var 3)]) (.tup [.var 2, .var 3]))]⟩
def p_pairs : PyDef := ⟨"pairs", ["blocks"], ["blocks", "many", "k", "j"], st_pairs, g_pairs⟩
def gH_pairs : Df := ⟨1, 4, [.set 1 (.blt .len false [.var 0]), .ret (.comp2 false [("k", 2), ("j", 3)] (.nm 2) .r1 (.var 1) .yes (.yes) (.nm 3) .r2 (.bin .Add false (.var 2) (.cst (.int 1))) (.var 1) (.call 2 [.idx (.var 0) (.var 2), .idx (.var 0) (.var 3)]) (.tup [.var 2, .var 3]))]⟩
def pH_pairs : PyDef := ⟨"pairs", ["blocks"], ["blocks", "many", "k", "j"], st_pairs, gH_pairs⟩
abbrev st_is_plan : Stmt := top 10
def g_is_plan : Df := ⟨2, 5, [.ifs (.or [.not (.isi .tuple (.var 1)), .cmp .NotEq (.blt .len false [.var 1]) (.blt .len false [.var 0])]) [.ret (.cst (.bool false))] [], .ifs (.not (.blt .all false [.comp false [("one", 4)] (.nm 4) .sq (.var 1) .yes (.yes) (.and [.call 1 [.var 4], .cmp .GtE (.var 4) (.cst (.int 0))])])) [.ret (.cst (.bool false))] [], .fr (.tp [2, 3]) .sq (.call 4 [.var 0]) .yes [.ifs (.and [.cmp .Lt (.idx (.var 1) (.var 2)) (.bin .Add false (.idx (.var 1) (.var 3)) (.idx (.idx (.var 0) (.var 3)) (.cst (.int 0)))), .cmp .Lt (.idx (.var 1) (.var 3)) (.bin .Add false (.idx (.var 1) (.var 2)) (.idx (.idx (.var 0) (.var 2)) (.cst (.int 0))))]) [.ret (.cst (.bool false))] []], .ret (.cst (.bool true))]⟩
def p_is_plan : PyDef := ⟨"is_plan", ["blocks", "value"], ["blocks", "value", "k", "j", "one"], st_is_plan, g_is_plan⟩
abbrev st_peak : Stmt := top 11
def g_peak : Df := ⟨2, 3, [.ret (.blt .maxL false [.bin .Add false (.lst false [.cst (.int 0)]) (.comp false [("k", 2)] (.nm 2) .r1 (.blt .len false [.var 0]) .yes (.yes) (.bin .Add false (.idx (.var 1) (.var 2)) (.idx (.idx (.var 0) (.var 2)) (.cst (.int 0)))))])]⟩
def p_peak : PyDef := ⟨"peak", ["blocks", "plan"], ["blocks", "plan", "k"], st_peak, g_peak⟩
abbrev st_heights : Stmt := top 12
def g_heights : Df := ⟨2, 6, [.set 2 (.bin .Mult true (.lst false [.cst (.int 0)]) (.blt .len false [.var 0])), .fr (.nm 3) .r1 (.bin .Add false (.blt .len false [.var 0]) (.cst (.int 1))) .yes [.fr (.tp [4, 5]) .sq (.var 1) .yes [.asg (.sub (.var 2) (.var 5)) (.blt .max2 false [.idx (.var 2) (.var 5), .bin .Add false (.idx (.var 2) (.var 4)) (.idx (.idx (.var 0) (.var 4)) (.cst (.int 0)))])]], .ret (.frz (.var 2))]⟩
def p_heights : PyDef := ⟨"heights", ["blocks", "below"], ["blocks", "below", "places", "turn", "one", "other"], st_heights, g_heights⟩
def gH_heights : Df := ⟨2, 6, [.set 2 (.bin .Mult true (.lst false [.cst (.int 0)]) (.blt .len false [.var 0])), .fr (.nm 3) .r1 (.bin .Add false (.blt .len false [.var 0]) (.cst (.int 1))) .yes [.fr (.tp [4, 5]) .sq (.var 1) .yes [.asg (.sub (.var 2) (.var 5)) (.blt .max2 false [.idx (.var 2) (.var 5), .bin .Add false (.idx (.var 2) (.var 4)) (.idx (.idx (.var 0) (.var 4)) (.cst (.int 0)))])]], .ret (.frz (.var 2))]⟩
def pH_heights : PyDef := ⟨"heights", ["blocks", "below"], ["blocks", "below", "places", "turn", "one", "other"], st_heights, gH_heights⟩
abbrev st_decided : Stmt := top 13
def g_decided : Df := ⟨2, 2, [.ifs (.cmp .Gt (.blt .len false [.var 0]) (.glc 0)) [.raise 34 [.cst (.str "blocks")]] [], .ret (.call 9 [.var 0, .var 1, .call 4 [.var 0], .lst false []])]⟩
def p_decided : PyDef := ⟨"decided", ["blocks", "limit"], ["blocks", "limit"], st_decided, g_decided⟩
def gH_decided : Df := ⟨2, 2, [.ifs (.cmp .Gt (.blt .len false [.var 0]) (.glc 0)) [.never] [], .ret (.call 9 [.var 0, .var 1, .call 4 [.var 0], .lst false []])]⟩
def pH_decided : PyDef := ⟨"decided", ["blocks", "limit"], ["blocks", "limit"], st_decided, gH_decided⟩
abbrev st_search : Stmt := top 14
def g_search : Df := ⟨4, 13, [.set 4 (.call 11 [.var 0, .var 1, .var 3]), .ifs (.cmp .IsNot (.var 4) (.cst .none)) [.ret (.tup [.cst (.str "none"), .tup [.cst (.str "chain"), .var 4]])] [], .set 5 (.call 7 [.var 0, .var 3]), .set 6 (.comp false [("pair", 12)] (.nm 12) .sq (.var 2) .yes (.not (.call 10 [.var 0, .var 5, .var 12])) (.var 12)), .ifs (.cmp .Eq (.blt .len false [.var 6]) (.cst (.int 0))) [.ret (.tup [.cst (.str "plan"), .blt .tuple false [.var 5]])] [], .asg (.tp [.nm 10, .nm 11]) (.idx (.var 6) (.cst (.int 0))), .set 7 (.comp false [("pair", 12)] (.nm 12) .sq (.var 2) .yes (.cmp .NotEq (.var 12) (.idx (.var 6) (.cst (.int 0)))) (.var 12)), .set 8 (.call 9 [.var 0, .var 1, .var 7, .bin .Add false (.var 3) (.lst false [.tup [.var 10, .var 11]])]), .ifs (.cmp .Eq (.idx (.var 8) (.cst (.int 0))) (.cst (.str "plan"))) [.ret (.var 8)] [], .set 9 (.call 9 [.var 0, .var 1, .var 7, .bin .Add false (.var 3) (.lst false [.tup [.var 11, .var 10]])]), .ifs (.cmp .Eq (.idx (.var 9) (.cst (.int 0))) (.cst (.str "plan"))) [.ret (.var 9)] [], .ret (.tup [.cst (.str "none"), .tup [.cst (.str "pair"), .var 10, .var 11, .idx (.var 8) (.cst (.int 1)), .idx (.var 9) (.cst (.int 1))]])]⟩
def p_search : PyDef := ⟨"search", ["blocks", "limit", "open_pairs", "below"], ["blocks", "limit", "open_pairs", "below", "chain", "places", "clash", "rest", "low", "high", "one", "other", "pair"], st_search, g_search⟩
def gH_search : Df := ⟨4, 13, [.set 4 (.call 11 [.var 0, .var 1, .var 3]), .ifs (.cmp .IsNot (.var 4) (.cst .none)) [.ret (.tup [.cst (.str "none"), .tup [.cst (.str "chain"), .var 4]])] [], .set 5 (.call 7 [.var 0, .var 3]), .set 6 (.comp false [("pair", 12)] (.nm 12) .sq (.var 2) .yes (.not (.call 10 [.var 0, .var 5, .var 12])) (.var 12)), .ifs (.cmp .Eq (.blt .len false [.var 6]) (.cst (.int 0))) [.ret (.tup [.cst (.str "plan"), .blt .tuple false [.var 5]])] [], .asg (.tp [.nm 10, .nm 11]) (.idx (.var 6) (.cst (.int 0))), .set 7 (.comp false [("pair", 12)] (.nm 12) .sq (.var 2) .yes (.cmp .NotEq (.var 12) (.idx (.var 6) (.cst (.int 0)))) (.var 12)), .set 8 (.call 9 [.var 0, .var 1, .var 7, .bin .Add false (.var 3) (.lst false [.tup [.var 10, .var 11]])]), .ifs (.cmp .Eq (.idx (.var 8) (.cst (.int 0))) (.cst (.str "plan"))) [.ret (.var 8)] [], .set 9 (.call 9 [.var 0, .var 1, .var 7, .bin .Add false (.var 3) (.lst false [.tup [.var 11, .var 10]])]), .ifs (.cmp .Eq (.idx (.var 9) (.cst (.int 0))) (.cst (.str "plan"))) [.ret (.var 9)] [], .ret (.tup [.cst (.str "none"), .tup [.cst (.str "pair"), .var 10, .var 11, .idx (.var 8) (.cst (.int 1)), .idx (.var 9) (.cst (.int 1))]])]⟩
def pH_search : PyDef := ⟨"search", ["blocks", "limit", "open_pairs", "below"], ["blocks", "limit", "open_pairs", "below", "chain", "places", "clash", "rest", "low", "high", "one", "other", "pair"], st_search, gH_search⟩
abbrev st_apart : Stmt := top 15
def g_apart : Df := ⟨3, 5, [.asg (.tp [.nm 3, .nm 4]) (.var 2), .ret (.or [.cmp .GtE (.idx (.var 1) (.var 3)) (.bin .Add false (.idx (.var 1) (.var 4)) (.idx (.idx (.var 0) (.var 4)) (.cst (.int 0)))), .cmp .GtE (.idx (.var 1) (.var 4)) (.bin .Add false (.idx (.var 1) (.var 3)) (.idx (.idx (.var 0) (.var 3)) (.cst (.int 0))))])]⟩
def p_apart : PyDef := ⟨"apart", ["blocks", "places", "pair"], ["blocks", "places", "pair", "one", "other"], st_apart, g_apart⟩
def gH_apart : Df := ⟨3, 5, [.asg (.tp [.nm 3, .nm 4]) (.var 2), .ret (.or [.cmp .GtE (.idx (.var 1) (.var 3)) (.bin .Add false (.idx (.var 1) (.var 4)) (.idx (.idx (.var 0) (.var 4)) (.cst (.int 0)))), .cmp .GtE (.idx (.var 1) (.var 4)) (.bin .Add false (.idx (.var 1) (.var 3)) (.idx (.idx (.var 0) (.var 3)) (.cst (.int 0))))])]⟩
def pH_apart : PyDef := ⟨"apart", ["blocks", "places", "pair"], ["blocks", "places", "pair", "one", "other"], st_apart, gH_apart⟩
abbrev st_too_long : Stmt := top 16
def g_too_long : Df := ⟨3, 10, [.par2 4 5 [.bin .Mult true (.lst false [.cst (.int 0)]) (.blt .len false [.var 0]), .bin .Mult true (.lst false [.cst .none]) (.blt .len false [.var 0])], .fr (.nm 3) .r1 (.bin .Add false (.bin .Mult false (.blt .len false [.var 0]) (.bin .Add false (.var 1) (.cst (.int 1)))) (.cst (.int 1))) .yes [.fr (.nm 6) .r1 (.blt .len false [.var 0]) .yes [.ifs (.cmp .Gt (.bin .Add false (.idx (.var 4) (.var 6)) (.idx (.idx (.var 0) (.var 6)) (.cst (.int 0)))) (.var 1)) [.ret (.call 12 [.var 0, .var 1, .var 5, .var 6])] []], .set 7 (.cst (.bool false)), .fr (.tp [8, 9]) .sq (.var 2) .yes [.ifs (.cmp .Gt (.bin .Add false (.idx (.var 4) (.var 8)) (.idx (.idx (.var 0) (.var 8)) (.cst (.int 0)))) (.idx (.var 4) (.var 9))) [.asg (.tp [.sub (.var 4) (.var 9), .sub (.var 5) (.var 9), .nm 7]) (.tup [.bin .Add false (.idx (.var 4) (.var 8)) (.idx (.idx (.var 0) (.var 8)) (.cst (.int 0))), .var 8, .cst (.bool true)])] []], .ifs (.not (.var 7)) [.ret (.cst .none)] []], .ret (.cst .none)]⟩
def p_too_long : PyDef := ⟨"too_long", ["blocks", "limit", "below"], ["blocks", "limit", "below", "turn", "places", "before", "k", "moved", "one", "other"], st_too_long, g_too_long⟩
def gH_too_long : Df := ⟨3, 10, [.par2 4 5 [.bin .Mult true (.lst false [.cst (.int 0)]) (.blt .len false [.var 0]), .bin .Mult true (.lst false [.cst .none]) (.blt .len false [.var 0])], .fr (.nm 3) .r1 (.bin .Add false (.bin .Mult false (.blt .len false [.var 0]) (.bin .Add false (.var 1) (.cst (.int 1)))) (.cst (.int 1))) .yes [.fr (.nm 6) .r1 (.blt .len false [.var 0]) .yes [.ifs (.cmp .Gt (.bin .Add false (.idx (.var 4) (.var 6)) (.idx (.idx (.var 0) (.var 6)) (.cst (.int 0)))) (.var 1)) [.ret (.call 12 [.var 0, .var 1, .var 5, .var 6])] []], .set 7 (.cst (.bool false)), .fr (.tp [8, 9]) .sq (.var 2) .yes [.ifs (.cmp .Gt (.bin .Add false (.idx (.var 4) (.var 8)) (.idx (.idx (.var 0) (.var 8)) (.cst (.int 0)))) (.idx (.var 4) (.var 9))) [.asg (.tp [.sub (.var 4) (.var 9), .sub (.var 5) (.var 9), .nm 7]) (.tup [.bin .Add false (.idx (.var 4) (.var 8)) (.idx (.idx (.var 0) (.var 8)) (.cst (.int 0))), .var 8, .cst (.bool true)])] []], .ifs (.not (.var 7)) [.ret (.cst .none)] []], .ret (.cst .none)]⟩
def pH_too_long : PyDef := ⟨"too_long", ["blocks", "limit", "below"], ["blocks", "limit", "below", "turn", "places", "before", "k", "moved", "one", "other"], st_too_long, gH_too_long⟩
abbrev st_long_chain : Stmt := top 17
def g_long_chain : Df := ⟨4, 6, [.set 4 (.lst false [.var 3]), .whl 1000 (.cmp .LtE (.blt .sum false [.comp false [("k", 5)] (.nm 5) .sq (.var 4) .yes (.yes) (.idx (.idx (.var 0) (.var 5)) (.cst (.int 0)))]) (.var 1)) [.set 4 (.bin .Add false (.lst false [.idx (.var 2) (.idx (.var 4) (.cst (.int 0)))]) (.var 4))], .ret (.blt .tuple false [.var 4])]⟩
def p_long_chain : PyDef := ⟨"long_chain", ["blocks", "limit", "before", "place"], ["blocks", "limit", "before", "place", "row", "k"], st_long_chain, g_long_chain⟩
def gH_long_chain : Df := ⟨4, 6, [.set 4 (.lst false [.var 3]), .whl 1000 (.cmp .LtE (.blt .sum false [.comp false [("k", 5)] (.nm 5) .sq (.var 4) .yes (.yes) (.idx (.idx (.var 0) (.var 5)) (.cst (.int 0)))]) (.var 1)) [.set 4 (.bin .Add false (.lst false [.idx (.var 2) (.idx (.var 4) (.cst (.int 0)))]) (.var 4))], .ret (.blt .tuple false [.var 4])]⟩
def pH_long_chain : PyDef := ⟨"long_chain", ["blocks", "limit", "before", "place"], ["blocks", "limit", "before", "place", "row", "k"], st_long_chain, gH_long_chain⟩
abbrev st_accepts_none : Stmt := top 18
def g_accepts_none : Df := ⟨3, 3, [.ret (.call 14 [.var 0, .var 1, .var 2, .lst false [], .cst (.int 0)])]⟩
def p_accepts_none : PyDef := ⟨"accepts_none", ["blocks", "limit", "tree"], ["blocks", "limit", "tree"], st_accepts_none, g_accepts_none⟩
abbrev st_shows : Stmt := top 19
def g_shows : Df := ⟨5, 8, [.ifs (.or [.not (.isi .tuple (.var 2)), .cmp .Eq (.blt .len false [.var 2]) (.cst (.int 0)), .cmp .Gt (.var 4) (.cst (.int 60))]) [.ret (.cst (.bool false))] [], .ifs (.and [.cmp .Eq (.idx (.var 2) (.cst (.int 0))) (.cst (.str "chain")), .cmp .Eq (.blt .len false [.var 2]) (.cst (.int 2)), .isi .tuple (.idx (.var 2) (.cst (.int 1))), .cmp .Gt (.blt .len false [.idx (.var 2) (.cst (.int 1))]) (.cst (.int 0))]) [.set 6 (.idx (.var 2) (.cst (.int 1))), .ifs (.not (.blt .all false [.comp false [("k", 7)] (.nm 7) .sq (.var 6) .yes (.yes) (.and [.call 1 [.var 7], .cmp2 .LtE .Lt (.cst (.int 0)) (.var 7) (.blt .len false [.var 0])])])) [.ret (.cst (.bool false))] [], .ifs (.not (.blt .all false [.comp false [("k", 7)] (.nm 7) .r1 (.bin .Sub false (.blt .len false [.var 6]) (.cst (.int 1))) .yes (.yes) (.cmp .In (.tup [.idx (.var 6) (.var 7), .idx (.var 6) (.bin .Add false (.var 7) (.cst (.int 1)))]) (.var 3))])) [.ret (.cst (.bool false))] [], .ret (.cmp .Gt (.blt .sum false [.comp false [("k", 7)] (.nm 7) .sq (.var 6) .yes (.yes) (.idx (.idx (.var 0) (.var 7)) (.cst (.int 0)))]) (.var 1))] [], .ifs (.or [.cmp .NotEq (.idx (.var 2) (.cst (.int 0))) (.cst (.str "pair")), .cmp .NotEq (.blt .len false [.var 2]) (.cst (.int 5)), .not (.call 1 [.idx (.var 2) (.cst (.int 1))]), .not (.call 1 [.idx (.var 2) (.cst (.int 2))])]) [.ret (.cst (.bool false))] [], .ifs (.cmp .NotIn (.tup [.idx (.var 2) (.cst (.int 1)), .idx (.var 2) (.cst (.int 2))]) (.call 4 [.var 0])) [.ret (.cst (.bool false))] [], .set 5 (.call 14 [.var 0, .var 1, .idx (.var 2) (.cst (.int 3)), .bin .Add false (.var 3) (.lst false [.tup [.idx (.var 2) (.cst (.int 1)), .idx (.var 2) (.cst (.int 2))]]), .bin .Add false (.var 4) (.cst (.int 1))]), .ret (.and [.var 5, .call 14 [.var 0, .var 1, .idx (.var 2) (.cst (.int 4)), .bin .Add false (.var 3) (.lst false [.tup [.idx (.var 2) (.cst (.int 2)), .idx (.var 2) (.cst (.int 1))]]), .bin .Add false (.var 4) (.cst (.int 1))]])]⟩
def p_shows : PyDef := ⟨"shows", ["blocks", "limit", "tree", "below", "level"], ["blocks", "limit", "tree", "below", "level", "low", "row", "k"], st_shows, g_shows⟩
abbrev st_least_plan : Stmt := top 20
def g_least_plan : Df := ⟨1, 4, [.par2 1 2 [.call 3 [.var 0], .cst .none], .whl 100 (.cst (.bool true)) [.set 3 (.call 8 [.var 0, .var 1]), .ifs (.cmp .Eq (.idx (.var 3) (.cst (.int 0))) (.cst (.str "plan"))) [.ret (.tup [.var 1, .idx (.var 3) (.cst (.int 1)), .var 2])] [], .par2 1 2 [.bin .Add false (.var 1) (.cst (.int 1)), .idx (.var 3) (.cst (.int 1))]]]⟩
def p_least_plan : PyDef := ⟨"least_plan", ["blocks"], ["blocks", "limit", "paper", "told"], st_least_plan, g_least_plan⟩
def gH_least_plan : Df := ⟨1, 4, [.par2 1 2 [.call 3 [.var 0], .cst .none], .whl 100 (.cst (.bool true)) [.set 3 (.call 8 [.var 0, .var 1]), .ifs (.cmp .Eq (.idx (.var 3) (.cst (.int 0))) (.cst (.str "plan"))) [.ret (.tup [.var 1, .idx (.var 3) (.cst (.int 1)), .var 2])] [], .par2 1 2 [.bin .Add false (.var 1) (.cst (.int 1)), .idx (.var 3) (.cst (.int 1))]]]⟩
def pH_least_plan : PyDef := ⟨"least_plan", ["blocks"], ["blocks", "limit", "paper", "told"], st_least_plan, gH_least_plan⟩
abbrev st_accepts_least : Stmt := top 21
def g_accepts_least : Df := ⟨2, 2, [.ifs (.or [.not (.isi .tuple (.var 1)), .cmp .NotEq (.blt .len false [.var 1]) (.cst (.int 3)), .not (.call 1 [.idx (.var 1) (.cst (.int 0))]), .not (.call 5 [.var 0, .idx (.var 1) (.cst (.int 1))])]) [.ret (.cst (.bool false))] [], .ifs (.cmp .Gt (.call 6 [.var 0, .idx (.var 1) (.cst (.int 1))]) (.idx (.var 1) (.cst (.int 0)))) [.ret (.cst (.bool false))] [], .ifs (.cmp .Is (.idx (.var 1) (.cst (.int 2))) (.cst .none)) [.ret (.cmp .GtE (.call 3 [.var 0]) (.idx (.var 1) (.cst (.int 0))))] [], .ret (.call 13 [.var 0, .bin .Sub false (.idx (.var 1) (.cst (.int 0))) (.cst (.int 1)), .idx (.var 1) (.cst (.int 2))])]⟩
def p_accepts_least : PyDef := ⟨"accepts_least", ["blocks", "value"], ["blocks", "value"], st_accepts_least, g_accepts_least⟩
abbrev st_first_fit : Stmt := top 22
def g_first_fit : Df := ⟨1, 8, [.set 1 (.lst true []), .fr (.nm 2) .r1 (.blt .len false [.var 0]) .yes [.set 3 (.comp false [("j", 6)] (.nm 6) .r1 (.var 2) .yes (.call 2 [.idx (.var 0) (.var 6), .idx (.var 0) (.var 2)]) (.var 6)), .set 4 (.sset false (.bin .Add false (.lst false [.cst (.int 0)]) (.comp false [("j", 6)] (.nm 6) .sq (.var 3) .yes (.yes) (.bin .Add false (.idx (.var 1) (.var 6)) (.idx (.idx (.var 0) (.var 6)) (.cst (.int 0))))))), .set 5 (.comp false [("spot", 7)] (.nm 7) .sq (.var 4) .yes (.blt .all false [.comp false [("j", 6)] (.nm 6) .sq (.var 3) .yes (.yes) (.call 10 [.var 0, .bin .Add false (.var 1) (.lst false [.var 7]), .tup [.var 6, .var 2]])]) (.var 7)), .expr (.app (.var 1) (.idx (.var 5) (.cst (.int 0))))], .ret (.blt .tuple false [.var 1])]⟩
def p_first_fit : PyDef := ⟨"first_fit", ["blocks"], ["blocks", "found", "k", "near", "spots", "ready", "j", "spot"], st_first_fit, g_first_fit⟩
abbrev st__law_state : Stmt := top 24
def g__law_state : Df := ⟨1, 3, [.set 1 (.comp true [("cell", 2)] (.nm 2) .sq (.slc false false true (.var 0) (.yes) (.cst (.int 63))) .yes (.yes) (.blt .abs false [.var 2])), .ifs (.cmp .Eq (.blt .len false [.var 1]) (.cst (.int 0))) [.set 1 (.lst true [.cst (.int 0)])] [], .ret (.lst true [.cst (.int 0), .var 1])]⟩
def p__law_state : PyDef := ⟨"_law_state", ["script"], ["script", "cells", "cell"], st__law_state, g__law_state⟩
abbrev st__law_take : Stmt := top 25
def g__law_take : Df := ⟨2, 6, [.ifs (.cmp .Lt (.var 1) (.cst (.int 2))) [.ret (.cst (.int 0))] [], .set 2 (.idx (.var 0) (.cst (.int 1))), .set 3 (.bin .Mod false (.blt .int false [.idx (.var 0) (.cst (.int 0))]) (.blt .len false [.var 2])), .set 4 (.idx (.var 2) (.var 3)), .ifs (.cmp .GtE (.var 4) (.cst (.int 1000000000000000000))) [.asg (.sub (.var 2) (.var 3)) (.bin .FloorDiv false (.var 4) (.var 1)), .ret (.bin .Mod false (.blt .int false [.var 4]) (.var 1))] [], .asg (.sub (.var 0) (.cst (.int 0))) (.bin .Add false (.idx (.var 0) (.cst (.int 0))) (.cst (.int 1))), .set 5 (.bin .Mod false (.blt .int false [.bin .Add false (.bin .Mult false (.var 4) (.cst (.int 48271))) (.bin .Mult false (.idx (.var 0) (.cst (.int 0))) (.cst (.int 69621)))]) (.cst (.int 2147483647))), .set 5 (.bin .Mod false (.blt .int false [.bin .Add false (.bin .Mult false (.var 5) (.cst (.int 16807))) (.bin .Mult false (.idx (.var 0) (.cst (.int 0))) (.cst (.int 7919)))]) (.cst (.int 1000000007))), .ret (.bin .Mod false (.blt .int false [.bin .FloorDiv false (.var 5) (.cst (.int 7))]) (.var 1))]⟩
def p__law_take : PyDef := ⟨"_law_take", ["state", "most"], ["state", "most", "cells", "at", "cell", "mixed"], st__law_take, g__law_take⟩
abbrev st__law_pick : Stmt := top 26
def g__law_pick : Df := ⟨2, 2, [.ret (.idx (.var 1) (.call 19 [.var 0, .blt .len false [.var 1]]))]⟩
def p__law_pick : PyDef := ⟨"_law_pick", ["state", "row"], ["state", "row"], st__law_pick, g__law_pick⟩
abbrev st__law_blocks : Stmt := top 27
def g__law_blocks : Df := ⟨2, 5, [.set 2 (.lst true []), .fr (.nm 3) .r1 (.call 19 [.var 0, .bin .Add false (.var 1) (.cst (.int 1))]) .yes [.set 4 (.call 19 [.var 0, .cst (.int 5)]), .expr (.app (.var 2) (.tup [.call 20 [.var 0, .lst false [.cst (.int 0), .cst (.int 1), .cst (.int 1), .cst (.int 2), .cst (.int 2), .cst (.int 3), .cst (.int 4)]], .var 4, .bin .Add false (.bin .Add false (.var 4) (.cst (.int 1))) (.call 19 [.var 0, .cst (.int 4)])]))], .ret (.blt .tuple false [.var 2])]⟩
def p__law_blocks : PyDef := ⟨"_law_blocks", ["state", "most"], ["state", "most", "rows", "k", "begin"], st__law_blocks, g__law_blocks⟩
abbrev st__law_meet : Stmt := top 28
def g__law_meet : Df := ⟨2, 3, [.ret (.and [.cmp .Gt (.idx (.var 0) (.cst (.int 0))) (.cst (.int 0)), .cmp .Gt (.idx (.var 1) (.cst (.int 0))) (.cst (.int 0)), .cmp .Gt (.blt .len false [.comp false [("k", 2)] (.nm 2) .r2 (.idx (.var 0) (.cst (.int 1))) (.idx (.var 0) (.cst (.int 2))) (.cmp2 .LtE .Lt (.idx (.var 1) (.cst (.int 1))) (.var 2) (.idx (.var 1) (.cst (.int 2)))) (.var 2)]) (.cst (.int 0))])]⟩
def p__law_meet : PyDef := ⟨"_law_meet", ["one", "other"], ["one", "other", "k"], st__law_meet, g__law_meet⟩
abbrev st__law_pairs : Stmt := top 29
def g__law_pairs : Df := ⟨1, 4, [.set 1 (.lst false []), .fr (.nm 2) .r1 (.blt .len false [.var 0]) .yes [.set 1 (.bin .Add false (.var 1) (.comp false [("j", 3)] (.nm 3) .r2 (.bin .Add false (.var 2) (.cst (.int 1))) (.blt .len false [.var 0]) (.call 22 [.idx (.var 0) (.var 2), .idx (.var 0) (.var 3)]) (.tup [.var 2, .var 3])))], .ret (.var 1)]⟩
def p__law_pairs : PyDef := ⟨"_law_pairs", ["blocks"], ["blocks", "found", "k", "j"], st__law_pairs, g__law_pairs⟩
abbrev st__law_plan : Stmt := top 30
def g__law_plan : Df := ⟨2, 5, [.ifs (.cmp .Gt (.blt .len false [.comp false [("place", 4)] (.nm 4) .sq (.var 1) .yes (.cmp .Lt (.var 4) (.cst (.int 0))) (.var 4)]) (.cst (.int 0))) [.ret (.cst (.bool false))] [], .fr (.tp [2, 3]) .sq (.call 23 [.var 0]) .yes [.ifs (.and [.cmp .Gt (.bin .Add false (.idx (.var 1) (.var 2)) (.idx (.idx (.var 0) (.var 2)) (.cst (.int 0)))) (.idx (.var 1) (.var 3)), .cmp .Gt (.bin .Add false (.idx (.var 1) (.var 3)) (.idx (.idx (.var 0) (.var 3)) (.cst (.int 0)))) (.idx (.var 1) (.var 2))]) [.ret (.cst (.bool false))] []], .ret (.cst (.bool true))]⟩
def p__law_plan : PyDef := ⟨"_law_plan", ["blocks", "plan"], ["blocks", "plan", "k", "j", "place"], st__law_plan, g__law_plan⟩
abbrev st__law_peak : Stmt := top 31
def g__law_peak : Df := ⟨2, 3, [.ret (.blt .maxL false [.bin .Add false (.lst false [.cst (.int 0)]) (.comp false [("k", 2)] (.nm 2) .r1 (.blt .len false [.var 0]) .yes (.yes) (.bin .Add false (.idx (.var 1) (.var 2)) (.idx (.idx (.var 0) (.var 2)) (.cst (.int 0)))))])]⟩
def p__law_peak : PyDef := ⟨"_law_peak", ["blocks", "plan"], ["blocks", "plan", "k"], st__law_peak, g__law_peak⟩
abbrev st__law_least : Stmt := top 32
def g__law_least : Df := ⟨1, 2, [.fr (.nm 1) .r1 (.cst (.int 60)) .yes [.ifs (.call 27 [.var 0, .var 1, .tup []]) [.ret (.var 1)] []], .ret (.cst .none)]⟩
def p__law_least : PyDef := ⟨"_law_least", ["blocks"], ["blocks", "limit"], st__law_least, g__law_least⟩
abbrev st__law_fits : Stmt := top 33
def g__law_fits : Df := ⟨3, 7, [.set 3 (.blt .len false [.var 2]), .ifs (.cmp .Eq (.var 3) (.blt .len false [.var 0])) [.ret (.cst (.bool true))] [], .fr (.nm 4) .r1 (.bin .Add false (.bin .Sub false (.var 1) (.idx (.idx (.var 0) (.var 3)) (.cst (.int 0)))) (.cst (.int 1))) .yes [.set 5 (.cmp .Eq (.blt .len false [.comp false [("j", 6)] (.nm 6) .r1 (.var 3) .yes (.and [.call 22 [.idx (.var 0) (.var 6), .idx (.var 0) (.var 3)], .cmp .Gt (.bin .Add false (.idx (.var 2) (.var 6)) (.idx (.idx (.var 0) (.var 6)) (.cst (.int 0)))) (.var 4), .cmp .Gt (.bin .Add false (.var 4) (.idx (.idx (.var 0) (.var 3)) (.cst (.int 0)))) (.idx (.var 2) (.var 6))]) (.var 6)]) (.cst (.int 0))), .ifs (.and [.var 5, .call 27 [.var 0, .var 1, .bin .Add false (.var 2) (.tup [.var 4])]]) [.ret (.cst (.bool true))] [], .ifs (.cmp .Eq (.idx (.idx (.var 0) (.var 3)) (.cst (.int 0))) (.cst (.int 0))) [.brk] []], .ret (.cst (.bool false))]⟩
def p__law_fits : PyDef := ⟨"_law_fits", ["blocks", "limit", "plan"], ["blocks", "limit", "plan", "k", "place", "good", "j"], st__law_fits, g__law_fits⟩
abbrev st__law_shows : Stmt := top 34
def g__law_shows : Df := ⟨4, 6, [.ifs (.cmp .Eq (.idx (.var 2) (.cst (.int 0))) (.cst (.str "chain"))) [.set 4 (.idx (.var 2) (.cst (.int 1))), .ifs (.or [.cmp .Gt (.blt .len false [.comp false [("k", 5)] (.nm 5) .sq (.var 4) .yes (.not (.cmp2 .LtE .Lt (.cst (.int 0)) (.var 5) (.blt .len false [.var 0]))) (.var 5)]) (.cst (.int 0)), .cmp .Gt (.blt .len false [.comp false [("k", 5)] (.nm 5) .r1 (.bin .Sub false (.blt .len false [.var 4]) (.cst (.int 1))) .yes (.cmp .NotIn (.tup [.idx (.var 4) (.var 5), .idx (.var 4) (.bin .Add false (.var 5) (.cst (.int 1)))]) (.var 3)) (.var 5)]) (.cst (.int 0))]) [.ret (.cst (.bool false))] [], .ret (.and [.cmp .NotEq (.var 4) (.tup []), .cmp .Gt (.blt .sum false [.comp false [("k", 5)] (.nm 5) .sq (.var 4) .yes (.yes) (.idx (.idx (.var 0) (.var 5)) (.cst (.int 0)))]) (.var 1)])] [], .ifs (.cmp .NotIn (.tup [.idx (.var 2) (.cst (.int 1)), .idx (.var 2) (.cst (.int 2))]) (.call 23 [.var 0])) [.ret (.cst (.bool false))] [], .ret (.and [.call 28 [.var 0, .var 1, .idx (.var 2) (.cst (.int 3)), .bin .Add false (.var 3) (.lst false [.tup [.idx (.var 2) (.cst (.int 1)), .idx (.var 2) (.cst (.int 2))]])], .call 28 [.var 0, .var 1, .idx (.var 2) (.cst (.int 4)), .bin .Add false (.var 3) (.lst false [.tup [.idx (.var 2) (.cst (.int 2)), .idx (.var 2) (.cst (.int 1))]])]])]⟩
def p__law_shows : PyDef := ⟨"_law_shows", ["blocks", "limit", "tree", "below"], ["blocks", "limit", "tree", "below", "row", "k"], st__law_shows, g__law_shows⟩
abbrev st__law_bent : Stmt := top 35
def g__law_bent : Df := ⟨2, 5, [.ifs (.cmp .Eq (.idx (.var 1) (.cst (.int 0))) (.cst (.str "chain"))) [.par2 3 4 [.idx (.var 1) (.cst (.int 1)), .call 19 [.var 0, .blt .len false [.idx (.var 1) (.cst (.int 1))]]], .ret (.tup [.cst (.str "chain"), .call 20 [.var 0, .lst false [.bin .Add false (.slc false false true (.var 3) (.yes) (.var 4)) (.slc false true false (.var 3) (.bin .Add false (.var 4) (.cst (.int 1))) (.yes)), .bin .Add false (.bin .Add false (.slc false false true (.var 3) (.yes) (.var 4)) (.tup [.bin .Add false (.idx (.var 3) (.var 4)) (.cst (.int 1))])) (.slc false true false (.var 3) (.bin .Add false (.var 4) (.cst (.int 1))) (.yes)), .bin .Add false (.var 3) (.slc false false true (.var 3) (.yes) (.cst (.int 1))), .rev false (.var 3)]]])] [], .set 2 (.call 19 [.var 0, .cst (.int 4)]), .ifs (.cmp .Eq (.var 2) (.cst (.int 0))) [.ret (.tup [.cst (.str "pair"), .idx (.var 1) (.cst (.int 2)), .idx (.var 1) (.cst (.int 1)), .idx (.var 1) (.cst (.int 3)), .idx (.var 1) (.cst (.int 4))])] [], .ifs (.cmp .Eq (.var 2) (.cst (.int 1))) [.ret (.bin .Add false (.slc false false true (.var 1) (.yes) (.cst (.int 3))) (.tup [.idx (.var 1) (.cst (.int 4)), .idx (.var 1) (.cst (.int 3))]))] [], .ret (.ite (.cmp .Eq (.var 2) (.cst (.int 2))) (.bin .Add false (.slc false false true (.var 1) (.yes) (.cst (.int 3))) (.tup [.call 29 [.var 0, .idx (.var 1) (.cst (.int 3))], .idx (.var 1) (.cst (.int 4))])) (.bin .Add false (.slc false false true (.var 1) (.yes) (.cst (.int 4))) (.tup [.call 29 [.var 0, .idx (.var 1) (.cst (.int 4))]])))]⟩
def p__law_bent : PyDef := ⟨"_law_bent", ["state", "tree"], ["state", "tree", "way", "row", "k"], st__law_bent, g__law_bent⟩
abbrev st__law_first : Stmt := top 36
def g__law_first : Df := ⟨1, 6, [.set 1 (.call 17 [.var 0]), .fr (.nm 2) .r1 (.blt .len false [.var 0]) .yes [.fr (.nm 3) .r1 (.bin .Add false (.idx (.var 1) (.var 2)) (.cst (.int 1))) .yes [.set 4 (.cmp .Eq (.blt .len false [.comp false [("j", 5)] (.nm 5) .r1 (.var 2) .yes (.and [.call 22 [.idx (.var 0) (.var 5), .idx (.var 0) (.var 2)], .cmp .Gt (.bin .Add false (.idx (.var 1) (.var 5)) (.idx (.idx (.var 0) (.var 5)) (.cst (.int 0)))) (.var 3), .cmp .Gt (.bin .Add false (.var 3) (.idx (.idx (.var 0) (.var 2)) (.cst (.int 0)))) (.idx (.var 1) (.var 5))]) (.var 5)]) (.cst (.int 0))), .ifs (.and [.cmp .NotEq (.var 4) (.cmp .Eq (.var 3) (.idx (.var 1) (.var 2))), .not (.and [.var 4, .cmp .Eq (.var 3) (.idx (.var 1) (.var 2))])]) [.ret (.cst (.bool false))] []]], .ret (.call 24 [.var 0, .var 1])]⟩
def p__law_first : PyDef := ⟨"_law_first", ["blocks"], ["blocks", "plan", "k", "place", "good", "j"], st__law_first, g__law_first⟩
abbrev st__law_below : Stmt := top 37
def g__law_below : Df := ⟨2, 15, [.set 2 (.comp false [("k", 9), ("j", 10)] (.tp [9, 10]) .sq (.call 23 [.var 1]) .yes (.cmp .Eq (.call 19 [.var 0, .cst (.int 2)]) (.cst (.int 0))) (.tup [.var 9, .var 10])), .set 3 (.bin .Mult true (.lst false [.cst (.int 0)]) (.blt .len false [.var 1])), .fr (.nm 4) .r1 (.bin .Add false (.blt .len false [.var 1]) (.cst (.int 1))) .yes [.fr (.tp [12, 13]) .sq (.var 2) .yes [.asg (.sub (.var 3) (.var 13)) (.blt .max2 false [.idx (.var 3) (.var 13), .bin .Add false (.idx (.var 3) (.var 12)) (.idx (.idx (.var 1) (.var 12)) (.cst (.int 0)))])]], .ifs (.cmp .NotEq (.call 7 [.var 1, .var 2]) (.var 3)) [.ret (.cst (.bool false))] [], .set 5 (.call 19 [.var 0, .cst (.int 9)]), .set 6 (.bin .Add false (.var 2) (.comp false [("k", 9), ("j", 10)] (.tp [9, 10]) .sq (.slc false false true (.var 2) (.yes) (.cst (.int 1))) .yes (.cmp .Eq (.call 19 [.var 0, .cst (.int 3)]) (.cst (.int 0))) (.tup [.var 10, .var 9]))), .set 7 (.call 11 [.var 1, .var 5, .var 6]), .set 8 (.or [.cmp .Gt (.blt .len false [.var 6]) (.blt .len false [.var 2]), .cmp .Gt (.blt .len false [.comp false [("k", 9)] (.nm 9) .r1 (.blt .len false [.var 1]) .yes (.cmp .Gt (.bin .Add false (.idx (.var 3) (.var 9)) (.idx (.idx (.var 1) (.var 9)) (.cst (.int 0)))) (.var 5)) (.var 9)]) (.cst (.int 0))]), .ifs (.or [.cmp .NotEq (.cmp .IsNot (.var 7) (.cst .none)) (.var 8), .and [.cmp .IsNot (.var 7) (.cst .none), .not (.call 28 [.var 1, .var 5, .tup [.cst (.str "chain"), .var 7], .var 6])]]) [.ret (.cst (.bool false))] [], .fr (.tp [9, 10]) .sq (.slc false false true (.call 23 [.var 1]) (.yes) (.cst (.int 3))) .yes [.set 11 (.comp false [("block", 14)] (.nm 14) .sq (.var 1) .yes (.yes) (.call 19 [.var 0, .cst (.int 6)])), .ifs (.or [.cmp .NotEq (.call 10 [.var 1, .var 11, .tup [.var 9, .var 10]]) (.or [.cmp .GtE (.idx (.var 11) (.var 9)) (.bin .Add false (.idx (.var 11) (.var 10)) (.idx (.idx (.var 1) (.var 10)) (.cst (.int 0)))), .cmp .GtE (.idx (.var 11) (.var 10)) (.bin .Add false (.idx (.var 11) (.var 9)) (.idx (.idx (.var 1) (.var 9)) (.cst (.int 0))))]), .cmp .IsNot (.call 2 [.idx (.var 1) (.var 9), .idx (.var 1) (.var 10)]) (.cst (.bool true))]) [.ret (.cst (.bool false))] []], .ret (.cmp .Eq (.call 12 [.tup [.tup [.cst (.int 2), .cst (.int 0), .cst (.int 1)], .tup [.cst (.int 3), .cst (.int 0), .cst (.int 1)]], .cst (.int 4), .lst false [.cst .none, .cst (.int 0)], .cst (.int 1)]) (.tup [.cst (.int 0), .cst (.int 1)]))]⟩
def p__law_below : PyDef := ⟨"_law_below", ["state", "blocks"], ["state", "blocks", "row", "due", "turn", "limit", "both", "chain", "great", "k", "j", "places", "one", "other", "block"], st__law_below, g__law_below⟩
abbrev st_law : Stmt := top 38
def g_law : Df := ⟨1, 22, [.set 1 (.call 18 [.var 0]), .fr (.nm 2) .r1 (.cst (.int 3)) .yes [.set 7 (.call 21 [.var 1, .cst (.int 5)]), .set 8 (.call 26 [.var 7]), .set 9 (.call 15 [.var 7]), .set 10 (.blt .maxL false [.bin .Add false (.lst false [.cst (.int 0)]) (.comp false [("k", 20)] (.nm 20) .r1 (.cst (.int 10)) .yes (.yes) (.blt .sum false [.comp false [("one", 21)] (.nm 21) .sq (.var 7) .yes (.cmp2 .LtE .Lt (.idx (.var 21) (.cst (.int 1))) (.var 20) (.idx (.var 21) (.cst (.int 2)))) (.idx (.var 21) (.cst (.int 0)))]))]), .ifs (.or [.cmp .NotEq (.call 3 [.var 7]) (.var 10), .cmp .NotEq (.call 4 [.var 7]) (.call 23 [.var 7]), .cmp .NotEq (.idx (.var 9) (.cst (.int 0))) (.var 8), .cmp .IsNot (.call 16 [.var 7, .var 9]) (.cst (.bool true))]) [.ret (.cst (.bool false))] [], .ifs (.or [.not (.call 24 [.var 7, .idx (.var 9) (.cst (.int 1))]), .cmp .Gt (.call 25 [.var 7, .idx (.var 9) (.cst (.int 1))]) (.var 8), .cmp .NotEq (.cmp .Is (.idx (.var 9) (.cst (.int 2))) (.cst .none)) (.cmp .Eq (.var 8) (.var 10)), .and [.cmp .IsNot (.idx (.var 9) (.cst (.int 2))) (.cst .none), .not (.call 28 [.var 7, .bin .Sub false (.var 8) (.cst (.int 1)), .idx (.var 9) (.cst (.int 2)), .lst false []])]]) [.ret (.cst (.bool false))] [], .set 11 (.call 19 [.var 1, .bin .Add false (.var 8) (.cst (.int 2))]), .set 12 (.call 8 [.var 7, .var 11]), .ifs (.or [.cmp .NotEq (.cmp .Eq (.idx (.var 12) (.cst (.int 0))) (.cst (.str "plan"))) (.cmp .GtE (.var 11) (.var 8)), .and [.cmp .Eq (.idx (.var 12) (.cst (.int 0))) (.cst (.str "plan")), .or [.not (.call 24 [.var 7, .idx (.var 12) (.cst (.int 1))]), .cmp .Gt (.call 25 [.var 7, .idx (.var 12) (.cst (.int 1))]) (.var 11)]]]) [.ret (.cst (.bool false))] [], .ifs (.cmp .Eq (.idx (.var 12) (.cst (.int 0))) (.cst (.str "none"))) [.fr (.nm 15) .sq (.tup [.idx (.var 12) (.cst (.int 1)), .call 29 [.var 1, .idx (.var 12) (.cst (.int 1))]]) .yes [.fr (.nm 17) .sq (.tup [.var 11, .bin .Add false (.var 11) (.cst (.int 1)), .bin .Sub false (.var 11) (.cst (.int 1))]) .yes [.ifs (.cmp .NotEq (.call 13 [.var 7, .var 17, .var 15]) (.call 28 [.var 7, .var 17, .var 15, .lst false []])) [.ret (.cst (.bool false))] []]]] [], .set 13 (.blt .tuple false [.comp false [("block", 19)] (.nm 19) .sq (.var 7) .yes (.yes) (.bin .Sub false (.call 19 [.var 1, .cst (.int 8)]) (.blt .int false [.cmp .Eq (.call 19 [.var 1, .cst (.int 9)]) (.cst (.int 0))]))]), .ifs (.or [.cmp .NotEq (.call 5 [.var 7, .var 13]) (.call 24 [.var 7, .var 13]), .and [.call 24 [.var 7, .var 13], .or [.cmp .NotEq (.call 6 [.var 7, .var 13]) (.call 25 [.var 7, .var 13]), .cmp .Lt (.call 25 [.var 7, .var 13]) (.var 8)]]]) [.ret (.cst (.bool false))] [], .fr (.nm 14) .sq (.tup [.tup [.var 8, .var 13, .idx (.var 9) (.cst (.int 2))], .tup [.bin .Add false (.var 8) (.cst (.int 1)), .idx (.var 9) (.cst (.int 1)), .cst .none], .tup [.bin .Add false (.var 8) (.cst (.int 1)), .idx (.var 9) (.cst (.int 1)), .idx (.var 9) (.cst (.int 2))], .tup [.bin .Sub false (.var 8) (.cst (.int 1)), .idx (.var 9) (.cst (.int 1)), .idx (.var 9) (.cst (.int 2))]]) .yes [.set 16 (.and [.call 24 [.var 7, .idx (.var 14) (.cst (.int 1))], .cmp .LtE (.call 25 [.var 7, .idx (.var 14) (.cst (.int 1))]) (.idx (.var 14) (.cst (.int 0)))]), .set 16 (.and [.var 16, .ite (.cmp .Is (.idx (.var 14) (.cst (.int 2))) (.cst .none)) (.cmp .GtE (.var 10) (.idx (.var 14) (.cst (.int 0)))) (.call 28 [.var 7, .bin .Sub false (.idx (.var 14) (.cst (.int 0))) (.cst (.int 1)), .idx (.var 14) (.cst (.int 2)), .lst false []])]), .ifs (.cmp .NotEq (.call 16 [.var 7, .var 14]) (.var 16)) [.ret (.cst (.bool false))] []], .ifs (.or [.not (.call 30 [.var 7]), .not (.call 31 [.var 1, .var 7])]) [.ret (.cst (.bool false))] []], .set 3 (.lst false [.cst .none, .tup [], .lst false [.cst (.int 3), .tup [], .cst .none], .tup [.cst (.int 0)], .tup [.cst (.str "0"), .tup [], .cst .none], .tup [.cst (.int 0), .cst .none, .cst .none], .tup [.cst (.int 0), .tup [], .cst .none, .cst (.int 1)]]), .ifs (.or [.cmp .Gt (.blt .len false [.comp false [("odd", 18)] (.nm 18) .sq (.var 3) .yes (.cmp .IsNot (.call 16 [.tup [], .var 18]) (.cst (.bool false))) (.var 18)]) (.cst (.int 0)), .cmp .IsNot (.call 16 [.tup [], .tup [.cst (.int 0), .tup [], .cst .none]]) (.cst (.bool true))]) [.ret (.cst (.bool false))] [], .set 4 (.lst false [.cst .none, .tup [], .tup [.cst (.str "chain")], .tup [.cst (.str "chain"), .cst .none], .tup [.cst (.str "chain"), .tup []], .tup [.cst (.str "pair"), .cst (.int 0), .cst (.int 1)], .tup [.cst (.str "other"), .tup []], .lst false [.cst (.str "chain"), .tup [.cst (.int 0)]], .tup [.cst (.str "chain"), .tup [.cst (.int 9)]], .tup [.cst (.str "chain"), .tup [.cst .none]]]), .ifs (.or [.cmp .Gt (.blt .len false [.comp false [("odd", 18)] (.nm 18) .sq (.var 4) .yes (.cmp .IsNot (.call 13 [.tup [.tup [.cst (.int 2), .cst (.int 0), .cst (.int 1)], .tup [.cst (.int 2), .cst (.int 0), .cst (.int 1)]], .cst (.int 1), .var 18]) (.cst (.bool false))) (.var 18)]) (.cst (.int 0)), .cmp .IsNot (.call 13 [.tup [.tup [.cst (.int 2), .cst (.int 0), .cst (.int 1)]], .cst (.int 1), .tup [.cst (.str "chain"), .tup [.cst (.int 0)]]]) (.cst (.bool true))]) [.ret (.cst (.bool false))] [], .set 5 (.lst false [.cst .none, .tup [.cst (.int 1), .cst (.int 2)], .tup [.cst (.int 1), .cst (.int 0), .cst (.int 0)], .tup [.neg (.cst (.int 1)), .cst (.int 0), .cst (.int 1)], .tup [.cst (.int 1), .cst (.int 0), .cst (.bool true)], .lst false [.cst (.int 1), .cst (.int 0), .cst (.int 1)], .tup [.cst (.int 1), .cst (.int 0), .cst .none]]), .ifs (.or [.cmp .IsNot (.call 0 [.tup [.cst (.int 0), .neg (.cst (.int 3)), .cst (.int 4)]]) (.cst (.bool true)), .cmp .Gt (.blt .len false [.comp false [("odd", 18)] (.nm 18) .sq (.var 5) .yes (.cmp .IsNot (.call 0 [.var 18]) (.cst (.bool false))) (.var 18)]) (.cst (.int 0)), .cmp .IsNot (.call 1 [.cst (.bool true)]) (.cst (.bool false)), .cmp .IsNot (.call 1 [.neg (.cst (.int 2))]) (.cst (.bool true))]) [.ret (.cst (.bool false))] [], .ifs (.cmp .NotEq (.comp false [("odd", 18)] (.nm 18) .sq (.tup [.cst .none, .tup [], .tup [.cst (.bool true)], .lst false [.cst (.int 0)], .tup [.neg (.cst (.int 1))], .tup [.cst (.int 0)]]) .yes (.yes) (.call 5 [.tup [.tup [.cst (.int 1), .cst (.int 0), .cst (.int 1)]], .var 18])) (.lst false [.cst (.bool false), .cst (.bool false), .cst (.bool false), .cst (.bool false), .cst (.bool false), .cst (.bool true)])) [.ret (.cst (.bool false))] [], .tryx [.expr (.call 15 [.bin .Mult false (.tup [.tup [.cst (.int 1), .cst (.int 0), .cst (.int 1)]]) (.cst (.int 11))]), .ret (.cst (.bool false))] 34 6 false [.ret (.and [.cmp .Eq (.xat 6 "limit") (.cst (.str "blocks")), .cmp .Eq (.idx (.call 15 [.bin .Mult false (.tup [.tup [.cst (.int 1), .cst (.int 0), .cst (.int 1)]]) (.cst (.int 10))]) (.cst (.int 0))) (.cst (.int 10))])]]⟩
def p_law : PyDef := ⟨"law", ["script"], ["script", "state", "turn", "odds", "bad", "wrong", "error", "blocks", "due", "told", "size", "limit", "answer", "drawn", "value", "tree", "good", "height", "odd", "block", "k", "one"], st_law, g_law⟩
theorem sc_by {N ps : List Str} {sc : Scope} (h : (decide (sc.kind = .function) && !sc.isCoroutine && !sc.isGenerator && decide N.Nodup && decide (N.take ps.length = ps) && ps.all (fun x => decide (sc.names.lookup x = some .local) || decide (sc.names.lookup x = some .cell)) && sc.names.all (fun y => !decide (y.2 = .free))) = true) : FnScope N ps sc := by
  simp only [Bool.and_eq_true, Bool.not_eq_true', decide_eq_true_eq, List.all_eq_true, Bool.or_eq_true, decide_eq_false_iff_not] at h
  obtain ⟨⟨⟨⟨⟨⟨h1, h2⟩, h3⟩, h4⟩, h5⟩, h6⟩, h7⟩ := h
  exact ⟨h1, h2, h3, h4, h5, h6, h7⟩
theorem ok_is_block : DefOk tC tS p_is_block := ⟨rfl, rfl, sc_by (by decide +kernel), by decide +kernel⟩
theorem ok_is_integer : DefOk tC tS p_is_integer := ⟨rfl, rfl, sc_by (by decide +kernel), by decide +kernel⟩
theorem ok_meet : DefOk tC tS p_meet := ⟨rfl, rfl, sc_by (by decide +kernel), by decide +kernel⟩
theorem okH_meet : DefOk tH tS pH_meet := ⟨rfl, rfl, sc_by (by decide +kernel), by decide +kernel⟩
theorem ok_load : DefOk tC tS p_load := ⟨rfl, rfl, sc_by (by decide +kernel), by decide +kernel⟩
theorem okH_load : DefOk tH tS pH_load := ⟨rfl, rfl, sc_by (by decide +kernel), by decide +kernel⟩
theorem ok_pairs : DefOk tC tS p_pairs := ⟨rfl, rfl, sc_by (by decide +kernel), by decide +kernel⟩
theorem okH_pairs : DefOk tH tS pH_pairs := ⟨rfl, rfl, sc_by (by decide +kernel), by decide +kernel⟩
theorem ok_is_plan : DefOk tC tS p_is_plan := ⟨rfl, rfl, sc_by (by decide +kernel), by decide +kernel⟩
theorem ok_peak : DefOk tC tS p_peak := ⟨rfl, rfl, sc_by (by decide +kernel), by decide +kernel⟩
theorem ok_heights : DefOk tC tS p_heights := ⟨rfl, rfl, sc_by (by decide +kernel), by decide +kernel⟩
theorem okH_heights : DefOk tH tS pH_heights := ⟨rfl, rfl, sc_by (by decide +kernel), by decide +kernel⟩
theorem ok_decided : DefOk tC tS p_decided := ⟨rfl, rfl, sc_by (by decide +kernel), by decide +kernel⟩
theorem okH_decided : DefOk tH tS pH_decided := ⟨rfl, rfl, sc_by (by decide +kernel), by decide +kernel⟩
theorem ok_search : DefOk tC tS p_search := ⟨rfl, rfl, sc_by (by decide +kernel), by decide +kernel⟩
theorem okH_search : DefOk tH tS pH_search := ⟨rfl, rfl, sc_by (by decide +kernel), by decide +kernel⟩
theorem ok_apart : DefOk tC tS p_apart := ⟨rfl, rfl, sc_by (by decide +kernel), by decide +kernel⟩
theorem okH_apart : DefOk tH tS pH_apart := ⟨rfl, rfl, sc_by (by decide +kernel), by decide +kernel⟩
theorem ok_too_long : DefOk tC tS p_too_long := ⟨rfl, rfl, sc_by (by decide +kernel), by decide +kernel⟩
theorem okH_too_long : DefOk tH tS pH_too_long := ⟨rfl, rfl, sc_by (by decide +kernel), by decide +kernel⟩
theorem ok_long_chain : DefOk tC tS p_long_chain := ⟨rfl, rfl, sc_by (by decide +kernel), by decide +kernel⟩
theorem okH_long_chain : DefOk tH tS pH_long_chain := ⟨rfl, rfl, sc_by (by decide +kernel), by decide +kernel⟩
theorem ok_accepts_none : DefOk tC tS p_accepts_none := ⟨rfl, rfl, sc_by (by decide +kernel), by decide +kernel⟩
theorem ok_shows : DefOk tC tS p_shows := ⟨rfl, rfl, sc_by (by decide +kernel), by decide +kernel⟩
theorem ok_least_plan : DefOk tC tS p_least_plan := ⟨rfl, rfl, sc_by (by decide +kernel), by decide +kernel⟩
theorem okH_least_plan : DefOk tH tS pH_least_plan := ⟨rfl, rfl, sc_by (by decide +kernel), by decide +kernel⟩
theorem ok_accepts_least : DefOk tC tS p_accepts_least := ⟨rfl, rfl, sc_by (by decide +kernel), by decide +kernel⟩
theorem ok_first_fit : DefOk tC tS p_first_fit := ⟨rfl, rfl, sc_by (by decide +kernel), by decide +kernel⟩
theorem ok__law_state : DefOk tC tS p__law_state := ⟨rfl, rfl, sc_by (by decide +kernel), by decide +kernel⟩
theorem ok__law_take : DefOk tC tS p__law_take := ⟨rfl, rfl, sc_by (by decide +kernel), by decide +kernel⟩
theorem ok__law_pick : DefOk tC tS p__law_pick := ⟨rfl, rfl, sc_by (by decide +kernel), by decide +kernel⟩
theorem ok__law_blocks : DefOk tC tS p__law_blocks := ⟨rfl, rfl, sc_by (by decide +kernel), by decide +kernel⟩
theorem ok__law_meet : DefOk tC tS p__law_meet := ⟨rfl, rfl, sc_by (by decide +kernel), by decide +kernel⟩
theorem ok__law_pairs : DefOk tC tS p__law_pairs := ⟨rfl, rfl, sc_by (by decide +kernel), by decide +kernel⟩
theorem ok__law_plan : DefOk tC tS p__law_plan := ⟨rfl, rfl, sc_by (by decide +kernel), by decide +kernel⟩
theorem ok__law_peak : DefOk tC tS p__law_peak := ⟨rfl, rfl, sc_by (by decide +kernel), by decide +kernel⟩
theorem ok__law_least : DefOk tC tS p__law_least := ⟨rfl, rfl, sc_by (by decide +kernel), by decide +kernel⟩
theorem ok__law_fits : DefOk tC tS p__law_fits := ⟨rfl, rfl, sc_by (by decide +kernel), by decide +kernel⟩
theorem ok__law_shows : DefOk tC tS p__law_shows := ⟨rfl, rfl, sc_by (by decide +kernel), by decide +kernel⟩
theorem ok__law_bent : DefOk tC tS p__law_bent := ⟨rfl, rfl, sc_by (by decide +kernel), by decide +kernel⟩
theorem ok__law_first : DefOk tC tS p__law_first := ⟨rfl, rfl, sc_by (by decide +kernel), by decide +kernel⟩
theorem ok__law_below : DefOk tC tS p__law_below := ⟨rfl, rfl, sc_by (by decide +kernel), by decide +kernel⟩
theorem ok_law : DefOk tC tS p_law := ⟨rfl, rfl, sc_by (by decide +kernel), by decide +kernel⟩
def pd : List PyDef := [p_is_block, p_is_integer, p_meet, p_load, p_pairs, p_is_plan, p_peak, p_heights, p_decided, p_search, p_apart, p_too_long, p_long_chain, p_accepts_none, p_shows, p_least_plan, p_accepts_least, p_first_fit, p__law_state, p__law_take, p__law_pick, p__law_blocks, p__law_meet, p__law_pairs, p__law_plan, p__law_peak, p__law_least, p__law_fits, p__law_shows, p__law_bent, p__law_first, p__law_below, p_law]
def pdH : List PyDef := [p_is_block, p_is_integer, pH_meet, pH_load, pH_pairs, p_is_plan, p_peak, pH_heights, pH_decided, pH_search, pH_apart, pH_too_long, pH_long_chain, p_accepts_none, p_shows, pH_least_plan, p_accepts_least, p_first_fit, p__law_state, p__law_take, p__law_pick, p__law_blocks, p__law_meet, p__law_pairs, p__law_plan, p__law_peak, p__law_least, p__law_fits, p__law_shows, p__law_bent, p__law_first, p__law_below, p_law]
end K30
end
section
set_option Elab.async false
set_option linter.all false
set_option maxRecDepth 100000
set_option maxHeartbeats 0
namespace K30
open PySem PySem.Spec PyProof.Rows L2 L3
def h_is_block : He.DefD := ⟨("is_block", none), "is_block", "is_block", defArgs st_is_block, defBody st_is_block, defScope st_is_block, [], []⟩
def h_is_integer : He.DefD := ⟨("is_integer", none), "is_integer", "is_integer", defArgs st_is_integer, defBody st_is_integer, defScope st_is_integer, [], []⟩
def h_meet : He.DefD := ⟨("meet", none), "meet", "meet", defArgs st_meet, defBody st_meet, defScope st_meet, [], []⟩
def h_load : He.DefD := ⟨("load", none), "load", "load", defArgs st_load, defBody st_load, defScope st_load, [], []⟩
def h_pairs : He.DefD := ⟨("pairs", none), "pairs", "pairs", defArgs st_pairs, defBody st_pairs, defScope st_pairs, [], []⟩
def h_is_plan : He.DefD := ⟨("is_plan", none), "is_plan", "is_plan", defArgs st_is_plan, defBody st_is_plan, defScope st_is_plan, [], []⟩
def h_peak : He.DefD := ⟨("peak", none), "peak", "peak", defArgs st_peak, defBody st_peak, defScope st_peak, [], []⟩
def h_heights : He.DefD := ⟨("heights", none), "heights", "heights", defArgs st_heights, defBody st_heights, defScope st_heights, [], []⟩
def h_decided : He.DefD := ⟨("decided", none), "decided", "decided", defArgs st_decided, defBody st_decided, defScope st_decided, [], []⟩
def h_search : He.DefD := ⟨("search", none), "search", "search", defArgs st_search, defBody st_search, defScope st_search, [], []⟩
def h_apart : He.DefD := ⟨("apart", none), "apart", "apart", defArgs st_apart, defBody st_apart, defScope st_apart, [], []⟩
def h_too_long : He.DefD := ⟨("too_long", none), "too_long", "too_long", defArgs st_too_long, defBody st_too_long, defScope st_too_long, [], []⟩
def h_long_chain : He.DefD := ⟨("long_chain", none), "long_chain", "long_chain", defArgs st_long_chain, defBody st_long_chain, defScope st_long_chain, [], []⟩
def h_accepts_none : He.DefD := ⟨("accepts_none", none), "accepts_none", "accepts_none", defArgs st_accepts_none, defBody st_accepts_none, defScope st_accepts_none, [], []⟩
def h_shows : He.DefD := ⟨("shows", none), "shows", "shows", defArgs st_shows, defBody st_shows, defScope st_shows, [], []⟩
def h_least_plan : He.DefD := ⟨("least_plan", none), "least_plan", "least_plan", defArgs st_least_plan, defBody st_least_plan, defScope st_least_plan, [], []⟩
def h_accepts_least : He.DefD := ⟨("accepts_least", none), "accepts_least", "accepts_least", defArgs st_accepts_least, defBody st_accepts_least, defScope st_accepts_least, [], []⟩
def h_first_fit : He.DefD := ⟨("first_fit", none), "first_fit", "first_fit", defArgs st_first_fit, defBody st_first_fit, defScope st_first_fit, [], []⟩
def h__law_state : He.DefD := ⟨("_law_state", none), "_law_state", "_law_state", defArgs st__law_state, defBody st__law_state, defScope st__law_state, [], []⟩
def h__law_take : He.DefD := ⟨("_law_take", none), "_law_take", "_law_take", defArgs st__law_take, defBody st__law_take, defScope st__law_take, [], []⟩
def h__law_pick : He.DefD := ⟨("_law_pick", none), "_law_pick", "_law_pick", defArgs st__law_pick, defBody st__law_pick, defScope st__law_pick, [], []⟩
def h__law_blocks : He.DefD := ⟨("_law_blocks", none), "_law_blocks", "_law_blocks", defArgs st__law_blocks, defBody st__law_blocks, defScope st__law_blocks, [], []⟩
def h__law_meet : He.DefD := ⟨("_law_meet", none), "_law_meet", "_law_meet", defArgs st__law_meet, defBody st__law_meet, defScope st__law_meet, [], []⟩
def h__law_pairs : He.DefD := ⟨("_law_pairs", none), "_law_pairs", "_law_pairs", defArgs st__law_pairs, defBody st__law_pairs, defScope st__law_pairs, [], []⟩
def h__law_plan : He.DefD := ⟨("_law_plan", none), "_law_plan", "_law_plan", defArgs st__law_plan, defBody st__law_plan, defScope st__law_plan, [], []⟩
def h__law_peak : He.DefD := ⟨("_law_peak", none), "_law_peak", "_law_peak", defArgs st__law_peak, defBody st__law_peak, defScope st__law_peak, [], []⟩
def h__law_least : He.DefD := ⟨("_law_least", none), "_law_least", "_law_least", defArgs st__law_least, defBody st__law_least, defScope st__law_least, [], []⟩
def h__law_fits : He.DefD := ⟨("_law_fits", none), "_law_fits", "_law_fits", defArgs st__law_fits, defBody st__law_fits, defScope st__law_fits, [], []⟩
def h__law_shows : He.DefD := ⟨("_law_shows", none), "_law_shows", "_law_shows", defArgs st__law_shows, defBody st__law_shows, defScope st__law_shows, [], []⟩
def h__law_bent : He.DefD := ⟨("_law_bent", none), "_law_bent", "_law_bent", defArgs st__law_bent, defBody st__law_bent, defScope st__law_bent, [], []⟩
def h__law_first : He.DefD := ⟨("_law_first", none), "_law_first", "_law_first", defArgs st__law_first, defBody st__law_first, defScope st__law_first, [], []⟩
def h__law_below : He.DefD := ⟨("_law_below", none), "_law_below", "_law_below", defArgs st__law_below, defBody st__law_below, defScope st__law_below, [], []⟩
def h_law : He.DefD := ⟨("law", none), "law", "law", defArgs st_law, defBody st_law, defScope st_law, [], []⟩
def fn : List He.DefD := [h_is_block, h_is_integer, h_meet, h_load, h_pairs, h_is_plan, h_peak, h_heights, h_decided, h_search, h_apart, h_too_long, h_long_chain, h_accepts_none, h_shows, h_least_plan, h_accepts_least, h_first_fit, h__law_state, h__law_take, h__law_pick, h__law_blocks, h__law_meet, h__law_pairs, h__law_plan, h__law_peak, h__law_least, h__law_fits, h__law_shows, h__law_bent, h__law_first, h__law_below, h_law]
def fa : List He.Fa := [.glo "Wrong", .glo "Great", .glo "is_block", .glo "is_integer", .glo "meet", .glo "load", .glo "pairs", .glo "is_plan", .glo "peak", .glo "heights", .glo "decided", .glo "search", .glo "apart", .glo "too_long", .glo "long_chain", .glo "accepts_none", .glo "shows", .glo "least_plan", .glo "accepts_least", .glo "first_fit", .glo "_law_state", .glo "_law_take", .glo "_law_pick", .glo "_law_blocks", .glo "_law_meet", .glo "_law_pairs", .glo "_law_plan", .glo "_law_peak", .glo "_law_least", .glo "_law_fits", .glo "_law_shows", .glo "_law_bent", .glo "_law_first", .glo "_law_below", .glo "law", .free "ValueError", .free "abs", .free "all", .free "bool", .free "int", .free "isinstance", .free "len", .free "max", .free "range", .free "set", .free "sorted", .free "sum", .free "super", .free "tuple", .int "MOST_BLOCKS" 10, .exm "Great" "Great" true]
abbrev si_Great : Stmt := inClass (top 2) 0
def i_Great : IniD := ⟨"Great", "__init__", "Great.__init__", defArgs si_Great, defBody si_Great, defScope si_Great, 1, [("limit", 1)]⟩
theorem tx_Great : iniTx i_Great ["self", "limit", "__class__"] ["self", "limit"] 1 "self" = true := by decide +kernel
def ins : List IniD := [i_Great]
def loose0 : List Str := ["Wrong", "Great", "MOST_BLOCKS", "is_block", "is_integer", "meet", "load", "pairs", "is_plan", "peak", "heights", "decided", "search", "apart", "too_long", "long_chain", "accepts_none", "shows", "least_plan", "accepts_least", "first_fit", "_law_state", "_law_take", "_law_pick", "_law_blocks", "_law_meet", "_law_pairs", "_law_plan", "_law_peak", "_law_least"]
def loose1 : List Str := ["_law_fits", "_law_shows", "_law_bent", "_law_first", "_law_below"]
def loose : List Str := loose0 ++ loose1
abbrev R : PySem.W.OpenRow := PySem.W.OpenLaw.row PySem.Challenge.rw_axeswright_k30_whole_stores_in_one_memor
abbrev hk : PySem.W.Hook := hookI PySem.Challenge.pw_axeswright_k30_whole_stores_in_one_memor 6 fa fn ins
def ob (s : PySem.W.SharedT) : AlI := obsIG PySem.Challenge.pw_axeswright_k30_whole_stores_in_one_memor 6 fa fn ins (HandSHeadRun.getT s)
theorem ob_eq (s : PySem.W.SharedT) : ob s = hk.obs s.abs := obsIG_eq (HandSHeadRun.getT_eq s)
theorem run (w : World) : HandSHeadRun.RunEq R (PySem.W.view R.prog [38]) hk ob 4000 loose w := by
  intro os
  kernel_rfl
end K30
end
section
set_option Elab.async false
set_option linter.all false
set_option maxRecDepth 100000
set_option maxHeartbeats 0
namespace K30
open PySem PySem.Spec PyProof.Rows L2 L3
def nms : List Str := [("is_block" : Str), ("is_integer" : Str), ("meet" : Str), ("load" : Str), ("pairs" : Str), ("is_plan" : Str), ("peak" : Str), ("heights" : Str), ("decided" : Str), ("search" : Str), ("apart" : Str), ("too_long" : Str), ("long_chain" : Str), ("accepts_none" : Str), ("shows" : Str), ("least_plan" : Str), ("accepts_least" : Str), ("first_fit" : Str), ("_law_state" : Str), ("_law_take" : Str), ("_law_pick" : Str), ("_law_blocks" : Str), ("_law_meet" : Str), ("_law_pairs" : Str), ("_law_plan" : Str), ("_law_peak" : Str), ("_law_least" : Str), ("_law_fits" : Str), ("_law_shows" : Str), ("_law_bent" : Str), ("_law_first" : Str), ("_law_below" : Str), ("law" : Str), ("Wrong" : Str), ("Great" : Str)]
def gaK (K : PySem.W.Frag) (i : Nat) : Addr := He.ga K (nms.getD i ("" : Str))
section
variable {K : PySem.W.Frag}
theorem b_is_block (kV doc pm : Value) (an : Option Addr) (cdv ct : Value) (us : List Value) (hl : us.length = p_is_block.ps.length) : bindArgs (PySem.W.fnOf "is_block" "is_block" (defArgs st_is_block) (defBody st_is_block) (defScope st_is_block) .none kV doc pm an cdv ct) ⟨us, []⟩ = pure (p_is_block.ps.zip us) := match us, hl with | [_], _ => rfl
theorem gk_is_block : gaK K 0 = He.ga K "is_block" := by first | rfl | (unfold gaK nms; rfl) | kernel_rfl
theorem en_is_block (c : He.SaysD fa fn K) : ∃ fd, FunD K "is_block" "is_block" (defArgs st_is_block) (defBody st_is_block) (defScope st_is_block) [] [] (He.ga K "is_block") fd ∧ Binds K fd p_is_block.ps [] := by
  obtain ⟨fd, F⟩ := c.def_ 0 (d := h_is_block) rfl
  exact ⟨fd, F, FunD.bindsN (ps := p_is_block.ps) F b_is_block⟩
theorem b_is_integer (kV doc pm : Value) (an : Option Addr) (cdv ct : Value) (us : List Value) (hl : us.length = p_is_integer.ps.length) : bindArgs (PySem.W.fnOf "is_integer" "is_integer" (defArgs st_is_integer) (defBody st_is_integer) (defScope st_is_integer) .none kV doc pm an cdv ct) ⟨us, []⟩ = pure (p_is_integer.ps.zip us) := match us, hl with | [_], _ => rfl
theorem gk_is_integer : gaK K 1 = He.ga K "is_integer" := by first | rfl | (unfold gaK nms; rfl) | kernel_rfl
theorem en_is_integer (c : He.SaysD fa fn K) : ∃ fd, FunD K "is_integer" "is_integer" (defArgs st_is_integer) (defBody st_is_integer) (defScope st_is_integer) [] [] (He.ga K "is_integer") fd ∧ Binds K fd p_is_integer.ps [] := by
  obtain ⟨fd, F⟩ := c.def_ 1 (d := h_is_integer) rfl
  exact ⟨fd, F, FunD.bindsN (ps := p_is_integer.ps) F b_is_integer⟩
theorem b_meet (kV doc pm : Value) (an : Option Addr) (cdv ct : Value) (us : List Value) (hl : us.length = p_meet.ps.length) : bindArgs (PySem.W.fnOf "meet" "meet" (defArgs st_meet) (defBody st_meet) (defScope st_meet) .none kV doc pm an cdv ct) ⟨us, []⟩ = pure (p_meet.ps.zip us) := match us, hl with | [_, _], _ => rfl
theorem gk_meet : gaK K 2 = He.ga K "meet" := by first | rfl | (unfold gaK nms; rfl) | kernel_rfl
theorem en_meet (c : He.SaysD fa fn K) : ∃ fd, FunD K "meet" "meet" (defArgs st_meet) (defBody st_meet) (defScope st_meet) [] [] (He.ga K "meet") fd ∧ Binds K fd p_meet.ps [] := by
  obtain ⟨fd, F⟩ := c.def_ 2 (d := h_meet) rfl
  exact ⟨fd, F, FunD.bindsN (ps := p_meet.ps) F b_meet⟩
theorem b_load (kV doc pm : Value) (an : Option Addr) (cdv ct : Value) (us : List Value) (hl : us.length = p_load.ps.length) : bindArgs (PySem.W.fnOf "load" "load" (defArgs st_load) (defBody st_load) (defScope st_load) .none kV doc pm an cdv ct) ⟨us, []⟩ = pure (p_load.ps.zip us) := match us, hl with | [_], _ => rfl
theorem gk_load : gaK K 3 = He.ga K "load" := by first | rfl | (unfold gaK nms; rfl) | kernel_rfl
theorem en_load (c : He.SaysD fa fn K) : ∃ fd, FunD K "load" "load" (defArgs st_load) (defBody st_load) (defScope st_load) [] [] (He.ga K "load") fd ∧ Binds K fd p_load.ps [] := by
  obtain ⟨fd, F⟩ := c.def_ 3 (d := h_load) rfl
  exact ⟨fd, F, FunD.bindsN (ps := p_load.ps) F b_load⟩
theorem b_pairs (kV doc pm : Value) (an : Option Addr) (cdv ct : Value) (us : List Value) (hl : us.length = p_pairs.ps.length) : bindArgs (PySem.W.fnOf "pairs" "pairs" (defArgs st_pairs) (defBody st_pairs) (defScope st_pairs) .none kV doc pm an cdv ct) ⟨us, []⟩ = pure (p_pairs.ps.zip us) := match us, hl with | [_], _ => rfl
theorem gk_pairs : gaK K 4 = He.ga K "pairs" := by first | rfl | (unfold gaK nms; rfl) | kernel_rfl
theorem en_pairs (c : He.SaysD fa fn K) : ∃ fd, FunD K "pairs" "pairs" (defArgs st_pairs) (defBody st_pairs) (defScope st_pairs) [] [] (He.ga K "pairs") fd ∧ Binds K fd p_pairs.ps [] := by
  obtain ⟨fd, F⟩ := c.def_ 4 (d := h_pairs) rfl
  exact ⟨fd, F, FunD.bindsN (ps := p_pairs.ps) F b_pairs⟩
theorem b_is_plan (kV doc pm : Value) (an : Option Addr) (cdv ct : Value) (us : List Value) (hl : us.length = p_is_plan.ps.length) : bindArgs (PySem.W.fnOf "is_plan" "is_plan" (defArgs st_is_plan) (defBody st_is_plan) (defScope st_is_plan) .none kV doc pm an cdv ct) ⟨us, []⟩ = pure (p_is_plan.ps.zip us) := match us, hl with | [_, _], _ => rfl
theorem gk_is_plan : gaK K 5 = He.ga K "is_plan" := by first | rfl | (unfold gaK nms; rfl) | kernel_rfl
theorem en_is_plan (c : He.SaysD fa fn K) : ∃ fd, FunD K "is_plan" "is_plan" (defArgs st_is_plan) (defBody st_is_plan) (defScope st_is_plan) [] [] (He.ga K "is_plan") fd ∧ Binds K fd p_is_plan.ps [] := by
  obtain ⟨fd, F⟩ := c.def_ 5 (d := h_is_plan) rfl
  exact ⟨fd, F, FunD.bindsN (ps := p_is_plan.ps) F b_is_plan⟩
theorem b_peak (kV doc pm : Value) (an : Option Addr) (cdv ct : Value) (us : List Value) (hl : us.length = p_peak.ps.length) : bindArgs (PySem.W.fnOf "peak" "peak" (defArgs st_peak) (defBody st_peak) (defScope st_peak) .none kV doc pm an cdv ct) ⟨us, []⟩ = pure (p_peak.ps.zip us) := match us, hl with | [_, _], _ => rfl
theorem gk_peak : gaK K 6 = He.ga K "peak" := by first | rfl | (unfold gaK nms; rfl) | kernel_rfl
theorem en_peak (c : He.SaysD fa fn K) : ∃ fd, FunD K "peak" "peak" (defArgs st_peak) (defBody st_peak) (defScope st_peak) [] [] (He.ga K "peak") fd ∧ Binds K fd p_peak.ps [] := by
  obtain ⟨fd, F⟩ := c.def_ 6 (d := h_peak) rfl
  exact ⟨fd, F, FunD.bindsN (ps := p_peak.ps) F b_peak⟩
theorem b_heights (kV doc pm : Value) (an : Option Addr) (cdv ct : Value) (us : List Value) (hl : us.length = p_heights.ps.length) : bindArgs (PySem.W.fnOf "heights" "heights" (defArgs st_heights) (defBody st_heights) (defScope st_heights) .none kV doc pm an cdv ct) ⟨us, []⟩ = pure (p_heights.ps.zip us) := match us, hl with | [_, _], _ => rfl
theorem gk_heights : gaK K 7 = He.ga K "heights" := by first | rfl | (unfold gaK nms; rfl) | kernel_rfl
theorem en_heights (c : He.SaysD fa fn K) : ∃ fd, FunD K "heights" "heights" (defArgs st_heights) (defBody st_heights) (defScope st_heights) [] [] (He.ga K "heights") fd ∧ Binds K fd p_heights.ps [] := by
  obtain ⟨fd, F⟩ := c.def_ 7 (d := h_heights) rfl
  exact ⟨fd, F, FunD.bindsN (ps := p_heights.ps) F b_heights⟩
theorem b_decided (kV doc pm : Value) (an : Option Addr) (cdv ct : Value) (us : List Value) (hl : us.length = p_decided.ps.length) : bindArgs (PySem.W.fnOf "decided" "decided" (defArgs st_decided) (defBody st_decided) (defScope st_decided) .none kV doc pm an cdv ct) ⟨us, []⟩ = pure (p_decided.ps.zip us) := match us, hl with | [_, _], _ => rfl
theorem gk_decided : gaK K 8 = He.ga K "decided" := by first | rfl | (unfold gaK nms; rfl) | kernel_rfl
theorem en_decided (c : He.SaysD fa fn K) : ∃ fd, FunD K "decided" "decided" (defArgs st_decided) (defBody st_decided) (defScope st_decided) [] [] (He.ga K "decided") fd ∧ Binds K fd p_decided.ps [] := by
  obtain ⟨fd, F⟩ := c.def_ 8 (d := h_decided) rfl
  exact ⟨fd, F, FunD.bindsN (ps := p_decided.ps) F b_decided⟩
theorem b_search (kV doc pm : Value) (an : Option Addr) (cdv ct : Value) (us : List Value) (hl : us.length = p_search.ps.length) : bindArgs (PySem.W.fnOf "search" "search" (defArgs st_search) (defBody st_search) (defScope st_search) .none kV doc pm an cdv ct) ⟨us, []⟩ = pure (p_search.ps.zip us) := match us, hl with | [_, _, _, _], _ => rfl
theorem gk_search : gaK K 9 = He.ga K "search" := by first | rfl | (unfold gaK nms; rfl) | kernel_rfl
theorem en_search (c : He.SaysD fa fn K) : ∃ fd, FunD K "search" "search" (defArgs st_search) (defBody st_search) (defScope st_search) [] [] (He.ga K "search") fd ∧ Binds K fd p_search.ps [] := by
  obtain ⟨fd, F⟩ := c.def_ 9 (d := h_search) rfl
  exact ⟨fd, F, FunD.bindsN (ps := p_search.ps) F b_search⟩
theorem b_apart (kV doc pm : Value) (an : Option Addr) (cdv ct : Value) (us : List Value) (hl : us.length = p_apart.ps.length) : bindArgs (PySem.W.fnOf "apart" "apart" (defArgs st_apart) (defBody st_apart) (defScope st_apart) .none kV doc pm an cdv ct) ⟨us, []⟩ = pure (p_apart.ps.zip us) := match us, hl with | [_, _, _], _ => rfl
theorem gk_apart : gaK K 10 = He.ga K "apart" := by first | rfl | (unfold gaK nms; rfl) | kernel_rfl
theorem en_apart (c : He.SaysD fa fn K) : ∃ fd, FunD K "apart" "apart" (defArgs st_apart) (defBody st_apart) (defScope st_apart) [] [] (He.ga K "apart") fd ∧ Binds K fd p_apart.ps [] := by
  obtain ⟨fd, F⟩ := c.def_ 10 (d := h_apart) rfl
  exact ⟨fd, F, FunD.bindsN (ps := p_apart.ps) F b_apart⟩
theorem b_too_long (kV doc pm : Value) (an : Option Addr) (cdv ct : Value) (us : List Value) (hl : us.length = p_too_long.ps.length) : bindArgs (PySem.W.fnOf "too_long" "too_long" (defArgs st_too_long) (defBody st_too_long) (defScope st_too_long) .none kV doc pm an cdv ct) ⟨us, []⟩ = pure (p_too_long.ps.zip us) := match us, hl with | [_, _, _], _ => rfl
theorem gk_too_long : gaK K 11 = He.ga K "too_long" := by first | rfl | (unfold gaK nms; rfl) | kernel_rfl
theorem en_too_long (c : He.SaysD fa fn K) : ∃ fd, FunD K "too_long" "too_long" (defArgs st_too_long) (defBody st_too_long) (defScope st_too_long) [] [] (He.ga K "too_long") fd ∧ Binds K fd p_too_long.ps [] := by
  obtain ⟨fd, F⟩ := c.def_ 11 (d := h_too_long) rfl
  exact ⟨fd, F, FunD.bindsN (ps := p_too_long.ps) F b_too_long⟩
theorem b_long_chain (kV doc pm : Value) (an : Option Addr) (cdv ct : Value) (us : List Value) (hl : us.length = p_long_chain.ps.length) : bindArgs (PySem.W.fnOf "long_chain" "long_chain" (defArgs st_long_chain) (defBody st_long_chain) (defScope st_long_chain) .none kV doc pm an cdv ct) ⟨us, []⟩ = pure (p_long_chain.ps.zip us) := match us, hl with | [_, _, _, _], _ => rfl
theorem gk_long_chain : gaK K 12 = He.ga K "long_chain" := by first | rfl | (unfold gaK nms; rfl) | kernel_rfl
theorem en_long_chain (c : He.SaysD fa fn K) : ∃ fd, FunD K "long_chain" "long_chain" (defArgs st_long_chain) (defBody st_long_chain) (defScope st_long_chain) [] [] (He.ga K "long_chain") fd ∧ Binds K fd p_long_chain.ps [] := by
  obtain ⟨fd, F⟩ := c.def_ 12 (d := h_long_chain) rfl
  exact ⟨fd, F, FunD.bindsN (ps := p_long_chain.ps) F b_long_chain⟩
theorem b_accepts_none (kV doc pm : Value) (an : Option Addr) (cdv ct : Value) (us : List Value) (hl : us.length = p_accepts_none.ps.length) : bindArgs (PySem.W.fnOf "accepts_none" "accepts_none" (defArgs st_accepts_none) (defBody st_accepts_none) (defScope st_accepts_none) .none kV doc pm an cdv ct) ⟨us, []⟩ = pure (p_accepts_none.ps.zip us) := match us, hl with | [_, _, _], _ => rfl
theorem gk_accepts_none : gaK K 13 = He.ga K "accepts_none" := by first | rfl | (unfold gaK nms; rfl) | kernel_rfl
theorem en_accepts_none (c : He.SaysD fa fn K) : ∃ fd, FunD K "accepts_none" "accepts_none" (defArgs st_accepts_none) (defBody st_accepts_none) (defScope st_accepts_none) [] [] (He.ga K "accepts_none") fd ∧ Binds K fd p_accepts_none.ps [] := by
  obtain ⟨fd, F⟩ := c.def_ 13 (d := h_accepts_none) rfl
  exact ⟨fd, F, FunD.bindsN (ps := p_accepts_none.ps) F b_accepts_none⟩
theorem b_shows (kV doc pm : Value) (an : Option Addr) (cdv ct : Value) (us : List Value) (hl : us.length = p_shows.ps.length) : bindArgs (PySem.W.fnOf "shows" "shows" (defArgs st_shows) (defBody st_shows) (defScope st_shows) .none kV doc pm an cdv ct) ⟨us, []⟩ = pure (p_shows.ps.zip us) := match us, hl with | [_, _, _, _, _], _ => rfl
theorem gk_shows : gaK K 14 = He.ga K "shows" := by first | rfl | (unfold gaK nms; rfl) | kernel_rfl
theorem en_shows (c : He.SaysD fa fn K) : ∃ fd, FunD K "shows" "shows" (defArgs st_shows) (defBody st_shows) (defScope st_shows) [] [] (He.ga K "shows") fd ∧ Binds K fd p_shows.ps [] := by
  obtain ⟨fd, F⟩ := c.def_ 14 (d := h_shows) rfl
  exact ⟨fd, F, FunD.bindsN (ps := p_shows.ps) F b_shows⟩
theorem b_least_plan (kV doc pm : Value) (an : Option Addr) (cdv ct : Value) (us : List Value) (hl : us.length = p_least_plan.ps.length) : bindArgs (PySem.W.fnOf "least_plan" "least_plan" (defArgs st_least_plan) (defBody st_least_plan) (defScope st_least_plan) .none kV doc pm an cdv ct) ⟨us, []⟩ = pure (p_least_plan.ps.zip us) := match us, hl with | [_], _ => rfl
theorem gk_least_plan : gaK K 15 = He.ga K "least_plan" := by first | rfl | (unfold gaK nms; rfl) | kernel_rfl
theorem en_least_plan (c : He.SaysD fa fn K) : ∃ fd, FunD K "least_plan" "least_plan" (defArgs st_least_plan) (defBody st_least_plan) (defScope st_least_plan) [] [] (He.ga K "least_plan") fd ∧ Binds K fd p_least_plan.ps [] := by
  obtain ⟨fd, F⟩ := c.def_ 15 (d := h_least_plan) rfl
  exact ⟨fd, F, FunD.bindsN (ps := p_least_plan.ps) F b_least_plan⟩
theorem b_accepts_least (kV doc pm : Value) (an : Option Addr) (cdv ct : Value) (us : List Value) (hl : us.length = p_accepts_least.ps.length) : bindArgs (PySem.W.fnOf "accepts_least" "accepts_least" (defArgs st_accepts_least) (defBody st_accepts_least) (defScope st_accepts_least) .none kV doc pm an cdv ct) ⟨us, []⟩ = pure (p_accepts_least.ps.zip us) := match us, hl with | [_, _], _ => rfl
theorem gk_accepts_least : gaK K 16 = He.ga K "accepts_least" := by first | rfl | (unfold gaK nms; rfl) | kernel_rfl
theorem en_accepts_least (c : He.SaysD fa fn K) : ∃ fd, FunD K "accepts_least" "accepts_least" (defArgs st_accepts_least) (defBody st_accepts_least) (defScope st_accepts_least) [] [] (He.ga K "accepts_least") fd ∧ Binds K fd p_accepts_least.ps [] := by
  obtain ⟨fd, F⟩ := c.def_ 16 (d := h_accepts_least) rfl
  exact ⟨fd, F, FunD.bindsN (ps := p_accepts_least.ps) F b_accepts_least⟩
theorem b_first_fit (kV doc pm : Value) (an : Option Addr) (cdv ct : Value) (us : List Value) (hl : us.length = p_first_fit.ps.length) : bindArgs (PySem.W.fnOf "first_fit" "first_fit" (defArgs st_first_fit) (defBody st_first_fit) (defScope st_first_fit) .none kV doc pm an cdv ct) ⟨us, []⟩ = pure (p_first_fit.ps.zip us) := match us, hl with | [_], _ => rfl
theorem gk_first_fit : gaK K 17 = He.ga K "first_fit" := by first | rfl | (unfold gaK nms; rfl) | kernel_rfl
theorem en_first_fit (c : He.SaysD fa fn K) : ∃ fd, FunD K "first_fit" "first_fit" (defArgs st_first_fit) (defBody st_first_fit) (defScope st_first_fit) [] [] (He.ga K "first_fit") fd ∧ Binds K fd p_first_fit.ps [] := by
  obtain ⟨fd, F⟩ := c.def_ 17 (d := h_first_fit) rfl
  exact ⟨fd, F, FunD.bindsN (ps := p_first_fit.ps) F b_first_fit⟩
theorem b__law_state (kV doc pm : Value) (an : Option Addr) (cdv ct : Value) (us : List Value) (hl : us.length = p__law_state.ps.length) : bindArgs (PySem.W.fnOf "_law_state" "_law_state" (defArgs st__law_state) (defBody st__law_state) (defScope st__law_state) .none kV doc pm an cdv ct) ⟨us, []⟩ = pure (p__law_state.ps.zip us) := match us, hl with | [_], _ => rfl
theorem gk__law_state : gaK K 18 = He.ga K "_law_state" := by first | rfl | (unfold gaK nms; rfl) | kernel_rfl
theorem en__law_state (c : He.SaysD fa fn K) : ∃ fd, FunD K "_law_state" "_law_state" (defArgs st__law_state) (defBody st__law_state) (defScope st__law_state) [] [] (He.ga K "_law_state") fd ∧ Binds K fd p__law_state.ps [] := by
  obtain ⟨fd, F⟩ := c.def_ 18 (d := h__law_state) rfl
  exact ⟨fd, F, FunD.bindsN (ps := p__law_state.ps) F b__law_state⟩
theorem b__law_take (kV doc pm : Value) (an : Option Addr) (cdv ct : Value) (us : List Value) (hl : us.length = p__law_take.ps.length) : bindArgs (PySem.W.fnOf "_law_take" "_law_take" (defArgs st__law_take) (defBody st__law_take) (defScope st__law_take) .none kV doc pm an cdv ct) ⟨us, []⟩ = pure (p__law_take.ps.zip us) := match us, hl with | [_, _], _ => rfl
theorem gk__law_take : gaK K 19 = He.ga K "_law_take" := by first | rfl | (unfold gaK nms; rfl) | kernel_rfl
theorem en__law_take (c : He.SaysD fa fn K) : ∃ fd, FunD K "_law_take" "_law_take" (defArgs st__law_take) (defBody st__law_take) (defScope st__law_take) [] [] (He.ga K "_law_take") fd ∧ Binds K fd p__law_take.ps [] := by
  obtain ⟨fd, F⟩ := c.def_ 19 (d := h__law_take) rfl
  exact ⟨fd, F, FunD.bindsN (ps := p__law_take.ps) F b__law_take⟩
theorem b__law_pick (kV doc pm : Value) (an : Option Addr) (cdv ct : Value) (us : List Value) (hl : us.length = p__law_pick.ps.length) : bindArgs (PySem.W.fnOf "_law_pick" "_law_pick" (defArgs st__law_pick) (defBody st__law_pick) (defScope st__law_pick) .none kV doc pm an cdv ct) ⟨us, []⟩ = pure (p__law_pick.ps.zip us) := match us, hl with | [_, _], _ => rfl
theorem gk__law_pick : gaK K 20 = He.ga K "_law_pick" := by first | rfl | (unfold gaK nms; rfl) | kernel_rfl
theorem en__law_pick (c : He.SaysD fa fn K) : ∃ fd, FunD K "_law_pick" "_law_pick" (defArgs st__law_pick) (defBody st__law_pick) (defScope st__law_pick) [] [] (He.ga K "_law_pick") fd ∧ Binds K fd p__law_pick.ps [] := by
  obtain ⟨fd, F⟩ := c.def_ 20 (d := h__law_pick) rfl
  exact ⟨fd, F, FunD.bindsN (ps := p__law_pick.ps) F b__law_pick⟩
theorem b__law_blocks (kV doc pm : Value) (an : Option Addr) (cdv ct : Value) (us : List Value) (hl : us.length = p__law_blocks.ps.length) : bindArgs (PySem.W.fnOf "_law_blocks" "_law_blocks" (defArgs st__law_blocks) (defBody st__law_blocks) (defScope st__law_blocks) .none kV doc pm an cdv ct) ⟨us, []⟩ = pure (p__law_blocks.ps.zip us) := match us, hl with | [_, _], _ => rfl
theorem gk__law_blocks : gaK K 21 = He.ga K "_law_blocks" := by first | rfl | (unfold gaK nms; rfl) | kernel_rfl
theorem en__law_blocks (c : He.SaysD fa fn K) : ∃ fd, FunD K "_law_blocks" "_law_blocks" (defArgs st__law_blocks) (defBody st__law_blocks) (defScope st__law_blocks) [] [] (He.ga K "_law_blocks") fd ∧ Binds K fd p__law_blocks.ps [] := by
  obtain ⟨fd, F⟩ := c.def_ 21 (d := h__law_blocks) rfl
  exact ⟨fd, F, FunD.bindsN (ps := p__law_blocks.ps) F b__law_blocks⟩
theorem b__law_meet (kV doc pm : Value) (an : Option Addr) (cdv ct : Value) (us : List Value) (hl : us.length = p__law_meet.ps.length) : bindArgs (PySem.W.fnOf "_law_meet" "_law_meet" (defArgs st__law_meet) (defBody st__law_meet) (defScope st__law_meet) .none kV doc pm an cdv ct) ⟨us, []⟩ = pure (p__law_meet.ps.zip us) := match us, hl with | [_, _], _ => rfl
theorem gk__law_meet : gaK K 22 = He.ga K "_law_meet" := by first | rfl | (unfold gaK nms; rfl) | kernel_rfl
theorem en__law_meet (c : He.SaysD fa fn K) : ∃ fd, FunD K "_law_meet" "_law_meet" (defArgs st__law_meet) (defBody st__law_meet) (defScope st__law_meet) [] [] (He.ga K "_law_meet") fd ∧ Binds K fd p__law_meet.ps [] := by
  obtain ⟨fd, F⟩ := c.def_ 22 (d := h__law_meet) rfl
  exact ⟨fd, F, FunD.bindsN (ps := p__law_meet.ps) F b__law_meet⟩
theorem b__law_pairs (kV doc pm : Value) (an : Option Addr) (cdv ct : Value) (us : List Value) (hl : us.length = p__law_pairs.ps.length) : bindArgs (PySem.W.fnOf "_law_pairs" "_law_pairs" (defArgs st__law_pairs) (defBody st__law_pairs) (defScope st__law_pairs) .none kV doc pm an cdv ct) ⟨us, []⟩ = pure (p__law_pairs.ps.zip us) := match us, hl with | [_], _ => rfl
theorem gk__law_pairs : gaK K 23 = He.ga K "_law_pairs" := by first | rfl | (unfold gaK nms; rfl) | kernel_rfl
theorem en__law_pairs (c : He.SaysD fa fn K) : ∃ fd, FunD K "_law_pairs" "_law_pairs" (defArgs st__law_pairs) (defBody st__law_pairs) (defScope st__law_pairs) [] [] (He.ga K "_law_pairs") fd ∧ Binds K fd p__law_pairs.ps [] := by
  obtain ⟨fd, F⟩ := c.def_ 23 (d := h__law_pairs) rfl
  exact ⟨fd, F, FunD.bindsN (ps := p__law_pairs.ps) F b__law_pairs⟩
theorem b__law_plan (kV doc pm : Value) (an : Option Addr) (cdv ct : Value) (us : List Value) (hl : us.length = p__law_plan.ps.length) : bindArgs (PySem.W.fnOf "_law_plan" "_law_plan" (defArgs st__law_plan) (defBody st__law_plan) (defScope st__law_plan) .none kV doc pm an cdv ct) ⟨us, []⟩ = pure (p__law_plan.ps.zip us) := match us, hl with | [_, _], _ => rfl
theorem gk__law_plan : gaK K 24 = He.ga K "_law_plan" := by first | rfl | (unfold gaK nms; rfl) | kernel_rfl
theorem en__law_plan (c : He.SaysD fa fn K) : ∃ fd, FunD K "_law_plan" "_law_plan" (defArgs st__law_plan) (defBody st__law_plan) (defScope st__law_plan) [] [] (He.ga K "_law_plan") fd ∧ Binds K fd p__law_plan.ps [] := by
  obtain ⟨fd, F⟩ := c.def_ 24 (d := h__law_plan) rfl
  exact ⟨fd, F, FunD.bindsN (ps := p__law_plan.ps) F b__law_plan⟩
theorem b__law_peak (kV doc pm : Value) (an : Option Addr) (cdv ct : Value) (us : List Value) (hl : us.length = p__law_peak.ps.length) : bindArgs (PySem.W.fnOf "_law_peak" "_law_peak" (defArgs st__law_peak) (defBody st__law_peak) (defScope st__law_peak) .none kV doc pm an cdv ct) ⟨us, []⟩ = pure (p__law_peak.ps.zip us) := match us, hl with | [_, _], _ => rfl
theorem gk__law_peak : gaK K 25 = He.ga K "_law_peak" := by first | rfl | (unfold gaK nms; rfl) | kernel_rfl
theorem en__law_peak (c : He.SaysD fa fn K) : ∃ fd, FunD K "_law_peak" "_law_peak" (defArgs st__law_peak) (defBody st__law_peak) (defScope st__law_peak) [] [] (He.ga K "_law_peak") fd ∧ Binds K fd p__law_peak.ps [] := by
  obtain ⟨fd, F⟩ := c.def_ 25 (d := h__law_peak) rfl
  exact ⟨fd, F, FunD.bindsN (ps := p__law_peak.ps) F b__law_peak⟩
theorem b__law_least (kV doc pm : Value) (an : Option Addr) (cdv ct : Value) (us : List Value) (hl : us.length = p__law_least.ps.length) : bindArgs (PySem.W.fnOf "_law_least" "_law_least" (defArgs st__law_least) (defBody st__law_least) (defScope st__law_least) .none kV doc pm an cdv ct) ⟨us, []⟩ = pure (p__law_least.ps.zip us) := match us, hl with | [_], _ => rfl
theorem gk__law_least : gaK K 26 = He.ga K "_law_least" := by first | rfl | (unfold gaK nms; rfl) | kernel_rfl
theorem en__law_least (c : He.SaysD fa fn K) : ∃ fd, FunD K "_law_least" "_law_least" (defArgs st__law_least) (defBody st__law_least) (defScope st__law_least) [] [] (He.ga K "_law_least") fd ∧ Binds K fd p__law_least.ps [] := by
  obtain ⟨fd, F⟩ := c.def_ 26 (d := h__law_least) rfl
  exact ⟨fd, F, FunD.bindsN (ps := p__law_least.ps) F b__law_least⟩
theorem b__law_fits (kV doc pm : Value) (an : Option Addr) (cdv ct : Value) (us : List Value) (hl : us.length = p__law_fits.ps.length) : bindArgs (PySem.W.fnOf "_law_fits" "_law_fits" (defArgs st__law_fits) (defBody st__law_fits) (defScope st__law_fits) .none kV doc pm an cdv ct) ⟨us, []⟩ = pure (p__law_fits.ps.zip us) := match us, hl with | [_, _, _], _ => rfl
theorem gk__law_fits : gaK K 27 = He.ga K "_law_fits" := by first | rfl | (unfold gaK nms; rfl) | kernel_rfl
theorem en__law_fits (c : He.SaysD fa fn K) : ∃ fd, FunD K "_law_fits" "_law_fits" (defArgs st__law_fits) (defBody st__law_fits) (defScope st__law_fits) [] [] (He.ga K "_law_fits") fd ∧ Binds K fd p__law_fits.ps [] := by
  obtain ⟨fd, F⟩ := c.def_ 27 (d := h__law_fits) rfl
  exact ⟨fd, F, FunD.bindsN (ps := p__law_fits.ps) F b__law_fits⟩
theorem b__law_shows (kV doc pm : Value) (an : Option Addr) (cdv ct : Value) (us : List Value) (hl : us.length = p__law_shows.ps.length) : bindArgs (PySem.W.fnOf "_law_shows" "_law_shows" (defArgs st__law_shows) (defBody st__law_shows) (defScope st__law_shows) .none kV doc pm an cdv ct) ⟨us, []⟩ = pure (p__law_shows.ps.zip us) := match us, hl with | [_, _, _, _], _ => rfl
theorem gk__law_shows : gaK K 28 = He.ga K "_law_shows" := by first | rfl | (unfold gaK nms; rfl) | kernel_rfl
theorem en__law_shows (c : He.SaysD fa fn K) : ∃ fd, FunD K "_law_shows" "_law_shows" (defArgs st__law_shows) (defBody st__law_shows) (defScope st__law_shows) [] [] (He.ga K "_law_shows") fd ∧ Binds K fd p__law_shows.ps [] := by
  obtain ⟨fd, F⟩ := c.def_ 28 (d := h__law_shows) rfl
  exact ⟨fd, F, FunD.bindsN (ps := p__law_shows.ps) F b__law_shows⟩
theorem b__law_bent (kV doc pm : Value) (an : Option Addr) (cdv ct : Value) (us : List Value) (hl : us.length = p__law_bent.ps.length) : bindArgs (PySem.W.fnOf "_law_bent" "_law_bent" (defArgs st__law_bent) (defBody st__law_bent) (defScope st__law_bent) .none kV doc pm an cdv ct) ⟨us, []⟩ = pure (p__law_bent.ps.zip us) := match us, hl with | [_, _], _ => rfl
theorem gk__law_bent : gaK K 29 = He.ga K "_law_bent" := by first | rfl | (unfold gaK nms; rfl) | kernel_rfl
theorem en__law_bent (c : He.SaysD fa fn K) : ∃ fd, FunD K "_law_bent" "_law_bent" (defArgs st__law_bent) (defBody st__law_bent) (defScope st__law_bent) [] [] (He.ga K "_law_bent") fd ∧ Binds K fd p__law_bent.ps [] := by
  obtain ⟨fd, F⟩ := c.def_ 29 (d := h__law_bent) rfl
  exact ⟨fd, F, FunD.bindsN (ps := p__law_bent.ps) F b__law_bent⟩
theorem b__law_first (kV doc pm : Value) (an : Option Addr) (cdv ct : Value) (us : List Value) (hl : us.length = p__law_first.ps.length) : bindArgs (PySem.W.fnOf "_law_first" "_law_first" (defArgs st__law_first) (defBody st__law_first) (defScope st__law_first) .none kV doc pm an cdv ct) ⟨us, []⟩ = pure (p__law_first.ps.zip us) := match us, hl with | [_], _ => rfl
theorem gk__law_first : gaK K 30 = He.ga K "_law_first" := by first | rfl | (unfold gaK nms; rfl) | kernel_rfl
theorem en__law_first (c : He.SaysD fa fn K) : ∃ fd, FunD K "_law_first" "_law_first" (defArgs st__law_first) (defBody st__law_first) (defScope st__law_first) [] [] (He.ga K "_law_first") fd ∧ Binds K fd p__law_first.ps [] := by
  obtain ⟨fd, F⟩ := c.def_ 30 (d := h__law_first) rfl
  exact ⟨fd, F, FunD.bindsN (ps := p__law_first.ps) F b__law_first⟩
theorem b__law_below (kV doc pm : Value) (an : Option Addr) (cdv ct : Value) (us : List Value) (hl : us.length = p__law_below.ps.length) : bindArgs (PySem.W.fnOf "_law_below" "_law_below" (defArgs st__law_below) (defBody st__law_below) (defScope st__law_below) .none kV doc pm an cdv ct) ⟨us, []⟩ = pure (p__law_below.ps.zip us) := match us, hl with | [_, _], _ => rfl
theorem gk__law_below : gaK K 31 = He.ga K "_law_below" := by first | rfl | (unfold gaK nms; rfl) | kernel_rfl
theorem en__law_below (c : He.SaysD fa fn K) : ∃ fd, FunD K "_law_below" "_law_below" (defArgs st__law_below) (defBody st__law_below) (defScope st__law_below) [] [] (He.ga K "_law_below") fd ∧ Binds K fd p__law_below.ps [] := by
  obtain ⟨fd, F⟩ := c.def_ 31 (d := h__law_below) rfl
  exact ⟨fd, F, FunD.bindsN (ps := p__law_below.ps) F b__law_below⟩
theorem b_law (kV doc pm : Value) (an : Option Addr) (cdv ct : Value) (us : List Value) (hl : us.length = p_law.ps.length) : bindArgs (PySem.W.fnOf "law" "law" (defArgs st_law) (defBody st_law) (defScope st_law) .none kV doc pm an cdv ct) ⟨us, []⟩ = pure (p_law.ps.zip us) := match us, hl with | [_], _ => rfl
theorem gk_law : gaK K 32 = He.ga K "law" := by first | rfl | (unfold gaK nms; rfl) | kernel_rfl
theorem en_law (c : He.SaysD fa fn K) : ∃ fd, FunD K "law" "law" (defArgs st_law) (defBody st_law) (defScope st_law) [] [] (He.ga K "law") fd ∧ Binds K fd p_law.ps [] := by
  obtain ⟨fd, F⟩ := c.def_ 32 (d := h_law) rfl
  exact ⟨fd, F, FunD.bindsN (ps := p_law.ps) F b_law⟩
variable {P : Program} {w : World} {mg : Str → Option Value} {base h : Heap} {xa : Option (Addr × Addr × List (Str × V))}
theorem mg_of (X : K.In h) (G : h.Ns mainGlobals mg) (c : He.SaysD fa fn K) {x : Str} (hx : He.Fa.glo x ∈ fa) : mg x = some (.ref (He.ga K x)) := by
  obtain ⟨i, hi, e⟩ := List.mem_iff_getElem.mp hx
  exact He.glo_ok X G (c.fact i (by rw [List.getElem?_eq_getElem hi, e]))
theorem mg_no (X : K.In h) (G : h.Ns mainGlobals mg) (c : He.SaysD fa fn K) {x : Str} (hx : He.Fa.free x ∈ fa) : mg x = none := by
  obtain ⟨i, hi, e⟩ := List.mem_iff_getElem.mp hx
  exact He.free_ok X G (c.fact i (by rw [List.getElem?_eq_getElem hi, e]))
theorem fns_tC (X : K.In h) (G : h.Ns mainGlobals mg) (c : He.SaysD fa fn K) : FnsOk ⟨P, w, K, mg, base, gaK K, xa⟩ tC tS pd
  | 0, x, e => by
    have e : (some (some ("is_block" : Str)) : Option (Option Str)) = some (some x) := e
    cases e
    obtain ⟨fd, F, B⟩ := en_is_block c
    refine ⟨p_is_block, fd, rfl, rfl, ?_, ?_, B, ok_is_block⟩
    · show FunD K "is_block" "is_block" (defArgs st_is_block) (defBody st_is_block) (defScope st_is_block) [] [] (gaK K 0) fd
      rw [gk_is_block]; exact F
    · show mg "is_block" = some (.ref (gaK K 0))
      rw [gk_is_block]; exact mg_of X G c (x := "is_block") (by simp [fa])
  | 1, x, e => by
    have e : (some (some ("is_integer" : Str)) : Option (Option Str)) = some (some x) := e
    cases e
    obtain ⟨fd, F, B⟩ := en_is_integer c
    refine ⟨p_is_integer, fd, rfl, rfl, ?_, ?_, B, ok_is_integer⟩
    · show FunD K "is_integer" "is_integer" (defArgs st_is_integer) (defBody st_is_integer) (defScope st_is_integer) [] [] (gaK K 1) fd
      rw [gk_is_integer]; exact F
    · show mg "is_integer" = some (.ref (gaK K 1))
      rw [gk_is_integer]; exact mg_of X G c (x := "is_integer") (by simp [fa])
  | 2, x, e => by
    have e : (some (some ("meet" : Str)) : Option (Option Str)) = some (some x) := e
    cases e
    obtain ⟨fd, F, B⟩ := en_meet c
    refine ⟨p_meet, fd, rfl, rfl, ?_, ?_, B, ok_meet⟩
    · show FunD K "meet" "meet" (defArgs st_meet) (defBody st_meet) (defScope st_meet) [] [] (gaK K 2) fd
      rw [gk_meet]; exact F
    · show mg "meet" = some (.ref (gaK K 2))
      rw [gk_meet]; exact mg_of X G c (x := "meet") (by simp [fa])
  | 3, x, e => by
    have e : (some (some ("load" : Str)) : Option (Option Str)) = some (some x) := e
    cases e
    obtain ⟨fd, F, B⟩ := en_load c
    refine ⟨p_load, fd, rfl, rfl, ?_, ?_, B, ok_load⟩
    · show FunD K "load" "load" (defArgs st_load) (defBody st_load) (defScope st_load) [] [] (gaK K 3) fd
      rw [gk_load]; exact F
    · show mg "load" = some (.ref (gaK K 3))
      rw [gk_load]; exact mg_of X G c (x := "load") (by simp [fa])
  | 4, x, e => by
    have e : (some (some ("pairs" : Str)) : Option (Option Str)) = some (some x) := e
    cases e
    obtain ⟨fd, F, B⟩ := en_pairs c
    refine ⟨p_pairs, fd, rfl, rfl, ?_, ?_, B, ok_pairs⟩
    · show FunD K "pairs" "pairs" (defArgs st_pairs) (defBody st_pairs) (defScope st_pairs) [] [] (gaK K 4) fd
      rw [gk_pairs]; exact F
    · show mg "pairs" = some (.ref (gaK K 4))
      rw [gk_pairs]; exact mg_of X G c (x := "pairs") (by simp [fa])
  | 5, x, e => by
    have e : (some (some ("is_plan" : Str)) : Option (Option Str)) = some (some x) := e
    cases e
    obtain ⟨fd, F, B⟩ := en_is_plan c
    refine ⟨p_is_plan, fd, rfl, rfl, ?_, ?_, B, ok_is_plan⟩
    · show FunD K "is_plan" "is_plan" (defArgs st_is_plan) (defBody st_is_plan) (defScope st_is_plan) [] [] (gaK K 5) fd
      rw [gk_is_plan]; exact F
    · show mg "is_plan" = some (.ref (gaK K 5))
      rw [gk_is_plan]; exact mg_of X G c (x := "is_plan") (by simp [fa])
  | 6, x, e => by
    have e : (some (some ("peak" : Str)) : Option (Option Str)) = some (some x) := e
    cases e
    obtain ⟨fd, F, B⟩ := en_peak c
    refine ⟨p_peak, fd, rfl, rfl, ?_, ?_, B, ok_peak⟩
    · show FunD K "peak" "peak" (defArgs st_peak) (defBody st_peak) (defScope st_peak) [] [] (gaK K 6) fd
      rw [gk_peak]; exact F
    · show mg "peak" = some (.ref (gaK K 6))
      rw [gk_peak]; exact mg_of X G c (x := "peak") (by simp [fa])
  | 7, x, e => by
    have e : (some (some ("heights" : Str)) : Option (Option Str)) = some (some x) := e
    cases e
    obtain ⟨fd, F, B⟩ := en_heights c
    refine ⟨p_heights, fd, rfl, rfl, ?_, ?_, B, ok_heights⟩
    · show FunD K "heights" "heights" (defArgs st_heights) (defBody st_heights) (defScope st_heights) [] [] (gaK K 7) fd
      rw [gk_heights]; exact F
    · show mg "heights" = some (.ref (gaK K 7))
      rw [gk_heights]; exact mg_of X G c (x := "heights") (by simp [fa])
  | 8, x, e => by
    have e : (some (some ("decided" : Str)) : Option (Option Str)) = some (some x) := e
    cases e
    obtain ⟨fd, F, B⟩ := en_decided c
    refine ⟨p_decided, fd, rfl, rfl, ?_, ?_, B, ok_decided⟩
    · show FunD K "decided" "decided" (defArgs st_decided) (defBody st_decided) (defScope st_decided) [] [] (gaK K 8) fd
      rw [gk_decided]; exact F
    · show mg "decided" = some (.ref (gaK K 8))
      rw [gk_decided]; exact mg_of X G c (x := "decided") (by simp [fa])
  | 9, x, e => by
    have e : (some (some ("search" : Str)) : Option (Option Str)) = some (some x) := e
    cases e
    obtain ⟨fd, F, B⟩ := en_search c
    refine ⟨p_search, fd, rfl, rfl, ?_, ?_, B, ok_search⟩
    · show FunD K "search" "search" (defArgs st_search) (defBody st_search) (defScope st_search) [] [] (gaK K 9) fd
      rw [gk_search]; exact F
    · show mg "search" = some (.ref (gaK K 9))
      rw [gk_search]; exact mg_of X G c (x := "search") (by simp [fa])
  | 10, x, e => by
    have e : (some (some ("apart" : Str)) : Option (Option Str)) = some (some x) := e
    cases e
    obtain ⟨fd, F, B⟩ := en_apart c
    refine ⟨p_apart, fd, rfl, rfl, ?_, ?_, B, ok_apart⟩
    · show FunD K "apart" "apart" (defArgs st_apart) (defBody st_apart) (defScope st_apart) [] [] (gaK K 10) fd
      rw [gk_apart]; exact F
    · show mg "apart" = some (.ref (gaK K 10))
      rw [gk_apart]; exact mg_of X G c (x := "apart") (by simp [fa])
  | 11, x, e => by
    have e : (some (some ("too_long" : Str)) : Option (Option Str)) = some (some x) := e
    cases e
    obtain ⟨fd, F, B⟩ := en_too_long c
    refine ⟨p_too_long, fd, rfl, rfl, ?_, ?_, B, ok_too_long⟩
    · show FunD K "too_long" "too_long" (defArgs st_too_long) (defBody st_too_long) (defScope st_too_long) [] [] (gaK K 11) fd
      rw [gk_too_long]; exact F
    · show mg "too_long" = some (.ref (gaK K 11))
      rw [gk_too_long]; exact mg_of X G c (x := "too_long") (by simp [fa])
  | 12, x, e => by
    have e : (some (some ("long_chain" : Str)) : Option (Option Str)) = some (some x) := e
    cases e
    obtain ⟨fd, F, B⟩ := en_long_chain c
    refine ⟨p_long_chain, fd, rfl, rfl, ?_, ?_, B, ok_long_chain⟩
    · show FunD K "long_chain" "long_chain" (defArgs st_long_chain) (defBody st_long_chain) (defScope st_long_chain) [] [] (gaK K 12) fd
      rw [gk_long_chain]; exact F
    · show mg "long_chain" = some (.ref (gaK K 12))
      rw [gk_long_chain]; exact mg_of X G c (x := "long_chain") (by simp [fa])
  | 13, x, e => by
    have e : (some (some ("accepts_none" : Str)) : Option (Option Str)) = some (some x) := e
    cases e
    obtain ⟨fd, F, B⟩ := en_accepts_none c
    refine ⟨p_accepts_none, fd, rfl, rfl, ?_, ?_, B, ok_accepts_none⟩
    · show FunD K "accepts_none" "accepts_none" (defArgs st_accepts_none) (defBody st_accepts_none) (defScope st_accepts_none) [] [] (gaK K 13) fd
      rw [gk_accepts_none]; exact F
    · show mg "accepts_none" = some (.ref (gaK K 13))
      rw [gk_accepts_none]; exact mg_of X G c (x := "accepts_none") (by simp [fa])
  | 14, x, e => by
    have e : (some (some ("shows" : Str)) : Option (Option Str)) = some (some x) := e
    cases e
    obtain ⟨fd, F, B⟩ := en_shows c
    refine ⟨p_shows, fd, rfl, rfl, ?_, ?_, B, ok_shows⟩
    · show FunD K "shows" "shows" (defArgs st_shows) (defBody st_shows) (defScope st_shows) [] [] (gaK K 14) fd
      rw [gk_shows]; exact F
    · show mg "shows" = some (.ref (gaK K 14))
      rw [gk_shows]; exact mg_of X G c (x := "shows") (by simp [fa])
  | 15, x, e => by
    have e : (some (some ("least_plan" : Str)) : Option (Option Str)) = some (some x) := e
    cases e
    obtain ⟨fd, F, B⟩ := en_least_plan c
    refine ⟨p_least_plan, fd, rfl, rfl, ?_, ?_, B, ok_least_plan⟩
    · show FunD K "least_plan" "least_plan" (defArgs st_least_plan) (defBody st_least_plan) (defScope st_least_plan) [] [] (gaK K 15) fd
      rw [gk_least_plan]; exact F
    · show mg "least_plan" = some (.ref (gaK K 15))
      rw [gk_least_plan]; exact mg_of X G c (x := "least_plan") (by simp [fa])
  | 16, x, e => by
    have e : (some (some ("accepts_least" : Str)) : Option (Option Str)) = some (some x) := e
    cases e
    obtain ⟨fd, F, B⟩ := en_accepts_least c
    refine ⟨p_accepts_least, fd, rfl, rfl, ?_, ?_, B, ok_accepts_least⟩
    · show FunD K "accepts_least" "accepts_least" (defArgs st_accepts_least) (defBody st_accepts_least) (defScope st_accepts_least) [] [] (gaK K 16) fd
      rw [gk_accepts_least]; exact F
    · show mg "accepts_least" = some (.ref (gaK K 16))
      rw [gk_accepts_least]; exact mg_of X G c (x := "accepts_least") (by simp [fa])
  | 17, x, e => by
    have e : (some (some ("first_fit" : Str)) : Option (Option Str)) = some (some x) := e
    cases e
    obtain ⟨fd, F, B⟩ := en_first_fit c
    refine ⟨p_first_fit, fd, rfl, rfl, ?_, ?_, B, ok_first_fit⟩
    · show FunD K "first_fit" "first_fit" (defArgs st_first_fit) (defBody st_first_fit) (defScope st_first_fit) [] [] (gaK K 17) fd
      rw [gk_first_fit]; exact F
    · show mg "first_fit" = some (.ref (gaK K 17))
      rw [gk_first_fit]; exact mg_of X G c (x := "first_fit") (by simp [fa])
  | 18, x, e => by
    have e : (some (some ("_law_state" : Str)) : Option (Option Str)) = some (some x) := e
    cases e
    obtain ⟨fd, F, B⟩ := en__law_state c
    refine ⟨p__law_state, fd, rfl, rfl, ?_, ?_, B, ok__law_state⟩
    · show FunD K "_law_state" "_law_state" (defArgs st__law_state) (defBody st__law_state) (defScope st__law_state) [] [] (gaK K 18) fd
      rw [gk__law_state]; exact F
    · show mg "_law_state" = some (.ref (gaK K 18))
      rw [gk__law_state]; exact mg_of X G c (x := "_law_state") (by simp [fa])
  | 19, x, e => by
    have e : (some (some ("_law_take" : Str)) : Option (Option Str)) = some (some x) := e
    cases e
    obtain ⟨fd, F, B⟩ := en__law_take c
    refine ⟨p__law_take, fd, rfl, rfl, ?_, ?_, B, ok__law_take⟩
    · show FunD K "_law_take" "_law_take" (defArgs st__law_take) (defBody st__law_take) (defScope st__law_take) [] [] (gaK K 19) fd
      rw [gk__law_take]; exact F
    · show mg "_law_take" = some (.ref (gaK K 19))
      rw [gk__law_take]; exact mg_of X G c (x := "_law_take") (by simp [fa])
  | 20, x, e => by
    have e : (some (some ("_law_pick" : Str)) : Option (Option Str)) = some (some x) := e
    cases e
    obtain ⟨fd, F, B⟩ := en__law_pick c
    refine ⟨p__law_pick, fd, rfl, rfl, ?_, ?_, B, ok__law_pick⟩
    · show FunD K "_law_pick" "_law_pick" (defArgs st__law_pick) (defBody st__law_pick) (defScope st__law_pick) [] [] (gaK K 20) fd
      rw [gk__law_pick]; exact F
    · show mg "_law_pick" = some (.ref (gaK K 20))
      rw [gk__law_pick]; exact mg_of X G c (x := "_law_pick") (by simp [fa])
  | 21, x, e => by
    have e : (some (some ("_law_blocks" : Str)) : Option (Option Str)) = some (some x) := e
    cases e
    obtain ⟨fd, F, B⟩ := en__law_blocks c
    refine ⟨p__law_blocks, fd, rfl, rfl, ?_, ?_, B, ok__law_blocks⟩
    · show FunD K "_law_blocks" "_law_blocks" (defArgs st__law_blocks) (defBody st__law_blocks) (defScope st__law_blocks) [] [] (gaK K 21) fd
      rw [gk__law_blocks]; exact F
    · show mg "_law_blocks" = some (.ref (gaK K 21))
      rw [gk__law_blocks]; exact mg_of X G c (x := "_law_blocks") (by simp [fa])
  | 22, x, e => by
    have e : (some (some ("_law_meet" : Str)) : Option (Option Str)) = some (some x) := e
    cases e
    obtain ⟨fd, F, B⟩ := en__law_meet c
    refine ⟨p__law_meet, fd, rfl, rfl, ?_, ?_, B, ok__law_meet⟩
    · show FunD K "_law_meet" "_law_meet" (defArgs st__law_meet) (defBody st__law_meet) (defScope st__law_meet) [] [] (gaK K 22) fd
      rw [gk__law_meet]; exact F
    · show mg "_law_meet" = some (.ref (gaK K 22))
      rw [gk__law_meet]; exact mg_of X G c (x := "_law_meet") (by simp [fa])
  | 23, x, e => by
    have e : (some (some ("_law_pairs" : Str)) : Option (Option Str)) = some (some x) := e
    cases e
    obtain ⟨fd, F, B⟩ := en__law_pairs c
    refine ⟨p__law_pairs, fd, rfl, rfl, ?_, ?_, B, ok__law_pairs⟩
    · show FunD K "_law_pairs" "_law_pairs" (defArgs st__law_pairs) (defBody st__law_pairs) (defScope st__law_pairs) [] [] (gaK K 23) fd
      rw [gk__law_pairs]; exact F
    · show mg "_law_pairs" = some (.ref (gaK K 23))
      rw [gk__law_pairs]; exact mg_of X G c (x := "_law_pairs") (by simp [fa])
  | 24, x, e => by
    have e : (some (some ("_law_plan" : Str)) : Option (Option Str)) = some (some x) := e
    cases e
    obtain ⟨fd, F, B⟩ := en__law_plan c
    refine ⟨p__law_plan, fd, rfl, rfl, ?_, ?_, B, ok__law_plan⟩
    · show FunD K "_law_plan" "_law_plan" (defArgs st__law_plan) (defBody st__law_plan) (defScope st__law_plan) [] [] (gaK K 24) fd
      rw [gk__law_plan]; exact F
    · show mg "_law_plan" = some (.ref (gaK K 24))
      rw [gk__law_plan]; exact mg_of X G c (x := "_law_plan") (by simp [fa])
  | 25, x, e => by
    have e : (some (some ("_law_peak" : Str)) : Option (Option Str)) = some (some x) := e
    cases e
    obtain ⟨fd, F, B⟩ := en__law_peak c
    refine ⟨p__law_peak, fd, rfl, rfl, ?_, ?_, B, ok__law_peak⟩
    · show FunD K "_law_peak" "_law_peak" (defArgs st__law_peak) (defBody st__law_peak) (defScope st__law_peak) [] [] (gaK K 25) fd
      rw [gk__law_peak]; exact F
    · show mg "_law_peak" = some (.ref (gaK K 25))
      rw [gk__law_peak]; exact mg_of X G c (x := "_law_peak") (by simp [fa])
  | 26, x, e => by
    have e : (some (some ("_law_least" : Str)) : Option (Option Str)) = some (some x) := e
    cases e
    obtain ⟨fd, F, B⟩ := en__law_least c
    refine ⟨p__law_least, fd, rfl, rfl, ?_, ?_, B, ok__law_least⟩
    · show FunD K "_law_least" "_law_least" (defArgs st__law_least) (defBody st__law_least) (defScope st__law_least) [] [] (gaK K 26) fd
      rw [gk__law_least]; exact F
    · show mg "_law_least" = some (.ref (gaK K 26))
      rw [gk__law_least]; exact mg_of X G c (x := "_law_least") (by simp [fa])
  | 27, x, e => by
    have e : (some (some ("_law_fits" : Str)) : Option (Option Str)) = some (some x) := e
    cases e
    obtain ⟨fd, F, B⟩ := en__law_fits c
    refine ⟨p__law_fits, fd, rfl, rfl, ?_, ?_, B, ok__law_fits⟩
    · show FunD K "_law_fits" "_law_fits" (defArgs st__law_fits) (defBody st__law_fits) (defScope st__law_fits) [] [] (gaK K 27) fd
      rw [gk__law_fits]; exact F
    · show mg "_law_fits" = some (.ref (gaK K 27))
      rw [gk__law_fits]; exact mg_of X G c (x := "_law_fits") (by simp [fa])
  | 28, x, e => by
    have e : (some (some ("_law_shows" : Str)) : Option (Option Str)) = some (some x) := e
    cases e
    obtain ⟨fd, F, B⟩ := en__law_shows c
    refine ⟨p__law_shows, fd, rfl, rfl, ?_, ?_, B, ok__law_shows⟩
    · show FunD K "_law_shows" "_law_shows" (defArgs st__law_shows) (defBody st__law_shows) (defScope st__law_shows) [] [] (gaK K 28) fd
      rw [gk__law_shows]; exact F
    · show mg "_law_shows" = some (.ref (gaK K 28))
      rw [gk__law_shows]; exact mg_of X G c (x := "_law_shows") (by simp [fa])
  | 29, x, e => by
    have e : (some (some ("_law_bent" : Str)) : Option (Option Str)) = some (some x) := e
    cases e
    obtain ⟨fd, F, B⟩ := en__law_bent c
    refine ⟨p__law_bent, fd, rfl, rfl, ?_, ?_, B, ok__law_bent⟩
    · show FunD K "_law_bent" "_law_bent" (defArgs st__law_bent) (defBody st__law_bent) (defScope st__law_bent) [] [] (gaK K 29) fd
      rw [gk__law_bent]; exact F
    · show mg "_law_bent" = some (.ref (gaK K 29))
      rw [gk__law_bent]; exact mg_of X G c (x := "_law_bent") (by simp [fa])
  | 30, x, e => by
    have e : (some (some ("_law_first" : Str)) : Option (Option Str)) = some (some x) := e
    cases e
    obtain ⟨fd, F, B⟩ := en__law_first c
    refine ⟨p__law_first, fd, rfl, rfl, ?_, ?_, B, ok__law_first⟩
    · show FunD K "_law_first" "_law_first" (defArgs st__law_first) (defBody st__law_first) (defScope st__law_first) [] [] (gaK K 30) fd
      rw [gk__law_first]; exact F
    · show mg "_law_first" = some (.ref (gaK K 30))
      rw [gk__law_first]; exact mg_of X G c (x := "_law_first") (by simp [fa])
  | 31, x, e => by
    have e : (some (some ("_law_below" : Str)) : Option (Option Str)) = some (some x) := e
    cases e
    obtain ⟨fd, F, B⟩ := en__law_below c
    refine ⟨p__law_below, fd, rfl, rfl, ?_, ?_, B, ok__law_below⟩
    · show FunD K "_law_below" "_law_below" (defArgs st__law_below) (defBody st__law_below) (defScope st__law_below) [] [] (gaK K 31) fd
      rw [gk__law_below]; exact F
    · show mg "_law_below" = some (.ref (gaK K 31))
      rw [gk__law_below]; exact mg_of X G c (x := "_law_below") (by simp [fa])
  | 32, x, e => by
    have e : (some (some ("law" : Str)) : Option (Option Str)) = some (some x) := e
    cases e
    obtain ⟨fd, F, B⟩ := en_law c
    refine ⟨p_law, fd, rfl, rfl, ?_, ?_, B, ok_law⟩
    · show FunD K "law" "law" (defArgs st_law) (defBody st_law) (defScope st_law) [] [] (gaK K 32) fd
      rw [gk_law]; exact F
    · show mg "law" = some (.ref (gaK K 32))
      rw [gk_law]; exact mg_of X G c (x := "law") (by simp [fa])
  | i + 33, x, e => by
    have e : (none : Option (Option Str)) = some (some x) := e
    cases e
theorem fns_tH (X : K.In h) (G : h.Ns mainGlobals mg) (c : He.SaysD fa fn K) : FnsOk ⟨P, w, K, mg, base, gaK K, xa⟩ tH tS pdH
  | 0, x, e => by
    have e : (some none : Option (Option Str)) = some (some x) := e
    cases e
  | 1, x, e => by
    have e : (some none : Option (Option Str)) = some (some x) := e
    cases e
  | 2, x, e => by
    have e : (some (some ("meet" : Str)) : Option (Option Str)) = some (some x) := e
    cases e
    obtain ⟨fd, F, B⟩ := en_meet c
    refine ⟨pH_meet, fd, rfl, rfl, ?_, ?_, B, okH_meet⟩
    · show FunD K "meet" "meet" (defArgs st_meet) (defBody st_meet) (defScope st_meet) [] [] (gaK K 2) fd
      rw [gk_meet]; exact F
    · show mg "meet" = some (.ref (gaK K 2))
      rw [gk_meet]; exact mg_of X G c (x := "meet") (by simp [fa])
  | 3, x, e => by
    have e : (some (some ("load" : Str)) : Option (Option Str)) = some (some x) := e
    cases e
    obtain ⟨fd, F, B⟩ := en_load c
    refine ⟨pH_load, fd, rfl, rfl, ?_, ?_, B, okH_load⟩
    · show FunD K "load" "load" (defArgs st_load) (defBody st_load) (defScope st_load) [] [] (gaK K 3) fd
      rw [gk_load]; exact F
    · show mg "load" = some (.ref (gaK K 3))
      rw [gk_load]; exact mg_of X G c (x := "load") (by simp [fa])
  | 4, x, e => by
    have e : (some (some ("pairs" : Str)) : Option (Option Str)) = some (some x) := e
    cases e
    obtain ⟨fd, F, B⟩ := en_pairs c
    refine ⟨pH_pairs, fd, rfl, rfl, ?_, ?_, B, okH_pairs⟩
    · show FunD K "pairs" "pairs" (defArgs st_pairs) (defBody st_pairs) (defScope st_pairs) [] [] (gaK K 4) fd
      rw [gk_pairs]; exact F
    · show mg "pairs" = some (.ref (gaK K 4))
      rw [gk_pairs]; exact mg_of X G c (x := "pairs") (by simp [fa])
  | 5, x, e => by
    have e : (some none : Option (Option Str)) = some (some x) := e
    cases e
  | 6, x, e => by
    have e : (some none : Option (Option Str)) = some (some x) := e
    cases e
  | 7, x, e => by
    have e : (some (some ("heights" : Str)) : Option (Option Str)) = some (some x) := e
    cases e
    obtain ⟨fd, F, B⟩ := en_heights c
    refine ⟨pH_heights, fd, rfl, rfl, ?_, ?_, B, okH_heights⟩
    · show FunD K "heights" "heights" (defArgs st_heights) (defBody st_heights) (defScope st_heights) [] [] (gaK K 7) fd
      rw [gk_heights]; exact F
    · show mg "heights" = some (.ref (gaK K 7))
      rw [gk_heights]; exact mg_of X G c (x := "heights") (by simp [fa])
  | 8, x, e => by
    have e : (some (some ("decided" : Str)) : Option (Option Str)) = some (some x) := e
    cases e
    obtain ⟨fd, F, B⟩ := en_decided c
    refine ⟨pH_decided, fd, rfl, rfl, ?_, ?_, B, okH_decided⟩
    · show FunD K "decided" "decided" (defArgs st_decided) (defBody st_decided) (defScope st_decided) [] [] (gaK K 8) fd
      rw [gk_decided]; exact F
    · show mg "decided" = some (.ref (gaK K 8))
      rw [gk_decided]; exact mg_of X G c (x := "decided") (by simp [fa])
  | 9, x, e => by
    have e : (some (some ("search" : Str)) : Option (Option Str)) = some (some x) := e
    cases e
    obtain ⟨fd, F, B⟩ := en_search c
    refine ⟨pH_search, fd, rfl, rfl, ?_, ?_, B, okH_search⟩
    · show FunD K "search" "search" (defArgs st_search) (defBody st_search) (defScope st_search) [] [] (gaK K 9) fd
      rw [gk_search]; exact F
    · show mg "search" = some (.ref (gaK K 9))
      rw [gk_search]; exact mg_of X G c (x := "search") (by simp [fa])
  | 10, x, e => by
    have e : (some (some ("apart" : Str)) : Option (Option Str)) = some (some x) := e
    cases e
    obtain ⟨fd, F, B⟩ := en_apart c
    refine ⟨pH_apart, fd, rfl, rfl, ?_, ?_, B, okH_apart⟩
    · show FunD K "apart" "apart" (defArgs st_apart) (defBody st_apart) (defScope st_apart) [] [] (gaK K 10) fd
      rw [gk_apart]; exact F
    · show mg "apart" = some (.ref (gaK K 10))
      rw [gk_apart]; exact mg_of X G c (x := "apart") (by simp [fa])
  | 11, x, e => by
    have e : (some (some ("too_long" : Str)) : Option (Option Str)) = some (some x) := e
    cases e
    obtain ⟨fd, F, B⟩ := en_too_long c
    refine ⟨pH_too_long, fd, rfl, rfl, ?_, ?_, B, okH_too_long⟩
    · show FunD K "too_long" "too_long" (defArgs st_too_long) (defBody st_too_long) (defScope st_too_long) [] [] (gaK K 11) fd
      rw [gk_too_long]; exact F
    · show mg "too_long" = some (.ref (gaK K 11))
      rw [gk_too_long]; exact mg_of X G c (x := "too_long") (by simp [fa])
  | 12, x, e => by
    have e : (some (some ("long_chain" : Str)) : Option (Option Str)) = some (some x) := e
    cases e
    obtain ⟨fd, F, B⟩ := en_long_chain c
    refine ⟨pH_long_chain, fd, rfl, rfl, ?_, ?_, B, okH_long_chain⟩
    · show FunD K "long_chain" "long_chain" (defArgs st_long_chain) (defBody st_long_chain) (defScope st_long_chain) [] [] (gaK K 12) fd
      rw [gk_long_chain]; exact F
    · show mg "long_chain" = some (.ref (gaK K 12))
      rw [gk_long_chain]; exact mg_of X G c (x := "long_chain") (by simp [fa])
  | 13, x, e => by
    have e : (some none : Option (Option Str)) = some (some x) := e
    cases e
  | 14, x, e => by
    have e : (some none : Option (Option Str)) = some (some x) := e
    cases e
  | 15, x, e => by
    have e : (some (some ("least_plan" : Str)) : Option (Option Str)) = some (some x) := e
    cases e
    obtain ⟨fd, F, B⟩ := en_least_plan c
    refine ⟨pH_least_plan, fd, rfl, rfl, ?_, ?_, B, okH_least_plan⟩
    · show FunD K "least_plan" "least_plan" (defArgs st_least_plan) (defBody st_least_plan) (defScope st_least_plan) [] [] (gaK K 15) fd
      rw [gk_least_plan]; exact F
    · show mg "least_plan" = some (.ref (gaK K 15))
      rw [gk_least_plan]; exact mg_of X G c (x := "least_plan") (by simp [fa])
  | 16, x, e => by
    have e : (some none : Option (Option Str)) = some (some x) := e
    cases e
  | 17, x, e => by
    have e : (some none : Option (Option Str)) = some (some x) := e
    cases e
  | 18, x, e => by
    have e : (some none : Option (Option Str)) = some (some x) := e
    cases e
  | 19, x, e => by
    have e : (some none : Option (Option Str)) = some (some x) := e
    cases e
  | 20, x, e => by
    have e : (some none : Option (Option Str)) = some (some x) := e
    cases e
  | 21, x, e => by
    have e : (some none : Option (Option Str)) = some (some x) := e
    cases e
  | 22, x, e => by
    have e : (some none : Option (Option Str)) = some (some x) := e
    cases e
  | 23, x, e => by
    have e : (some none : Option (Option Str)) = some (some x) := e
    cases e
  | 24, x, e => by
    have e : (some none : Option (Option Str)) = some (some x) := e
    cases e
  | 25, x, e => by
    have e : (some none : Option (Option Str)) = some (some x) := e
    cases e
  | 26, x, e => by
    have e : (some none : Option (Option Str)) = some (some x) := e
    cases e
  | 27, x, e => by
    have e : (some none : Option (Option Str)) = some (some x) := e
    cases e
  | 28, x, e => by
    have e : (some none : Option (Option Str)) = some (some x) := e
    cases e
  | 29, x, e => by
    have e : (some none : Option (Option Str)) = some (some x) := e
    cases e
  | 30, x, e => by
    have e : (some none : Option (Option Str)) = some (some x) := e
    cases e
  | 31, x, e => by
    have e : (some none : Option (Option Str)) = some (some x) := e
    cases e
  | 32, x, e => by
    have e : (some none : Option (Option Str)) = some (some x) := e
    cases e
  | i + 33, x, e => by
    have e : (none : Option (Option Str)) = some (some x) := e
    cases e
end
end K30
end
section
set_option Elab.async false
set_option linter.all false
set_option maxRecDepth 100000
set_option maxHeartbeats 0
namespace K30
open PySem PySem.Spec PyProof.Rows L2 L3
def gc30 : Nat → D := fun k => if k = 0 then .int 10 else .non
def cf30 : Nat → Option (Nat × List (Str × Nat)) := fun c => if c = 34 then some (1, [("limit", 1)]) else none
def env30 : Env0D := ⟨gc30, cf30, fun c c' => if c = 34 ∧ c' = 34 then some true else none⟩
theorem free_in : ∀ x ∈ free, He.Fa.free x ∈ fa := by
  intro x hx
  unfold free at hx
  repeat (rcases List.mem_cons.mp hx with rfl | hx; · simp [fa])
  cases hx
section
variable {K : PySem.W.Frag} {w : World} {mg : Str → Option Value} {base h : Heap}
theorem prg (X : K.In h) (G : h.Ns mainGlobals mg) (c : SaysI PySem.Challenge.pw_axeswright_k30_whole_stores_in_one_memor fa fn ins K) : Prg ⟨PySem.Challenge.pw_axeswright_k30_whole_stores_in_one_memor, w, K, mg, base, gaK K, none⟩ tC tH tS env30 pd pdH where
  xa := rfl
  fn := fns_tC X G c.d
  fnH := fns_tH X G c.d
  hotT := ⟨rfl, rfl⟩
  hotH := ⟨rfl, rfl⟩
  hotS := ⟨rfl, rfl, rfl, rfl, rfl, rfl⟩
  free := fun x hx => by
    have hx : x ∈ free := hx.elim id id
    exact mg_no X G c.d (free_in x hx)
  gc := fun k x hx => by
    have hx : (["MOST_BLOCKS"] : List Str)[k]? = some x := hx.elim id id
    match k, hx with
    | 0, hx =>
      cases hx
      obtain ⟨i, hi, e⟩ := List.mem_iff_getElem.mp (show He.Fa.int "MOST_BLOCKS" 10 ∈ fa by simp [fa])
      obtain ⟨t, ht⟩ := He.int_ok X G (c.d.fact i (by rw [List.getElem?_eq_getElem hi, e]))
      exact ⟨.int 10 t, .int 10, ht, ⟨t, rfl⟩, fun _ _ _ => by show RepD _ _ _ (D.int 10) _; simp only [RepD]⟩
  clx := fun cc x hx => by
    have hx : tC.cl[cc]? = some (some x) := hx.elim id id
    have hc : cc = 33 ∨ cc = 34 := by
      have hl := (List.getElem?_eq_some_iff.mp hx).1
      have hl : cc < 35 := hl
      by_cases h : cc < 33
      · exfalso
        have all : ∀ i, i < 33 → tC.cl[i]? = some none := by decide +kernel
        rw [all cc h] at hx
        cases hx
      · omega
    rcases hc with rfl | rfl
    · have e : (some (some ("Wrong" : Str)) : Option (Option Str)) = some (some x) := hx
      cases e
      show mg "Wrong" = some (.ref (gaK K 33))
      rw [show gaK K 33 = He.ga K "Wrong" from by first | rfl | (unfold gaK nms; rfl)]
      exact mg_of X G c.d (by simp [fa])
    · have e : (some (some ("Great" : Str)) : Option (Option Str)) = some (some x) := hx
      cases e
      show mg "Great" = some (.ref (gaK K 34))
      rw [show gaK K 34 = He.ga K "Great" from by first | rfl | (unfold gaK nms; rfl)]
      exact mg_of X G c.d (by simp [fa])
  cl := fun cc n fs hx => by
    have hx : cf30 cc = some (n, fs) := hx
    unfold cf30 at hx
    split at hx
    · rename_i hc
      subst hc
      cases hx
      have z := c.ini (d := i_Great) (by simp [ins]) tx_Great (fun cc cda kV doc pm ct an us hl => match us, hl with | [_, _], _ => rfl) (by decide +kernel) (w := w) (mg := mg) (base := base) (ga := gaK K) (xa := none) (mg_no X G c.d (by simp [fa]))
      have e : He.ga K i_Great.cls = gaK K 34 := by first | rfl | (unfold gaK nms; rfl)
      rw [e] at z
      exact z
    · cases hx
  sub := fun cc c' b hx => by
    have hx : (if cc = 34 ∧ c' = 34 then some true else none) = some b := hx
    split at hx
    · rename_i hc
      obtain ⟨rfl, rfl⟩ := hc
      cases hx
      obtain ⟨i, hi, e⟩ := List.mem_iff_getElem.mp (show He.Fa.exm "Great" "Great" true ∈ fa by simp [fa])
      have z : (He.Fa.exm "Great" "Great" true).ok K = true := c.d.fact i (by rw [List.getElem?_eq_getElem hi, e])
      exact of_decide_eq_true z
    · cases hx
end
end K30
end
section
set_option Elab.async false
set_option linter.all false
set_option maxRecDepth 100000
set_option maxHeartbeats 0
namespace K30
open PySem PySem.Spec PyProof.Rows L2 L3
/-- what is left: law's tree gives True -/
def LawTrue : Prop := ∀ ns : List Int, ns.length ≤ 63 → ∃ vh, callF env30 (dfOf pd) (dfOf pdH) 200 32 [.scr (ns.map .int)] [] = .ok (.bl true) vh
/-- nothing is let out -/
theorem no_exc {P : Program} {w : World} {K : PySem.W.Frag} {mg : Str → Option Value} {base : Heap} {k : Nat} {f : Addr} {fd : FuncData} {ps : List Str} {sp : Sp} (F : FnOk P w K mg base (L2N.CX P w) k f fd ps sp) :
    FnOk P w K mg base CX0 k f fd ps (fun vs H Q _ => sp vs H Q fun _ _ _ => False) :=
  ⟨fun vs H Q E h => F.len vs H Q _ h, fun A outer s H args us vs Q E hr he hb hv h => codeAny_mono (F.run A outer s H args us vs Q (fun _ _ _ => False) hr he hb hv h) fun r s' q => by
    cases r with
    | ok fl => cases fl <;> exact q
    | error e =>
      obtain ⟨_, _, _, _, _, _, _, _, _, _, _, _, z⟩ := q
      exact z.elim⟩
/-- the script, at the law's entry -/
theorem start_ok {G : Gx} {H : Hp} {a : Addr} {ns : List Int} (hx : G.xa = none) (hO : Only H) (hS : SqL G.K H a (ns.map V.int)) : ∃ w : Wd, RelH G w [] H ∧ RepDs G w H [.scr (ns.map .int)] [.ref a] := by
  refine ⟨⟨fun _ => 0, 0, fun _ => False, fun _ => none⟩, ⟨rfl, fun i j hi => absurd hi (Nat.not_lt_zero _), fun i hi => absurd hi (Nat.not_lt_zero _), fun a h => h.elim, (fun a o e => nomatch e), (fun a o e => nomatch e), (fun i o e => nomatch (show (none : Option O) = some o from e)), (fun x e => by rw [hx] at e; cases e)⟩, ?_⟩
  refine .one ?_
  simp only [RepD]
  refine ⟨a, _, rfl, ?_, rep_ofInts ns⟩
  rcases hS with (h | h) | h
  · rcases hO a with z | ⟨o, xs, z⟩
    · rw [z] at h; cases h
    · rw [z] at h; cases h
  · exact .inr (.inl h)
  · exact .inr (.inr h)
section
variable {K : PySem.W.Frag} {w : World} {mg : Str → Option Value} {h : Heap}
theorem facts (L : LawTrue) (X : K.In h) (G : h.Ns mainGlobals mg) (c : SaysI PySem.Challenge.pw_axeswright_k30_whole_stores_in_one_memor fa fn ins K) {fa' : Addr} (hfa : mg "law" = some (.ref fa')) :
    ∃ (fd : FuncData) (sp : Sp), (∀ (s : Shared) (u : Value), BindsTo s fd ⟨[u], []⟩ [("script", u)]) ∧
      (∀ (H : Hp) (a : Addr) (ns : List Int), ns.length ≤ 63 → Only H → SqL K H a (ns.map V.int) → sp [.ref a] H (fun v _ => v = .bl true) fun _ _ _ => False) ∧
      ∀ base : Heap, K.In base → base.Ns mainGlobals mg → FnOk PySem.Challenge.pw_axeswright_k30_whole_stores_in_one_memor w K mg base CX0 200 fa' fd ["script"] sp := by
  have e : fa' = gaK K 32 := by
    have := hfa.symm.trans (mg_of X G c.d (x := "law") (by simp [fa]))
    cases this
    exact (gk_law).symm
  subst e
  obtain ⟨fd, F⟩ := c.d.def_ 32 (d := h_law) rfl
  refine ⟨fd, fun vs H Q _ => ∀ base : Heap, spOf ⟨PySem.Challenge.pw_axeswright_k30_whole_stores_in_one_memor, w, K, mg, base, gaK K, none⟩ 1 (callF env30 (dfOf pd) (dfOf pdH) 200 32) vs H Q fun _ _ _ => False, fun s u => ?_, fun H a ns hl hO hS base => ?_, fun base KB GB => ?_⟩
  · exact FunD.bindsA (ps := ["script"]) F b_law s [u] rfl
  · obtain ⟨w0, R, r⟩ := start_ok (G := ⟨PySem.Challenge.pw_axeswright_k30_whole_stores_in_one_memor, w, K, mg, base, gaK K, none⟩) rfl hO hS
    obtain ⟨vh, ev⟩ := L ns hl
    refine ⟨w0, _, [], R, r, rfl, ?_⟩
    rw [ev]
    intro w' b H' _ _ rb
    simpa only [RepD] using rb
  · have Z := prg (w := w) (base := base) X G c
    have T := prg_tabs Z 199
    have q := def_ok T (hot_ok Z 199) rfl ok_law (G := ⟨PySem.Challenge.pw_axeswright_k30_whole_stores_in_one_memor, w, K, mg, base, gaK K, none⟩) F
    have q : FnOk PySem.Challenge.pw_axeswright_k30_whole_stores_in_one_memor w K mg base (L2N.CX PySem.Challenge.pw_axeswright_k30_whole_stores_in_one_memor w) 200 (gaK K 32) fd ["script"] (spOf ⟨PySem.Challenge.pw_axeswright_k30_whole_stores_in_one_memor, w, K, mg, base, gaK K, none⟩ 1 (callF env30 (dfOf pd) (dfOf pdH) 200 32)) := q
    have q := no_exc q
    exact ⟨fun vs H Q E h => q.len vs H Q E (h base), fun A outer s H args us vs Q E hr he hb hv h => q.run A outer s H args us vs Q E hr he hb hv (h base)⟩
end
end K30
end
section
set_option Elab.async false
set_option linter.all false
set_option maxHeartbeats 4000000
/-! ### the mathematics of stores in one memory -/
namespace K30
structure Blk where
  s : Int
  b : Int
  e : Int
deriving DecidableEq, Inhabited
abbrev g (P : List Int) (k : Nat) : Int := P.getD k 0
theorem g_set (P : List Int) (i : Nat) (x : Int) (k : Nat) (h : i < P.length) : g (P.set i x) k = if k = i then x else g P k := by
  simp only [g, List.getD, List.getElem?_set]
  by_cases e : i = k
  · subst e; simp [h]
  · simp [e]; intro q; exact absurd q.symm e
def relax (s : Nat → Int) (P : List Int) (e : Nat × Nat) : List Int := P.set e.2 (max (g P e.2) (g P e.1 + s e.1))
def iter {α : Type} (f : α → α) : Nat → α → α
  | 0, x => x
  | k + 1, x => f (iter f k x)
section
variable {s : Nat → Int} {E : List (Nat × Nat)} {n : Nat} {P : List Int}
theorem relax_len (P : List Int) (e : Nat × Nat) : (relax s P e).length = P.length := by simp [relax]
theorem rel_len (L : List (Nat × Nat)) (P : List Int) : (L.foldl (relax s) P).length = P.length := by
  induction L generalizing P with
  | nil => rfl
  | cons e L ih => rw [List.foldl_cons, ih, relax_len]
theorem g_relax {e : Nat × Nat} (h : e.2 < P.length) (k : Nat) : g (relax s P e) k = if k = e.2 then max (g P e.2) (g P e.1 + s e.1) else g P k := g_set _ _ _ _ h
def InR (n : Nat) (E : List (Nat × Nat)) : Prop := ∀ e ∈ E, e.1 < n ∧ e.2 < n
theorem rel_ge {L : List (Nat × Nat)} : ∀ {P : List Int}, InR P.length L → ∀ k, g P k ≤ g (L.foldl (relax s) P) k := by
  induction L with
  | nil => intro P h k; exact Int.le_refl _
  | cons e L ih =>
    intro P h k
    rw [List.foldl_cons]
    refine Int.le_trans ?_ (ih (P := relax s P e) (by rw [relax_len]; exact fun e he => h e (List.mem_cons_of_mem _ he)) k)
    rw [g_relax (h e List.mem_cons_self).2]
    split
    · rename_i q; rw [q]; omega
    · exact Int.le_refl _
/-- heights that the pairs allow -/
def Pot (n : Nat) (s : Nat → Int) (E : List (Nat × Nat)) (F : Nat → Int) : Prop := (∀ k, k < n → 0 ≤ F k) ∧ ∀ e ∈ E, F e.1 + s e.1 ≤ F e.2
theorem rel_le {F : Nat → Int} (hF : ∀ e ∈ E, F e.1 + s e.1 ≤ F e.2) {L : List (Nat × Nat)} (hL : ∀ e ∈ L, e ∈ E) : ∀ {P : List Int}, InR P.length L → (∀ k, k < P.length → g P k ≤ F k) → ∀ k, k < P.length → g (L.foldl (relax s) P) k ≤ F k := by
  induction L with
  | nil => intro P h hP k hk; exact hP k hk
  | cons e L ih =>
    intro P h hP k hk
    rw [List.foldl_cons]
    have he := h e List.mem_cons_self
    have h1 := hF e (hL e List.mem_cons_self)
    have h2 := hP e.1 he.1
    have h3 := hP e.2 he.2
    refine ih (fun e he => hL e (List.mem_cons_of_mem _ he)) (by rw [relax_len]; exact fun e he => h e (List.mem_cons_of_mem _ he)) (fun k hk => ?_) k (by rw [relax_len]; exact hk)
    rw [relax_len] at hk
    rw [g_relax he.2]
    split
    · rename_i q; subst q; omega
    · exact hP k hk
theorem cnt_lt {p q : Nat → Bool} : ∀ {l : List Nat}, (∀ x ∈ l, p x = true → q x = true) → ∀ {u}, u ∈ l → p u = false → q u = true → l.countP p < l.countP q
  | [], _, u, hu, _, _ => by cases hu
  | a :: l, h, u, hu, h1, h2 => by
    have hm := List.countP_mono_left (l := l) (fun x hx => h x (List.mem_cons_of_mem _ hx))
    have ha := h a List.mem_cons_self
    rw [List.countP_cons, List.countP_cons]
    rcases List.mem_cons.mp hu with e | hu
    · subst e; simp [h1, h2]; omega
    · have := cnt_lt (fun x hx => h x (List.mem_cons_of_mem _ hx)) hu h1 h2
      cases hp : p a with
      | false => simp; split <;> omega
      | true => simp [ha hp]; omega
def rank (n : Nat) (F : Nat → Int) (v : Nat) : Nat := (List.range n).countP fun u => decide (F u < F v)
theorem rank_lt {F : Nat → Int} {u v : Nat} (hu : u < n) (h : F u < F v) : rank n F u < rank n F v :=
  cnt_lt (fun x _ hx => by simp at hx ⊢; omega) (List.mem_range.mpr hu) (by simp) (by simpa using h)
theorem rank_n {F : Nat → Int} {v : Nat} (hv : v < n) : rank n F v < n := by
  have := cnt_lt (l := List.range n) (p := fun u => decide (F u < F v)) (q := fun _ => true) (fun _ _ _ => rfl) (List.mem_range.mpr hv) (by simp) rfl
  rw [List.countP_true, List.length_range] at this
  exact this
def zeros (n : Nat) : List Int := List.replicate n 0
def rounds (s : Nat → Int) (E : List (Nat × Nat)) (n t : Nat) : List Int := iter (fun P => E.foldl (relax s) P) t (zeros n)
theorem rounds_len (t : Nat) : (rounds s E n t).length = n := by
  induction t with
  | zero => simp [rounds, iter, zeros]
  | succ t ih => show (E.foldl (relax s) (rounds s E n t)).length = n; rw [rel_len, ih]
theorem rounds_succ (t : Nat) : rounds s E n (t + 1) = E.foldl (relax s) (rounds s E n t) := rfl
theorem g_zeros (k : Nat) : g (zeros n) k = 0 := by
  simp [g, zeros, List.getD, List.getElem?_replicate]; split <;> rfl
theorem rounds_ge (hE : InR n E) (t k : Nat) : 0 ≤ g (rounds s E n t) k := by
  induction t with
  | zero => exact Int.le_of_eq (g_zeros k).symm
  | succ t ih => rw [rounds_succ]; exact Int.le_trans ih (rel_ge (by rw [rounds_len]; exact hE) k)
theorem rounds_le {F : Nat → Int} (hE : InR n E) (hF : Pot n s E F) (t : Nat) : ∀ k, k < n → g (rounds s E n t) k ≤ F k := by
  induction t with
  | zero => intro k hk; exact Int.le_trans (Int.le_of_eq (g_zeros k)) (hF.1 k hk)
  | succ t ih =>
    intro k hk
    rw [rounds_succ]
    exact rel_le hF.2 (fun e he => he) (by rw [rounds_len]; exact hE) (by rw [rounds_len]; exact ih) k (by rw [rounds_len]; exact hk)
theorem froz {F : Nat → Int} (hE : InR n E) (hF : Pot n s E F) (hs : ∀ e ∈ E, 0 < s e.1) : ∀ t v, v < n → rank n F v < t → ∀ L : List (Nat × Nat), (∀ e ∈ L, e ∈ E) → g (L.foldl (relax s) (rounds s E n t)) v = g (rounds s E n t) v := by
  intro t
  induction t with
  | zero => intro v hv h; omega
  | succ t ih =>
    intro v hv hr
    have hl := rounds_len (s := s) (E := E) (n := n) t
    have ha : ∀ e ∈ E, e.2 = v → ∀ L : List (Nat × Nat), (∀ e ∈ L, e ∈ E) → g (L.foldl (relax s) (rounds s E n t)) e.1 = g (rounds s E n t) e.1 := by
      intro e he hev L hL
      have h1 := hF.2 e he
      have h2 := hs e he
      have h3 : rank n F e.1 < rank n F v := rank_lt (hE e he).1 (by rw [← hev]; omega)
      exact ih e.1 (hE e he).1 (by omega) L hL
    have hb : ∀ e ∈ E, e.2 = v → g (rounds s E n t) e.1 + s e.1 ≤ g (rounds s E n (t + 1)) v := by
      intro e he hev
      obtain ⟨A, B, hAB⟩ := List.append_of_mem he
      have hA : ∀ x ∈ A, x ∈ E := fun x hx => by rw [hAB]; simp [hx]
      have hB : ∀ x ∈ B, x ∈ E := fun x hx => by rw [hAB]; simp [hx]
      have q := ha e he hev A hA
      rw [rounds_succ]
      rw [show E.foldl (relax s) (rounds s E n t) = B.foldl (relax s) (relax s (A.foldl (relax s) (rounds s E n t)) e) by rw [hAB, List.foldl_append, List.foldl_cons]]
      refine Int.le_trans ?_ (rel_ge (by rw [relax_len, rel_len, hl]; exact fun x hx => hE x (hB x hx)) v)
      rw [g_relax (by rw [rel_len, hl]; exact (hE e he).2), if_pos hev.symm, q]
      omega
    intro L hL
    have key : ∀ L : List (Nat × Nat), (∀ e ∈ L, e ∈ E) → g (L.reverse.foldl (relax s) (rounds s E n (t + 1))) v = g (rounds s E n (t + 1)) v := by
      intro L
      induction L with
      | nil => intro _; rfl
      | cons e L ihL =>
        intro hL
        have ih2 := ihL fun x hx => hL x (List.mem_cons_of_mem _ hx)
        have he := hL e List.mem_cons_self
        rw [List.reverse_cons, List.foldl_append, List.foldl_cons, List.foldl_nil]
        rw [g_relax (by rw [rel_len, rounds_len]; exact (hE e he).2)]
        by_cases hev : v = e.2
        · rw [if_pos hev, ← hev, ih2]
          have q : g (L.reverse.foldl (relax s) (rounds s E n (t + 1))) e.1 = g (rounds s E n t) e.1 := by
            rw [rounds_succ, ← List.foldl_append]
            exact ha e he hev.symm _ (fun x hx => by
              rcases List.mem_append.mp hx with h | h
              · exact h
              · exact hL x (List.mem_cons_of_mem _ (List.mem_reverse.mp h)))
          rw [q]
          have := hb e he hev.symm
          omega
        · rw [if_neg hev, ih2]
    have := key L.reverse (fun e he => hL e (List.mem_reverse.mp he))
    rwa [List.reverse_reverse] at this
/-- n + 1 rounds are enough where heights are there at all -/
theorem rounds_pot {F : Nat → Int} (hE : InR n E) (hF : Pot n s E F) (hs : ∀ e ∈ E, 0 < s e.1) : Pot n s E fun k => g (rounds s E n (n + 1)) k := by
  refine ⟨fun k _ => rounds_ge hE _ k, fun e he => ?_⟩
  have h := froz hE hF hs (n + 1) e.2 (hE e he).2 (Nat.lt_succ_of_lt (rank_n (hE e he).2)) [e] (fun x hx => by rw [List.mem_singleton.mp hx]; exact he)
  rw [List.foldl_cons, List.foldl_nil, g_relax (by rw [rounds_len]; exact (hE e he).2), if_pos rfl] at h
  show g _ e.1 + s e.1 ≤ g _ e.2
  omega
end
/-! ### blocks, pairs, plans -/
def blk (B : List Blk) (k : Nat) : Blk := B.getD k ⟨0, 0, 1⟩
def sz (B : List Blk) (k : Nat) : Int := (blk B k).s
def meetB (a b : Blk) : Bool := decide (0 < a.s) && (decide (0 < b.s) && (decide (a.b < b.e) && decide (b.b < a.e)))
def pairsAt (B : List Blk) (k : Nat) : List (Nat × Nat) := (((List.range (B.length - (k + 1))).map fun i => k + 1 + i).filter fun j => meetB (blk B k) (blk B j)).map fun j => (k, j)
def pairsB (B : List Blk) : List (Nat × Nat) := (List.range B.length).flatMap (pairsAt B)
theorem mem_pairs {B : List Blk} {e : Nat × Nat} : e ∈ pairsB B ↔ e.1 < e.2 ∧ e.2 < B.length ∧ meetB (blk B e.1) (blk B e.2) = true := by
  obtain ⟨k, j⟩ := e
  simp only [pairsB, pairsAt, List.mem_flatMap, List.mem_range, List.mem_map, List.mem_filter, Prod.mk.injEq]
  constructor
  · rintro ⟨a, ha, b, ⟨⟨i, hi, rfl⟩, hm⟩, rfl, rfl⟩
    exact ⟨by omega, by omega, hm⟩
  · rintro ⟨h1, h2, h3⟩
    exact ⟨k, by omega, j, ⟨⟨j - (k + 1), by omega, by omega⟩, h3⟩, rfl, rfl⟩
theorem pair_pos {B : List Blk} {e : Nat × Nat} (h : e ∈ pairsB B) : 0 < sz B e.1 ∧ 0 < sz B e.2 := by
  have := (mem_pairs.mp h).2.2
  simp only [meetB, Bool.and_eq_true, decide_eq_true_eq] at this
  exact ⟨this.1, this.2.1⟩
theorem pair_in {B : List Blk} {e : Nat × Nat} (h : e ∈ pairsB B) : e.1 < B.length ∧ e.2 < B.length := by
  have := mem_pairs.mp h
  omega
def Apart (B : List Blk) (F : Nat → Int) (e : Nat × Nat) : Prop := F e.2 + sz B e.2 ≤ F e.1 ∨ F e.1 + sz B e.1 ≤ F e.2
/-- a plan within a limit, with some pairs told: the first below the second -/
structure Fit (B : List Blk) (L : Int) (E : List (Nat × Nat)) (F : Nat → Int) : Prop where
  nn : ∀ k, k < B.length → 0 ≤ F k
  top : ∀ k, k < B.length → F k + sz B k ≤ L
  ap : ∀ e ∈ pairsB B, Apart B F e
  lo : ∀ e ∈ E, F e.1 + sz B e.1 ≤ F e.2
def Feas (B : List Blk) (L : Int) (E : List (Nat × Nat)) : Prop := ∃ F, Fit B L E F
theorem Feas.mono {B : List Blk} {L L' : Int} {E : List (Nat × Nat)} (h : Feas B L E) (hl : L ≤ L') : Feas B L' E := by
  obtain ⟨F, f⟩ := h
  exact ⟨F, f.nn, fun k hk => Int.le_trans (f.top k hk) hl, f.ap, f.lo⟩
/-! ### chains and trees -/
def sumSz (B : List Blk) (row : List Nat) : Int := (row.map (sz B)).sum
def stepsOk (E : List (Nat × Nat)) (row : List Nat) : Bool := (List.range (row.length - 1)).all fun k => decide ((row.getD k 0, row.getD (k + 1) 0) ∈ E)
theorem steps_cons {E : List (Nat × Nat)} {a b : Nat} {r : List Nat} : stepsOk E (a :: b :: r) = (decide ((a, b) ∈ E) && stepsOk E (b :: r)) := by
  unfold stepsOk
  rw [show (a :: b :: r).length - 1 = (b :: r).length - 1 + 1 from by simp, List.range_succ_eq_map, List.all_cons, List.all_map]
  rfl
theorem chain_sum {B : List Blk} {E : List (Nat × Nat)} {F : Nat → Int} (hF : ∀ e ∈ E, F e.1 + sz B e.1 ≤ F e.2) : ∀ {r : List Nat} {a : Nat}, stepsOk E (a :: r) = true → ∃ z ∈ a :: r, F a + sumSz B (a :: r) ≤ F z + sz B z
  | [], a, _ => ⟨a, List.mem_cons_self, by simp [sumSz]⟩
  | b :: r, a, h => by
    rw [steps_cons, Bool.and_eq_true, decide_eq_true_eq] at h
    obtain ⟨z, hz, h2⟩ := chain_sum hF h.2
    have := hF _ h.1
    refine ⟨z, List.mem_cons_of_mem _ hz, ?_⟩
    have e : sumSz B (a :: b :: r) = sz B a + sumSz B (b :: r) := by simp [sumSz]
    rw [e]
    simp only at this
    omega
def chainB (B : List Blk) (L : Int) (E : List (Nat × Nat)) (row : List Nat) : Bool := !row.isEmpty && (row.all fun k => decide (k < B.length)) && stepsOk E row && decide (L < sumSz B row)
theorem chain_no {B : List Blk} {L : Int} {E : List (Nat × Nat)} {row : List Nat} (h : chainB B L E row = true) {F : Nat → Int} (hn : ∀ k, k < B.length → 0 ≤ F k) (ht : ∀ k, k < B.length → F k + sz B k ≤ L) (hF : ∀ e ∈ E, F e.1 + sz B e.1 ≤ F e.2) : False := by
  simp only [chainB, Bool.and_eq_true, decide_eq_true_eq, List.all_eq_true] at h
  obtain ⟨⟨⟨h1, h2⟩, h3⟩, h4⟩ := h
  cases row with
  | nil => simp at h1
  | cons a r =>
    obtain ⟨z, hz, h5⟩ := chain_sum hF h3
    have := ht z (h2 z hz)
    have := hn a (h2 a List.mem_cons_self)
    omega
inductive T where
  | chain (row : List Nat)
  | pair (k j : Nat) (a b : T)
def T.depth : T → Nat
  | .chain _ => 0
  | .pair _ _ a b => max a.depth b.depth + 1
def showsB (B : List Blk) (L : Int) : T → List (Nat × Nat) → Bool
  | .chain row, E => chainB B L E row
  | .pair k j a b, E => decide ((k, j) ∈ pairsB B) && (showsB B L a (E ++ [(k, j)]) && showsB B L b (E ++ [(j, k)]))
theorem shows_no {B : List Blk} {L : Int} : ∀ {t : T} {E : List (Nat × Nat)}, showsB B L t E = true → ¬ Feas B L E
  | .chain row, E, h, ⟨F, f⟩ => chain_no h f.nn f.top f.lo
  | .pair k j a b, E, h, ⟨F, f⟩ => by
    simp only [showsB, Bool.and_eq_true, decide_eq_true_eq] at h
    rcases f.ap _ h.1 with q | q
    · exact shows_no h.2.2 ⟨F, f.nn, f.top, f.ap, fun e he => by
        rcases List.mem_append.mp he with he | he
        · exact f.lo e he
        · rw [List.mem_singleton.mp he]; exact q⟩
    · exact shows_no h.2.1 ⟨F, f.nn, f.top, f.ap, fun e he => by
        rcases List.mem_append.mp he with he | he
        · exact f.lo e he
        · rw [List.mem_singleton.mp he]; exact q⟩
/-! ### the load -/
def aliveB (t : Int) (o : Blk) : Bool := decide (o.b ≤ t) && decide (t < o.e)
def sumAt (B : List Blk) (t : Int) : Int := ((B.filter (aliveB t)).map (·.s)).sum
def loadB (B : List Blk) : Int := B.foldl (fun m x => max m (sumAt B x.b)) 0
theorem top_of (F : Nat → Int) : ∀ {S : List Nat}, S ≠ [] → ∃ m ∈ S, ∀ k ∈ S, F k ≤ F m
  | [], h => (h rfl).elim
  | [a], _ => ⟨a, List.mem_cons_self, fun k hk => by rw [List.mem_singleton.mp hk]; omega⟩
  | a :: b :: r, _ => by
    obtain ⟨m, hm, h⟩ := top_of F (S := b :: r) (by simp)
    by_cases q : F a ≤ F m
    · exact ⟨m, List.mem_cons_of_mem _ hm, fun k hk => by
        rcases List.mem_cons.mp hk with rfl | hk
        · exact q
        · exact h k hk⟩
    · exact ⟨a, List.mem_cons_self, fun k hk => by
        rcases List.mem_cons.mp hk with rfl | hk
        · omega
        · have := h k hk; omega⟩
theorem sum_erase (f : Nat → Int) : ∀ {S : List Nat} {m : Nat}, m ∈ S → (S.map f).sum = f m + ((S.erase m).map f).sum
  | a :: r, m, h => by
    by_cases q : a = m
    · subst q; simp
    · have hm : m ∈ r := by
        rcases List.mem_cons.mp h with h | h
        · exact absurd h.symm q
        · exact h
      rw [List.erase_cons_tail (by simpa using q)]
      simp only [List.map_cons, List.sum_cons]
      rw [sum_erase f hm]
      omega
theorem stack_le (s F : Nat → Int) : ∀ (N : Nat) (S : List Nat) (L : Int), S.length = N → S.Nodup → 0 ≤ L → (∀ k ∈ S, 0 ≤ F k ∧ F k + s k ≤ L ∧ 0 < s k) → (∀ k ∈ S, ∀ j ∈ S, k ≠ j → F j + s j ≤ F k ∨ F k + s k ≤ F j) → (S.map s).sum ≤ L
  | 0, S, L, h0, _, hL, _, _ => by rw [List.length_eq_zero_iff.mp h0]; simpa using hL
  | N + 1, S, L, hn, hd, hL, h1, h2 => by
    obtain ⟨m, hm, ht⟩ := top_of F (S := S) (by intro e; rw [e] at hn; cases hn)
    have q := h1 m hm
    have ih := stack_le s F N (S.erase m) (F m) (by rw [List.length_erase_of_mem hm, hn]; rfl) (hd.erase m) q.1 (fun k hk => by
      have hk' := List.mem_of_mem_erase hk
      have hne : k ≠ m := fun e => by subst e; exact (hd.not_mem_erase hk).elim
      have a1 := h1 k hk'
      have a2 := h2 k hk' m hm hne
      have a3 := ht k hk'
      omega) (fun k hk j hj => h2 k (List.mem_of_mem_erase hk) j (List.mem_of_mem_erase hj))
    rw [sum_erase s hm]
    omega
theorem sum_pos_filter (f : Nat → Int) : ∀ {S : List Nat}, (∀ k ∈ S, 0 ≤ f k) → (S.map f).sum = ((S.filter fun k => decide (0 < f k)).map f).sum
  | [], _ => rfl
  | a :: r, h => by
    have ih := sum_pos_filter f (S := r) fun k hk => h k (List.mem_cons_of_mem _ hk)
    have ha := h a List.mem_cons_self
    rw [List.filter_cons]
    split
    · simp [ih]
    · rename_i q
      simp at q
      simp [ih]; omega
theorem filter_idx {B : List Blk} (p : Blk → Bool) : (B.filter p).map (·.s) = ((List.range B.length).filter fun k => p (blk B k)).map (sz B) := by
  have e : B = (List.range B.length).map (blk B) := by
    apply List.ext_getElem
    · simp
    · intro i h1 h2
      simp [blk, List.getD, List.getElem?_eq_getElem h1]
  conv => lhs; rw [e]
  rw [List.filter_map, List.map_map]
  rfl
theorem blk_mem {B : List Blk} {k : Nat} (h : k < B.length) : blk B k ∈ B := by
  simp [blk, List.getD, List.getElem?_eq_getElem h]
theorem sumAt_le {B : List Blk} {L : Int} (hs : ∀ x ∈ B, 0 ≤ x.s) (hL : 0 ≤ L) (h : Feas B L []) (t : Int) : sumAt B t ≤ L := by
  obtain ⟨F, f⟩ := h
  unfold sumAt
  rw [filter_idx, sum_pos_filter (sz B) (fun k hk => hs _ (blk_mem (List.mem_range.mp (List.mem_filter.mp hk).1)))]
  refine stack_le (sz B) F _ _ L rfl ((List.nodup_range.filter _).filter _) hL (fun k hk => ?_) (fun k hk j hj hne => ?_)
  · obtain ⟨h1, h2⟩ := List.mem_filter.mp hk
    have h3 := List.mem_range.mp (List.mem_filter.mp h1).1
    exact ⟨f.nn k h3, f.top k h3, by simpa using h2⟩
  · obtain ⟨h1, h2⟩ := List.mem_filter.mp hk
    obtain ⟨h3, h4⟩ := List.mem_filter.mp h1
    obtain ⟨h5, h6⟩ := List.mem_filter.mp hj
    obtain ⟨h7, h8⟩ := List.mem_filter.mp h5
    have a1 := List.mem_range.mp h3
    have a2 := List.mem_range.mp h7
    simp only [aliveB, Bool.and_eq_true, decide_eq_true_eq] at h2 h4 h6 h8
    have hm : ∀ {a b : Nat}, a < b → b < B.length → 0 < sz B a → 0 < sz B b → (blk B a).b ≤ t → t < (blk B a).e → (blk B b).b ≤ t → t < (blk B b).e → Apart B F (a, b) := fun hab hb p1 p2 q1 q2 q3 q4 => f.ap _ (mem_pairs.mpr ⟨hab, hb, by
      simp only [meetB, Bool.and_eq_true, decide_eq_true_eq]
      exact ⟨p1, p2, by omega, by omega⟩⟩)
    rcases Nat.lt_or_gt_of_ne hne with q | q
    · exact hm q a2 h2 h6 h4.1 h4.2 h8.1 h8.2
    · exact (hm q a1 h6 h2 h8.1 h8.2 h4.1 h4.2).symm
theorem foldl_max_le {α : Type} (f : α → Int) {L : Int} : ∀ {l : List α} {m : Int}, m ≤ L → (∀ x ∈ l, f x ≤ L) → l.foldl (fun m x => max m (f x)) m ≤ L
  | [], m, h, _ => h
  | a :: r, m, h, hx => by
    rw [List.foldl_cons]
    have := hx a List.mem_cons_self
    exact foldl_max_le f (by omega) fun x hx' => hx x (List.mem_cons_of_mem _ hx')
theorem foldl_max_ge {α : Type} (f : α → Int) : ∀ {l : List α} {m : Int}, m ≤ l.foldl (fun m x => max m (f x)) m ∧ ∀ x ∈ l, f x ≤ l.foldl (fun m x => max m (f x)) m
  | [], m => ⟨Int.le_refl _, fun _ h => nomatch h⟩
  | a :: r, m => by
    rw [List.foldl_cons]
    obtain ⟨h1, h2⟩ := foldl_max_ge f (l := r) (m := max m (f a))
    refine ⟨by omega, fun x hx => ?_⟩
    rcases List.mem_cons.mp hx with rfl | hx
    · omega
    · exact h2 x hx
theorem load_le {B : List Blk} {L : Int} (hs : ∀ x ∈ B, 0 ≤ x.s) (hL : 0 ≤ L) (h : Feas B L []) : loadB B ≤ L :=
  foldl_max_le _ hL fun x _ => sumAt_le hs hL h x.b
/-- stacked one upon the other -/
def upTo (B : List Blk) (k : Nat) : Int := ((List.range k).map (sz B)).sum
theorem upTo_succ (B : List Blk) (k : Nat) : upTo B (k + 1) = upTo B k + sz B k := by
  simp [upTo, List.range_succ]
theorem upTo_mono {B : List Blk} (hs : ∀ k, 0 ≤ sz B k) {a b : Nat} (h : a ≤ b) : upTo B a ≤ upTo B b := by
  induction b with
  | zero => rw [Nat.le_zero.mp h]; omega
  | succ b ih =>
    rcases Nat.lt_or_ge b a with q | q
    · rw [show a = b + 1 by omega]; omega
    · have := ih q; have := hs b; rw [upTo_succ]; omega
theorem sz_nn {B : List Blk} (hs : ∀ x ∈ B, 0 ≤ x.s) (k : Nat) : 0 ≤ sz B k := by
  by_cases h : k < B.length
  · exact hs _ (blk_mem h)
  · simp [sz, blk, List.getD, List.getElem?_eq_none (Nat.le_of_not_lt h)]
theorem feas_all {B : List Blk} (hs : ∀ x ∈ B, 0 ≤ x.s) : Feas B (upTo B B.length) [] := by
  have hz := sz_nn hs
  refine ⟨upTo B, fun k _ => ?_, fun k hk => ?_, fun e he => .inr ?_, fun _ h => nomatch h⟩
  · have := upTo_mono hz (Nat.zero_le k); simpa [upTo] using this
  · rw [← upTo_succ]; exact upTo_mono hz hk
  · rw [← upTo_succ]; exact upTo_mono hz (mem_pairs.mp he).1
end K30
end
section
set_option Elab.async false
set_option linter.all false
set_option maxRecDepth 100000
set_option maxHeartbeats 4000000
/-! ### what the defs compute -/
namespace K30
open PySem L3
local macro_rules | `(tactic| simp? [$ls,*]) => `(tactic| simp only [ev_var, ev_int, ev_str, ev_bool, ev_none, ev_glc, ev_bin, ev_neg, ev_not, ev_and, ev_or, ev_and1, ev_and2, ev_or1, ev_or2, ev_ite, ev_cmp, ev_cmp2, ch_bl, ev_tup, ev_lst, ev_idx, ev_slc, pt_none, pt_some, ev_rev, rev_tup, rev_lst, slc_T, slc_L, slc_S, ev_blt, ev_isi, ev_app, ev_yes, ev_frz, ev_comp, ev_comp2, ev_call, neq_self, bne_self_eq_false, evs_nil, evs_cons, te_ev, it_sq, it_r1, it_r2, v0, vS, tr_bl, tr_int, tr_non, and_bl, or_bl, c_lt, c_le, c_gt, c_ge, c_isN, c_isntN, c_isB, c_isntB, b_add, b_sub, mk_f, mk_t, ix_tup, ix_lst, at_0, at_1, at_2, at_3, at_4, bl_lenT, bl_lenL, bl_max2, bl_sumf, bl_allf, bl_maxf, bl_sum, bl_all, bl_maxL, at_p0, set_p0, at_p1, set_p1, bl_tupT, bl_tupL, bl_int, bl_intB, sq_nil, sq_cons, s_set, s_ret, s_expr, s_ifs, s_fr, s_brk, s_cnt, s_aug, s_par2, s_asg, f_nil, ct_nm, ct_tp2, ct_tp3, wp_nil, wp_cons, cs_def, cs2_def, if_som, tg_nm, tg_sub, tg_tp2, tg_tp3, ty_tup, ty_lst, ty_int, ty_bl, ty_str, ty_non, isa_tt, isa_lt, isa_it, isa_bt, isa_st, isa_nt, isa_ti, isa_li, isa_ii, isa_bi, isa_si, isa_ni, isa_tb, isa_lb, isa_ib, isa_bb, isa_sb, isa_nb, nn_tup, nn_lst, nn_int, nn_bl, nn_str, nn_non, er_rt, er_nx, er_xn, Bool.not_true, Bool.not_false, Bool.and_true, Bool.true_and, Bool.and_false, Bool.false_and, Bool.or_true, Bool.true_or, Bool.or_false, Bool.false_or, li0, li1, li2, li3, li4, li5, li6, li7, items_tup, items_lst, items_scr, to_ok, turn1_some, turn_nx, turn_ct, turn_bk, turn_rt, wturn_ok, rb_ok, ro_some, bs_ok, om_some, ob_some, o2_some, seqK_nx, seqK_rt, seqK_bk, seqK_ct, seqK_xn, asgK_some, ptK_int, Nat.reduceAdd, Nat.reduceSub, Nat.reduceEqDiff, nc0, nc1, nc2, nc3, nc4, nc5, nc6, nc7, nc8, nc9, nc10, nc11, Int.reduceEq, Int.reduceNe, Int.reduceLT, Int.reduceLE, Int.reduceAdd, Int.reduceSub, decide_true, decide_false, c_eqI, c_neI, c_eqB, c_neB, reduceIte, Bool.false_eq_true, List.set_cons_zero, List.set_cons_succ, List.length_cons, List.length_nil, List.length_map, List.map_nil, List.map_cons, CT.slots, $ls,*])
def encB (b : Blk) : D := .tup [.int b.s, .int b.b, .int b.e]
abbrev encBs (B : List Blk) : D := .tup (B.map encB)
def encP (p : Nat × Nat) : D := .tup [.int p.1, .int p.2]
abbrev encPs (E : List (Nat × Nat)) : D := .lst (E.map encP)
abbrev encIs (P : List Int) : D := .lst (P.map .int)
theorem at_B {B : List Blk} {k : Nat} (h : k < B.length) : L2.atI (B.map encB) (k : Int) = some (encB (blk B k)) := by
  rw [at_map _ _ _ h]; simp [blk, List.getD, List.getElem?_eq_getElem h]
theorem at_I {P : List Int} {k : Nat} (h : k < P.length) : L2.atI (P.map D.int) (k : Int) = some (.int (g P k)) := by
  rw [at_map _ _ _ h]; simp [g, List.getD, List.getElem?_eq_getElem h]
theorem pures_map {α : Type} {f : α → D} (h : ∀ x, (f x).pure = true) : ∀ xs : List α, D.pures (xs.map f) = true
  | [] => rfl
  | x :: xs => by rw [List.map_cons, D.pures, h x, pures_map h xs]; rfl
theorem pure_Is (P : List Int) : (encIs P).pure = true := by
  show D.pures _ = true
  exact pures_map (fun _ => rfl) P
theorem pure_Ps (E : List (Nat × Nat)) : (encPs E).pure = true := by
  show D.pures _ = true
  exact pures_map (fun _ => rfl) E
section
variable {C : Cs}
theorem meet_body (a b : Blk) (vh : VH) : evalSs C g_meet.body (startD g_meet.m [encB a, encB b]) vh = .rt (.bl (meetB a b)) vh := by
  show evalSs C _ [some (encB a), some (encB b)] vh = _
  simp? [g_meet, encB, meetB]
theorem load_body (B : List Blk) (hl : B.length ≤ 1000) (vh : VH) : evalSs C g_load.body (startD g_load.m [encBs B]) vh = .rt (.int (loadB B)) vh := by
  show evalSs C _ [some _, none, none, none] vh = _
  have hs : B.length ≤ sizeLine := szl (by omega)
  simp? [g_load]
  generalize hr : forL _ _ _ _ _ = r
  obtain ⟨e, v, rfl, o, rfl, rfl⟩ := for_t hr (fun pre env v => ∃ o, env = [some (encBs B), some (.int (pre.foldl (fun m x => max m (sumAt B x.b)) 0)), o, none] ∧ v = vh) ⟨none, rfl, rfl⟩ (by
    rintro pre x suf _ _ hx ⟨o, rfl, rfl⟩
    simp? []
    rw [compF_map encB (aliveB x.b) (fun o => .int o.s) ?_ hs]
    · simp? []
      refine ⟨some (encB x), ?_, by trivial⟩
      rw [List.foldl_append]
      rfl
    · intro y hy
      simp? [encB, aliveB]
      rfl)
  simp? [loadB]
theorem pairs_len (B : List Blk) : (pairsB B).length ≤ B.length * B.length := by
  have h : ∀ k, (pairsAt B k).length ≤ B.length := fun k => by
    unfold pairsAt
    rw [List.length_map]
    refine Nat.le_trans (List.length_filter_le _ _) ?_
    rw [List.length_map, List.length_range]; omega
  have go : ∀ l : List Nat, (l.flatMap (pairsAt B)).length ≤ l.length * B.length := fun l => by
    induction l with
    | nil => simp
    | cons a l ih =>
      rw [List.flatMap_cons, List.length_append, List.length_cons, Nat.succ_mul]
      have := h a
      omega
  have := go (List.range B.length)
  rwa [List.length_range] at this
theorem pairs_body (hn : C.n 2 = 2) (hm : ∀ a b, Says (C.F 2) [encB a, encB b] (.bl (meetB a b))) (B : List Blk) (hl : B.length ≤ 1000) (vh : VH) : evalSs C g_pairs.body (startD g_pairs.m [encBs B]) vh = .rt (encPs (pairsB B)) vh := by
  show evalSs C _ [some _, none, none, none] vh = _
  have hs : (pairsB B).length ≤ sizeLine := szl (by
    have := pairs_len B
    have : B.length * B.length ≤ 1000 * 1000 := Nat.mul_le_mul hl hl
    omega)
  simp? [g_pairs, r1_ok (j := B.length) (inR_of (by omega) (by omega))]
  rw [compF_flat (fun (k : Nat) => D.int k) (fun k => (pairsAt B k).map encP)]
  · simp? [Int.toNat_natCast]
    unfold pairsB
    show _ = SRes.rt (D.lst (List.map _ _)) vh
    rw [List.map_flatMap]
  · intro k hk
    rw [Int.toNat_natCast] at hk
    have hk := List.mem_range.mp hk
    simp? [r2_ok (i := k + 1) (j := B.length) (inR_of (by omega) (by omega)) (inR_of (by omega) (by omega))]
    rw [compL_map (fun (i : Nat) => D.int (k + 1 + i)) (fun i => meetB (blk B k) (blk B (k + 1 + i))) (fun i => encP (k, k + 1 + i))]
    · congr 2
      unfold pairsAt
      rw [List.filter_map, List.map_map, List.map_map]
      congr 1
      rw [show ((B.length : Int) - (k + 1)).toNat = B.length - (k + 1) by omega]
      rfl
    · intro i hi
      have hi := List.mem_range.mp hi
      have e : ((k : Int) + 1 + i) = ((k + 1 + i : Nat) : Int) := by omega
      rw [e]
      have h2 : k + 1 + i < B.length := by omega
      simp? [at_B hk, at_B h2, hn, hm, encP]
  · rw [← List.map_flatMap, List.length_map]
    exact hs
theorem apart_body (B : List Blk) (P : List Int) (k j : Nat) (hk : k < B.length) (hj : j < B.length) (hpk : k < P.length) (hpj : j < P.length) (vh : VH) : evalSs C g_apart.body (startD g_apart.m [encBs B, encIs P, encP (k, j)]) vh = .rt (.bl (decide (g P j + sz B j ≤ g P k) || decide (g P k + sz B k ≤ g P j))) vh := by
  show evalSs C _ [some _, some _, some _, none, none] vh = _
  simp? [g_apart, encP, at_B hk, at_B hj, at_I hpk, at_I hpj, encB, sz]
  rfl
theorem heights_body (B : List Blk) (E : List (Nat × Nat)) (hE : InR B.length E) (hl : B.length ≤ 1000) (vh : VH) : ∃ z, evalSs C g_heights.body (startD g_heights.m [encBs B, encPs E]) vh = .rt (encIs (rounds (sz B) E B.length (B.length + 1))) (vh ++ z) := by
  show ∃ z, evalSs C _ [some _, some _, none, none, none, none] vh = _
  have hs : B.length ≤ sizeLine := szl (by omega)
  simp? [g_heights, b_mulL _ _ _ hs, r1_ok (j := B.length + 1) (inR_of (by omega) (by omega))]
  generalize hr : forL _ _ _ _ _ = r
  obtain ⟨e, v, rfl, P, o3, o4, o5, hP, rfl, rfl⟩ := for_t hr (fun pre env v => ∃ P o3 o4 o5, P = rounds (sz B) E B.length pre.length ∧ env = [some (encBs B), some (encPs E), some (.ref vh.length), o3, o4, o5] ∧ v = vh ++ [.lst (P.map .int)]) ⟨_, none, none, none, rfl, rfl, by simp [rounds, iter, zeros]⟩ (by
    rintro pre x suf _ _ hx ⟨P, o3, o4, o5, hP, rfl, rfl⟩
    have hPl : P.length = B.length := by rw [hP, rounds_len]
    simp? []
    generalize hr : forL _ _ _ _ _ = r
    obtain ⟨e, v, rfl, Q, o3, o4, o5, ⟨hQ, hQl⟩, rfl, rfl⟩ := for_t hr (fun pre env v => ∃ Q o3' o4 o5, (Q = pre.foldl (relax (sz B)) P ∧ Q.length = B.length) ∧ env = [some (encBs B), some (encPs E), some (.ref vh.length), o3', o4, o5] ∧ v = vh ++ [.lst (Q.map .int)]) ⟨_, _, _, _, ⟨rfl, hPl⟩, rfl, rfl⟩ (by
      rintro pre ⟨a, b⟩ suf _ _ hx ⟨Q, o3, o4, o5, ⟨hQ, hQl⟩, rfl, rfl⟩
      have he := hE (a, b) (by simp [hx])
      have h1 := he.1
      have h2 := he.2
      simp? [encP, ix_ref _ at_p0, at_I, at_B, hQl, h1, h2, encB, six_nat at_p0]
      refine ⟨Q.set b (max (g Q b) (g Q a + (blk B a).s)), _, _, _, ⟨?_, by simp [hQl]⟩, rfl, by simp⟩
      rw [List.foldl_append, ← hQ]
      rfl)
    simp? []
    exact ⟨Q, o3, o4, o5, by rw [List.length_append]; show Q = rounds _ _ _ (pre.length + 1); rw [rounds_succ, hQ, hP], rfl, rfl⟩)
  simp? [fz_ref at_p0]
  refine ⟨[.gone], ?_⟩
  rw [List.length_range, show ((B.length : Int) + 1).toNat = B.length + 1 by omega] at hP
  simp? [hP]
def encO (o : Option Nat) : D := match o with
  | none => .non
  | some k => .int k
/-- least places on their way, with the blocks that they came from -/
structure TL (B : List Blk) (E : List (Nat × Nat)) (P : List Int) (bf : List (Option Nat)) : Prop where
  lP : P.length = B.length
  lb : bf.length = B.length
  nn : ∀ k, k < B.length → 0 ≤ g P k
  at_ : ∀ v, v < B.length → (bf.getD v none = none ∧ g P v = 0) ∨ ∃ u, u < B.length ∧ bf.getD v none = some u ∧ (u, v) ∈ E ∧ 0 < sz B u ∧ g P v ≤ g P u + sz B u
theorem at_O {bf : List (Option Nat)} {k : Nat} (h : k < bf.length) : L2.atI (bf.map encO) (k : Int) = some (encO (bf.getD k none)) := by
  rw [at_map _ _ _ h]; simp [List.getD, List.getElem?_eq_getElem h]
/-- a chain that is too long, but not longer than is looked at -/
def ChainR (B : List Blk) (L : Int) (E : List (Nat × Nat)) (row : List Nat) : Prop := chainB B L E row = true ∧ row.length ≤ 1000
theorem long_chain_body (B : List Blk) (L : Int) (E : List (Nat × Nat)) (P : List Int) (bf : List (Option Nat)) (hT : TL B E P bf) (hz : ∀ k, 0 ≤ sz B k) (k : Nat) (hk : k < B.length) (hL : L < g P k + sz B k) (hb : L ≤ 900) (n : Nat) (vh : VH) (hn : vh[n]? = some (.lst (bf.map encO))) :
    ∃ row, ChainR B L E row ∧ evalSs C g_long_chain.body (startD g_long_chain.m [encBs B, .int L, .ref n, .int k]) vh = .rt (.tup (row.map fun k : Nat => D.int k)) vh := by
  show ∃ row, _ ∧ evalSs C _ [some _, some _, some _, some _, none, none] vh = _
  simp? [g_long_chain, s_whl]
  generalize hr : whlS _ _ _ _ _ = r
  have key := whl_g hr (fun m env v => ∃ (row : List Nat) (a : Nat) (r : List Nat) (o : Option D), (env = [some (encBs B), some (.int L), some (.ref n), some (.int k), some (.lst (row.map fun k : Nat => D.int k)), o] ∧ v = vh) ∧ row = a :: r ∧ row.all (fun k : Nat => decide (k < B.length)) = true ∧ stepsOk E row = true ∧ L < g P a + sumSz B row ∧ m = (L + 1 - sumSz B row).toNat ∧ row.length + m ≤ 1000)
    (fun r => ∃ row o, ChainR B L E row ∧ r = .nx [some (encBs B), some (.int L), some (.ref n), some (.int k), some (.lst (row.map fun k : Nat => D.int k)), o] vh) (m := (L + 1 - sumSz B [k]).toNat) (by
      have := hz k
      simp [sumSz]; omega) ⟨[k], k, [], none, ⟨rfl, rfl⟩, rfl, by simp [hk], rfl, by simpa [sumSz] using hL, rfl, by have := hz k; simp [sumSz]; omega⟩ (by
      rintro m _ _ ⟨row, a, r, o, ⟨rfl, rfl⟩, h0, h1, h2, h3, h4, h5⟩
      have hlen : row.length ≤ sizeLine := szl (by omega)
      have h1' := h1
      simp only [List.all_eq_true, decide_eq_true_eq] at h1'
      simp? []
      rw [compF_all (fun k : Nat => D.int k) (fun k => .int (sz B k)) ?_ hlen]
      · simp? []
        by_cases hq : sumSz B row ≤ L
        · have ha : a < B.length := h1' a (by rw [h0]; exact List.mem_cons_self)
          rcases hT.at_ a ha with ⟨q1, q2⟩ | ⟨u, q1, q2, q3, q4, q5⟩
          · omega
          · have e0 : L2.atI (row.map fun k : Nat => D.int k) 0 = some (.int a) := by rw [h0]; exact at_0 _ _
            have e1 : decide ((row.map (sz B)).sum ≤ L) = true := by simpa [sumSz] using hq
            simp? [e0, e1, ix_ref _ hn, at_O (hT.lb ▸ ha : a < bf.length), q2, encO, b_addL false (show [D.int u].length + (row.map fun k : Nat => D.int k).length ≤ sizeLine by rw [List.length_map]; exact szl (by simp; omega))]
            have es : sumSz B (u :: row) = sz B u + sumSz B row := by simp [sumSz]
            refine ⟨_, ?_, u :: row, u, row, o, ⟨rfl, by trivial⟩, rfl, ?_, ?_, ?_, rfl, ?_⟩
            · omega
            · rw [List.all_cons, h1]; simp [q1]
            · rw [h0, steps_cons, ← h0, h2]; simp [q3]
            · omega
            · rw [List.length_cons]; omega
        · have e1 : decide ((row.map (sz B)).sum ≤ L) = false := by simpa [sumSz] using hq
          simp? [e1]
          refine ⟨row, o, ⟨?_, by omega⟩, rfl⟩
          unfold chainB
          rw [h1, h2, h0]
          simp only [List.isEmpty_cons, Bool.not_false, Bool.true_and, decide_eq_true_eq]
          rw [← h0]; omega
      · intro x hx
        have := h1' x hx
        simp? [at_B this, encB]
        rfl)
  obtain ⟨row, o, h1, rfl⟩ := key
  exact ⟨row, h1, by simp? []⟩
end
end K30
end
section
set_option Elab.async false
set_option linter.all false
set_option maxRecDepth 100000
set_option maxHeartbeats 4000000
namespace K30
open PySem L3
local macro_rules | `(tactic| simp? [$ls,*]) => `(tactic| simp only [ev_var, ev_int, ev_str, ev_bool, ev_none, ev_glc, ev_bin, ev_neg, ev_not, ev_and, ev_or, ev_and1, ev_and2, ev_or1, ev_or2, ev_ite, ev_cmp, ev_cmp2, ch_bl, ev_tup, ev_lst, ev_idx, ev_slc, pt_none, pt_some, ev_rev, rev_tup, rev_lst, slc_T, slc_L, slc_S, ev_blt, ev_isi, ev_app, ev_yes, ev_frz, ev_comp, ev_comp2, ev_call, neq_self, bne_self_eq_false, evs_nil, evs_cons, te_ev, it_sq, it_r1, it_r2, v0, vS, tr_bl, tr_int, tr_non, and_bl, or_bl, c_lt, c_le, c_gt, c_ge, c_isN, c_isntN, c_isB, c_isntB, b_add, b_sub, mk_f, mk_t, ix_tup, ix_lst, at_0, at_1, at_2, at_3, at_4, bl_lenT, bl_lenL, bl_max2, bl_sumf, bl_allf, bl_maxf, bl_sum, bl_all, bl_maxL, at_p0, set_p0, at_p1, set_p1, bl_tupT, bl_tupL, bl_int, bl_intB, sq_nil, sq_cons, s_set, s_ret, s_expr, s_ifs, s_fr, s_brk, s_cnt, s_aug, s_par2, s_asg, f_nil, ct_nm, ct_tp2, ct_tp3, wp_nil, wp_cons, cs_def, cs2_def, if_som, tg_nm, tg_sub, tg_tp2, tg_tp3, ty_tup, ty_lst, ty_int, ty_bl, ty_str, ty_non, isa_tt, isa_lt, isa_it, isa_bt, isa_st, isa_nt, isa_ti, isa_li, isa_ii, isa_bi, isa_si, isa_ni, isa_tb, isa_lb, isa_ib, isa_bb, isa_sb, isa_nb, nn_tup, nn_lst, nn_int, nn_bl, nn_str, nn_non, er_rt, er_nx, er_xn, Bool.not_true, Bool.not_false, Bool.and_true, Bool.true_and, Bool.and_false, Bool.false_and, Bool.or_true, Bool.true_or, Bool.or_false, Bool.false_or, li0, li1, li2, li3, li4, li5, li6, li7, items_tup, items_lst, items_scr, to_ok, turn1_some, turn_nx, turn_ct, turn_bk, turn_rt, wturn_ok, rb_ok, ro_some, bs_ok, om_some, ob_some, o2_some, seqK_nx, seqK_rt, seqK_bk, seqK_ct, seqK_xn, asgK_some, ptK_int, Nat.reduceAdd, Nat.reduceSub, Nat.reduceEqDiff, nc0, nc1, nc2, nc3, nc4, nc5, nc6, nc7, nc8, nc9, nc10, nc11, Int.reduceEq, Int.reduceNe, Int.reduceLT, Int.reduceLE, Int.reduceAdd, Int.reduceSub, decide_true, decide_false, c_eqI, c_neI, c_eqB, c_neB, reduceIte, Bool.false_eq_true, List.set_cons_zero, List.set_cons_succ, List.length_cons, List.length_nil, List.length_map, List.map_nil, List.map_cons, CT.slots, $ls,*])
theorem sum_set : ∀ {Q : List Int} {b : Nat} {x : Int}, b < Q.length → (Q.set b x).sum = Q.sum - g Q b + x
  | [], b, x, h => by simp at h
  | a :: r, 0, x, h => by simp [g]; omega
  | a :: r, b + 1, x, h => by
    have := sum_set (Q := r) (b := b) (x := x) (by simpa using h)
    simp only [List.set_cons_succ, List.sum_cons, this]
    have : g (a :: r) (b + 1) = g r b := rfl
    rw [this]; omega
theorem sum_le : ∀ {P : List Int} {L : Int}, (∀ k, k < P.length → g P k ≤ L) → P.sum ≤ P.length * L
  | [], L, _ => by simp
  | a :: r, L, h => by
    have h1 := sum_le (P := r) (L := L) fun k hk => h (k + 1) (by simpa using hk)
    have h2 := h 0 (by simp)
    have h2 : a ≤ L := h2
    simp only [List.sum_cons, List.length_cons]
    rw [show ((r.length + 1 : Nat) : Int) = (r.length : Int) + 1 by omega, Int.add_mul]
    omega
def TLres (B : List Blk) (L : Int) (E : List (Nat × Nat)) (d : D) : Prop := (d = .non ∧ ∃ F, Pot B.length (sz B) E F ∧ ∀ k, k < B.length → F k + sz B k ≤ L) ∨ ∃ row, ChainR B L E row ∧ d = .tup (row.map fun k : Nat => D.int k)
theorem mulOk_of {i j : Int} (h : -1000000000000 ≤ i) (h2 : i ≤ 1000000000000) : mulOk i j = true := by
  have : (2 : Int) ^ 64 = 18446744073709551616 := by decide
  unfold mulOk
  rw [this]
  have e1 : decide (-18446744073709551616 < i) = true := by rw [decide_eq_true_eq]; omega
  have e2 : decide (i < 18446744073709551616) = true := by rw [decide_eq_true_eq]; omega
  rw [e1, e2]; rfl
theorem TL.step {B : List Blk} {E : List (Nat × Nat)} {Q : List Int} {bq : List (Option Nat)} (h : TL B E Q bq) {a b : Nat} (he : (a, b) ∈ E) (ha : a < B.length) (hb : b < B.length) (hs : 0 < sz B a) (hq : g Q b < g Q a + sz B a) : TL B E (Q.set b (g Q a + sz B a)) (bq.set b (some a)) := by
  have hlQ : b < Q.length := by rw [h.lP]; exact hb
  have hlb : b < bq.length := by rw [h.lb]; exact hb
  have up : ∀ k, g Q k ≤ g (Q.set b (g Q a + sz B a)) k := fun k => by
    rw [g_set _ _ _ _ hlQ]; split
    · rename_i q; subst q; omega
    · exact Int.le_refl _
  have gb : ∀ v, (bq.set b (some a)).getD v none = if v = b then some a else bq.getD v none := fun v => by
    simp only [List.getD, List.getElem?_set]
    by_cases e : b = v
    · subst e; simp [hlb]
    · simp [e]; intro q; exact absurd q.symm e
  refine ⟨by simp [h.lP], by simp [h.lb], fun k hk => Int.le_trans (h.nn k hk) (up k), fun v hv => ?_⟩
  rw [gb]
  by_cases e : v = b
  · subst e
    refine .inr ⟨a, ha, if_pos rfl, he, hs, ?_⟩
    have := up a
    rw [g_set _ _ _ v hlQ, if_pos rfl]; omega
  · rw [if_neg e, g_set _ _ _ v hlQ, if_neg e]
    rcases h.at_ v hv with q | ⟨u, q1, q2, q3, q4, q5⟩
    · exact .inl q
    · exact .inr ⟨u, q1, q2, q3, q4, Int.le_trans q5 (by have := up u; omega)⟩
section
variable {C : Cs}
theorem too_long_body (B : List Blk) (L : Int) (E : List (Nat × Nat)) (hl : B.length ≤ 63) (h0 : 0 ≤ L) (hb : L ≤ 900) (hz : ∀ k, 0 ≤ sz B k) (hE : InR B.length E) (hEs : ∀ e ∈ E, 0 < sz B e.1)
    (hn : C.n 12 = 4) (hlc : ∀ P bf k n vh, TL B E P bf → k < B.length → L < g P k + sz B k → vh[n]? = some (.lst (bf.map encO)) → ∃ row, ChainR B L E row ∧ cutR vh (C.F 12 [encBs B, .int L, .ref n, .int (k : Nat)] vh) = .ok (.tup (row.map fun k : Nat => D.int k)) vh) (vh : VH) :
    ∃ d z, TLres B L E d ∧ evalSs C g_too_long.body (startD g_too_long.m [encBs B, .int L, encPs E]) vh = .rt d (vh ++ z) := by
  show ∃ d z, _ ∧ evalSs C _ [some _, some _, some _, none, none, none, none, none, none, none] vh = _
  have hs : B.length ≤ sizeLine := szl (by omega)
  have hm : (0 : Int) ≤ B.length * (L + 1) ∧ (B.length : Int) * (L + 1) ≤ 63 * 901 := ⟨Int.mul_nonneg (by omega) (by omega), Int.mul_le_mul (by omega) (by omega) (by omega) (by omega)⟩
  simp? [g_too_long, b_mulL _ _ _ hs, List.length_append, List.append_assoc, List.cons_append, List.nil_append, b_mulI false (mulOk_of (i := B.length) (j := L + 1) (by omega) (by omega)), r1_ok (j := B.length * (L + 1) + 1) (inR_of (by omega) (by omega))]
  generalize hr : forL _ _ _ _ _ = r
  have key := for_g hr (fun pre env v => ∃ P bf o3 o6 o7 o8 o9, (TL B E P bf ∧ (pre.length : Int) ≤ P.sum ∧ (pre ≠ [] → 0 < B.length ∧ (pre.length : Int) - 1 ≤ B.length * L)) ∧ env = [some (encBs B), some (.int L), some (encPs E), o3, some (.ref vh.length), some (.ref (vh.length + 1)), o6, o7, o8, o9] ∧ v = vh ++ [.lst (P.map .int), .lst (bf.map encO)])
    (fun r => ∃ d z, TLres B L E d ∧ r = .rt d (vh ++ z)) ⟨zeros B.length, List.replicate B.length none, none, none, none, none, none, ⟨⟨by simp [zeros], by simp, fun k _ => Int.le_of_eq (g_zeros k).symm, fun v hv => .inl ⟨by simp [List.getD, List.getElem?_replicate, hv], g_zeros v⟩⟩, by simp [zeros], fun h => (h rfl).elim⟩, rfl, by simp [zeros, encO]⟩ (by
      rintro pre t suf _ _ hx ⟨P, bf, o3, o6, o7, o8, o9, ⟨hT, hsum, hpre⟩, rfl, rfl⟩
      simp? [r1_ok (j := B.length) (inR_of (by omega) (by omega)), Int.toNat_natCast]
      generalize hr1 : forL _ _ _ _ _ = r1
      have k1 := for_g hr1 (fun pre env v => ∃ o6, env = [some (encBs B), some (.int L), some (encPs E), some (.int t), some (.ref vh.length), some (.ref (vh.length + 1)), o6, o7, o8, o9] ∧ v = vh ++ [.lst (P.map .int), .lst (bf.map encO)] ∧ ∀ k ∈ pre, g P k + sz B k ≤ L)
        (fun r => (∃ o6, r = .nx [some (encBs B), some (.int L), some (encPs E), some (.int t), some (.ref vh.length), some (.ref (vh.length + 1)), o6, o7, o8, o9] (vh ++ [.lst (P.map .int), .lst (bf.map encO)]) ∧ ∀ k, k < B.length → g P k + sz B k ≤ L) ∨ ∃ row, ChainR B L E row ∧ r = .rt (.tup (row.map fun k : Nat => D.int k)) (vh ++ [.lst (P.map .int), .lst (bf.map encO)])) ⟨o6, rfl, rfl, fun _ h => nomatch h⟩ (by
          rintro pre k suf _ _ hx ⟨o6, rfl, rfl, hp⟩
          have hk : k < B.length := List.mem_range.mp (by rw [hx]; simp)
          simp? [ix_ref _ at_p0, at_I (hT.lP ▸ hk : k < P.length), at_B hk, encB]
          by_cases hq : L < g P k + (blk B k).s
          · obtain ⟨row, h1, h2⟩ := hlc P bf k (vh.length + 1) (vh ++ [.lst (P.map .int), .lst (bf.map encO)]) hT hk hq at_p1
            simp? [decide_eq_true hq, hn, h2]
            exact .inr ⟨row, h1, rfl⟩
          · simp? [decide_eq_false hq]
            refine ⟨_, rfl, by trivial, fun x hx => ?_⟩
            rcases List.mem_append.mp hx with hx | hx
            · exact hp x hx
            · rw [List.mem_singleton.mp hx]; show g P k + (blk B k).s ≤ L; omega)
        (by
          rintro _ _ ⟨o6, rfl, rfl, hp⟩
          exact .inl ⟨o6, rfl, fun k hk => hp k (List.mem_range.mpr hk)⟩)
      rcases k1 with ⟨o6', rfl, htop⟩ | ⟨row, h1, rfl⟩
      · simp? []
        generalize hr2 : forL _ _ _ _ _ = r2
        obtain ⟨e, v, rfl, Q, bq, mv, o8', o9', rfl, rfl, hTQ, hf, ht, hge⟩ := for_t hr2 (fun pre env v => ∃ Q bq mv o8 o9, env = [some (encBs B), some (.int L), some (encPs E), some (.int t), some (.ref vh.length), some (.ref (vh.length + 1)), o6', some (.bl mv), o8, o9] ∧ v = vh ++ [.lst (Q.map .int), .lst (bq.map encO)] ∧ TL B E Q bq ∧ (mv = false → Q = P ∧ ∀ e ∈ pre, g P e.1 + sz B e.1 ≤ g P e.2) ∧ (mv = true → P.sum + 1 ≤ Q.sum ∧ 0 < B.length) ∧ P.sum ≤ Q.sum)
          ⟨P, bf, false, o8, o9, rfl, rfl, hT, fun _ => ⟨rfl, fun _ h => nomatch h⟩, fun h => (by cases h), Int.le_refl _⟩ (by
            rintro pre ⟨a, b⟩ suf _ _ hx ⟨Q, bq, mv, o8, o9, rfl, rfl, hTQ, hf, ht, hge⟩
            have hmem : (a, b) ∈ E := by rw [hx]; simp
            obtain ⟨ha, hb'⟩ := hE _ hmem
            have ha : a < B.length := ha
            have hb' : b < B.length := hb'
            have hsa : 0 < sz B a := hEs _ hmem
            have l1 := hTQ.lP
            have l2 := hTQ.lb
            simp? [encP, ix_ref _ at_p0, at_I (l1 ▸ ha : a < Q.length), at_I (l1 ▸ hb' : b < Q.length), at_B ha, encB]
            by_cases hq : g Q b < g Q a + (blk B a).s
            · simp? [decide_eq_true hq, ix_ref _ at_p0, at_I (l1 ▸ ha : a < Q.length), at_B ha, encB, six_nat at_p0 (show b < (Q.map D.int).length by rw [List.length_map]; omega), six_nat at_p1 (show b < (bq.map encO).length by rw [List.length_map]; omega)]
              refine ⟨Q.set b (g Q a + sz B a), bq.set b (some a), true, _, _, rfl, ?_, hTQ.step hmem ha hb' hsa hq, fun h => (by cases h), fun _ => ⟨?_, by omega⟩, ?_⟩
              · simp [sz, encO]
              · rw [sum_set (by omega)]; have hq : g Q b < g Q a + sz B a := hq; omega
              · rw [sum_set (by omega)]; have hq : g Q b < g Q a + sz B a := hq; omega
            · simp? [decide_eq_false hq]
              refine ⟨Q, bq, mv, _, _, rfl, rfl, hTQ, fun hm => ⟨(hf hm).1, fun e he => ?_⟩, ht, hge⟩
              rcases List.mem_append.mp he with he | he
              · exact (hf hm).2 e he
              · rw [List.mem_singleton.mp he]
                rw [← (hf hm).1]
                show g Q a + (blk B a).s ≤ g Q b
                omega)
        simp? []
        cases mv with
        | false =>
          simp? [Bool.not_false]
          obtain ⟨hQ, he⟩ := hf rfl
          exact ⟨.non, _, .inl ⟨rfl, g P, ⟨hT.nn, he⟩, htop⟩, rfl⟩
        | true =>
          simp? [Bool.not_true]
          obtain ⟨q1, q2⟩ := ht rfl
          refine ⟨Q, bq, _, _, _, _, _, ⟨hTQ, ?_, fun _ => ⟨q2, ?_⟩⟩, rfl, rfl⟩
          · rw [List.length_append, List.length_singleton]; omega
          · have := sum_le (P := P) (L := L) fun k hk => by
              rw [hT.lP] at hk
              have := htop k hk
              have := hz k
              omega
            rw [hT.lP] at this
            rw [List.length_append, List.length_singleton]; omega
      · simp? []
        exact ⟨_, _, .inr ⟨row, h1, rfl⟩, rfl⟩)
    (by
      rintro _ _ ⟨P, bf, o3, o6, o7, o8, o9, ⟨hT, hsum, hpre⟩, rfl, rfl⟩
      rw [List.length_range] at hpre
      obtain ⟨q1, q2⟩ := hpre (by
        intro h
        have := congrArg List.length h
        rw [List.length_range, List.length_nil] at this
        omega)
      rw [show (((B.length * (L + 1) + 1 : Int).toNat : Nat) : Int) = B.length * (L + 1) + 1 by omega, Int.mul_add] at q2
      omega)
  obtain ⟨d, z, h1, rfl⟩ := key
  exact ⟨d, z, h1, by simp? []⟩
end
end K30
end
section
set_option Elab.async false
set_option linter.all false
set_option maxRecDepth 100000
set_option maxHeartbeats 4000000
namespace K30
open PySem L3
local macro_rules | `(tactic| simp? [$ls,*]) => `(tactic| simp only [ev_var, ev_int, ev_str, ev_bool, ev_none, ev_glc, ev_bin, ev_neg, ev_not, ev_and, ev_or, ev_and1, ev_and2, ev_or1, ev_or2, ev_ite, ev_cmp, ev_cmp2, ch_bl, ev_tup, ev_lst, ev_idx, ev_slc, pt_none, pt_some, ev_rev, rev_tup, rev_lst, slc_T, slc_L, slc_S, ev_blt, ev_isi, ev_app, ev_yes, ev_frz, ev_comp, ev_comp2, ev_call, neq_self, bne_self_eq_false, evs_nil, evs_cons, te_ev, it_sq, it_r1, it_r2, v0, vS, tr_bl, tr_int, tr_non, and_bl, or_bl, c_lt, c_le, c_gt, c_ge, c_isN, c_isntN, c_isB, c_isntB, b_add, b_sub, mk_f, mk_t, ix_tup, ix_lst, at_0, at_1, at_2, at_3, at_4, bl_lenT, bl_lenL, bl_max2, bl_sumf, bl_allf, bl_maxf, bl_sum, bl_all, bl_maxL, at_p0, set_p0, at_p1, set_p1, bl_tupT, bl_tupL, bl_int, bl_intB, sq_nil, sq_cons, s_set, s_ret, s_expr, s_ifs, s_fr, s_brk, s_cnt, s_aug, s_par2, s_asg, f_nil, ct_nm, ct_tp2, ct_tp3, wp_nil, wp_cons, cs_def, cs2_def, if_som, tg_nm, tg_sub, tg_tp2, tg_tp3, ty_tup, ty_lst, ty_int, ty_bl, ty_str, ty_non, isa_tt, isa_lt, isa_it, isa_bt, isa_st, isa_nt, isa_ti, isa_li, isa_ii, isa_bi, isa_si, isa_ni, isa_tb, isa_lb, isa_ib, isa_bb, isa_sb, isa_nb, nn_tup, nn_lst, nn_int, nn_bl, nn_str, nn_non, er_rt, er_nx, er_xn, Bool.not_true, Bool.not_false, Bool.and_true, Bool.true_and, Bool.and_false, Bool.false_and, Bool.or_true, Bool.true_or, Bool.or_false, Bool.false_or, li0, li1, li2, li3, li4, li5, li6, li7, items_tup, items_lst, items_scr, to_ok, turn1_some, turn_nx, turn_ct, turn_bk, turn_rt, wturn_ok, rb_ok, ro_some, bs_ok, om_some, ob_some, o2_some, seqK_nx, seqK_rt, seqK_bk, seqK_ct, seqK_xn, asgK_some, ptK_int, Nat.reduceAdd, Nat.reduceSub, Nat.reduceEqDiff, nc0, nc1, nc2, nc3, nc4, nc5, nc6, nc7, nc8, nc9, nc10, nc11, Int.reduceEq, Int.reduceNe, Int.reduceLT, Int.reduceLE, Int.reduceAdd, Int.reduceSub, decide_true, decide_false, c_eqI, c_neI, c_eqB, c_neB, reduceIte, Bool.false_eq_true, List.set_cons_zero, List.set_cons_succ, List.length_cons, List.length_nil, List.length_map, List.map_nil, List.map_cons, CT.slots, $ls,*])
theorem ee_P : EqEnc encP 1 := ee_tup2 ee_nat ee_nat
def encT : T → D
  | .chain row => .tup [.str "chain", .tup (row.map fun k : Nat => D.int k)]
  | .pair k j a b => .tup [.str "pair", .int k, .int j, encT a, encT b]
theorem pure_T : ∀ t : T, (encT t).pure = true
  | .chain row => by
    have := pures_map (f := fun k : Nat => D.int k) (fun _ => rfl) row
    simp only [encT, D.pure, D.pures, this, Bool.and_self]
  | .pair k j a b => by
    have := pure_T a
    have := pure_T b
    simp only [encT, D.pure, D.pures, *, Bool.and_self]
def T.rows (m : Nat) : T → Bool
  | .chain row => decide (row.length ≤ m)
  | .pair _ _ a b => a.rows m && b.rows m
def ShowsR (B : List Blk) (L : Int) (t : T) (E : List (Nat × Nat)) : Prop := showsB B L t E = true ∧ t.rows 1000 = true
def SR (B : List Blk) (L : Int) (E : List (Nat × Nat)) (m : Nat) (d : D) : Prop := (∃ P : List Int, d = .tup [.str "plan", .tup (P.map .int)] ∧ P.length = B.length ∧ Fit B L E (g P)) ∨ ∃ t, d = .tup [.str "none", encT t] ∧ ShowsR B L t E ∧ t.depth ≤ m
theorem SR.pure {B : List Blk} {L : Int} {E : List (Nat × Nat)} {m : Nat} {d : D} (h : SR B L E m d) : d.pure = true := by
  rcases h with ⟨P, rfl, _⟩ | ⟨t, rfl, _⟩
  · have := pures_map (f := D.int) (fun _ => rfl) P
    simp only [D.pure, D.pures, this, Bool.and_self]
  · have := pure_T t
    simp only [D.pure, D.pures, this, Bool.and_self]
/-- what search is asked -/
structure SQ (B : List Blk) (O E : List (Nat × Nat)) : Prop where
  hE : ∀ e ∈ E, e ∈ pairsB B ∨ (e.2, e.1) ∈ pairsB B
  hO : ∀ e ∈ O, e ∈ pairsB B
  hC : ∀ e ∈ pairsB B, e ∈ O ∨ e ∈ E ∨ (e.2, e.1) ∈ E
  len : O.length + E.length ≤ 5000
section
variable {B : List Blk} {O E : List (Nat × Nat)} (q : SQ B O E)
include q
theorem SQ.inr : InR B.length E := fun e he => by
  rcases q.hE e he with h | h
  · exact pair_in h
  · exact (pair_in h).symm
theorem SQ.pos : ∀ e ∈ E, 0 < sz B e.1 := fun e he => by
  rcases q.hE e he with h | h
  · exact (pair_pos h).1
  · exact (pair_pos h).2
theorem SQ.next {c : Nat × Nat} (hc : c ∈ O) : SQ B (O.filter fun p => !decide (p = c)) (E ++ [c]) where
  hE := fun e he => by
    rcases List.mem_append.mp he with h | h
    · exact q.hE e h
    · rw [List.mem_singleton.mp h]; exact .inl (q.hO c hc)
  hO := fun e he => q.hO e (List.mem_filter.mp he).1
  hC := fun e he => by
    rcases q.hC e he with h | h | h
    · by_cases hec : e = c
      · exact .inr (.inl (by rw [hec]; simp))
      · exact .inl (List.mem_filter.mpr ⟨h, by simpa using hec⟩)
    · exact .inr (.inl (by simp [h]))
    · exact .inr (.inr (by simp [h]))
  len := by
    have : (O.filter fun p => !decide (p = c)).length < O.length := List.length_filter_lt_length_iff_exists.mpr ⟨c, hc, by simp⟩
    have := q.len
    rw [List.length_append, List.length_singleton]; omega
theorem SQ.next' {c : Nat × Nat} (hc : c ∈ O) : SQ B (O.filter fun p => !decide (p = c)) (E ++ [(c.2, c.1)]) where
  hE := fun e he => by
    rcases List.mem_append.mp he with h | h
    · exact q.hE e h
    · rw [List.mem_singleton.mp h]; exact .inr (q.hO c hc)
  hO := fun e he => q.hO e (List.mem_filter.mp he).1
  hC := fun e he => by
    rcases q.hC e he with h | h | h
    · by_cases hec : e = c
      · exact .inr (.inr (by rw [hec]; simp))
      · exact .inl (List.mem_filter.mpr ⟨h, by simpa using hec⟩)
    · exact .inr (.inl (by simp [h]))
    · exact .inr (.inr (by simp [h]))
  len := by
    have : (O.filter fun p => !decide (p = c)).length < O.length := List.length_filter_lt_length_iff_exists.mpr ⟨c, hc, by simp⟩
    have := q.len
    rw [List.length_append, List.length_singleton]; omega
end
theorem Fit.less {B : List Blk} {L : Int} {E : List (Nat × Nat)} {e : Nat × Nat} {F : Nat → Int} (h : Fit B L (E ++ [e]) F) : Fit B L E F := ⟨h.nn, h.top, h.ap, fun x hx => h.lo x (by simp [hx])⟩
theorem e_pp {vh : VH} : cmpD .Eq vh (.str "plan") (.str "plan") = some (.bl true, vh) := c_eqS _ _ (by decide +kernel) (by decide +kernel)
theorem e_np {vh : VH} : cmpD .Eq vh (.str "none") (.str "plan") = some (.bl false, vh) := by
  have := c_eqS (vh := vh) "none" "plan" (by decide +kernel) (by decide +kernel)
  rwa [show ((("none" : Str) == "plan") = false) by decide +kernel] at this
theorem non_tup (ds : List D) : isNonD (.tup ds) = false := (rfl)
theorem non_non : isNonD .non = true := (rfl)
section
variable {C : Cs}
abbrev apB (B : List Blk) (P : List Int) (e : Nat × Nat) : Bool := decide (g P e.2 + sz B e.2 ≤ g P e.1) || decide (g P e.1 + sz B e.1 ≤ g P e.2)
theorem search_body (B : List Blk) (L : Int) (O E : List (Nat × Nat)) (q : SQ B O E) (hl : B.length ≤ 63)
    (n11 : C.n 11 = 3) (n7 : C.n 7 = 2) (n10 : C.n 10 = 3) (n9 : C.n 9 = 4)
    (htl : ∀ vh, ∃ d, TLres B L E d ∧ cutR vh (C.F 11 [encBs B, .int L, encPs E] vh) = .ok d vh)
    (hht : Says (C.F 7) [encBs B, encPs E] (encIs (rounds (sz B) E B.length (B.length + 1))))
    (hap : ∀ (P : List Int) (e : Nat × Nat), P.length = B.length → e.1 < B.length → e.2 < B.length → Says (C.F 10) [encBs B, encIs P, encP e] (.bl (apB B P e)))
    (hrec : ∀ O' E', O'.length < O.length → SQ B O' E' → ∀ vh, ∃ d, SR B L E' O'.length d ∧ cutR vh (C.F 9 [encBs B, .int L, encPs O', encPs E'] vh) = .ok d vh) (vh : VH) :
    ∃ d, SR B L E O.length d ∧ evalSs C g_search.body (startD g_search.m [encBs B, .int L, encPs O, encPs E]) vh = .rt d vh := by
  show ∃ d, _ ∧ evalSs C _ [some _, some _, some _, some _, none, none, none, none, none, none, none, none, none] vh = _
  obtain ⟨d1, hd1, e1⟩ := htl vh
  have hs : O.length ≤ sizeLine := szl (by have := q.len; omega)
  rcases hd1 with ⟨rfl, F, hF, hFt⟩ | ⟨row, hrow, rfl⟩
  · simp? [g_search, n11, e1, non_non, Bool.not_true, n7, hht vh]
    have hpot := rounds_pot q.inr hF q.pos
    have hle := rounds_le q.inr hF (B.length + 1)
    have hPl : (rounds (sz B) E B.length (B.length + 1)).length = B.length := rounds_len _
    generalize rounds (sz B) E B.length (B.length + 1) = P at *
    rw [compF_map encP (fun e => !apB B P e) encP ?_ hs]
    · simp? [c_eqI]
      cases hc : O.filter (fun e => !apB B P e) with
      | nil =>
        simp? [Int.ofNat_zero, Int.natCast_zero, decide_true]
        refine ⟨_, .inl ⟨P, rfl, hPl, hpot.1, fun k hk => ?_, fun e he => ?_, hpot.2⟩, rfl⟩
        · have := hle k hk
          have := hFt k hk
          omega
        · rcases q.hC e he with h | h | h
          · by_cases hq : apB B P e = true
            · simpa [Apart] using hq
            · have : e ∈ O.filter (fun e => !apB B P e) := List.mem_filter.mpr ⟨h, by simpa using hq⟩
              rw [hc] at this; cases this
          · exact .inr (hpot.2 e h)
          · exact .inl (hpot.2 _ h)
      | cons c cs =>
        have hcO : c ∈ O := (List.mem_filter.mp (by rw [hc]; exact List.mem_cons_self : c ∈ O.filter _)).1
        have hz : decide (((cs.length + 1 : Nat) : Int) = 0) = false := by rw [decide_eq_false_iff_not]; omega
        have hlen : (O.filter fun p => !decide (p = c)).length < O.length := List.length_filter_lt_length_iff_exists.mpr ⟨c, hcO, by simp⟩
        obtain ⟨d2, hd2, e2⟩ := hrec _ _ hlen (q.next hcO) vh
        obtain ⟨d3, hd3, e3⟩ := hrec _ _ hlen (q.next' hcO) vh
        have hcD : encP c = D.tup [.int c.1, .int c.2] := rfl
        have hc2 : [D.tup [.int c.2, .int c.1]] = [(c.2, c.1)].map encP := rfl
        have hc1 : [D.tup [.int c.1, .int c.2]] = [c].map encP := rfl
        simp? [hz]
        simp? [tg_tp2, hcD]
        rw [compF_map encP (fun p => !decide (p = c)) encP ?_ hs]
        · have ha : ∀ x : D, (E.map encP).length + [x].length ≤ sizeLine := fun x => szl (by have := q.len; simp; omega)
          simp? [b_addL false (ha _)]
          rw [hc1, ← List.map_append]
          simp only [n9, eq_self, reduceIte, e2, bs_ok, rb_ok]
          rcases hd2 with ⟨P2, rfl, p1, p2⟩ | ⟨t2, rfl, s1, s2⟩
          · simp? [e_pp]
            exact ⟨_, .inl ⟨P2, rfl, p1, p2.less⟩, rfl⟩
          · simp? [e_np, b_addL false (ha _)]
            rw [hc2, ← List.map_append]
            simp only [n9, eq_self, reduceIte, e3, bs_ok, rb_ok]
            rcases hd3 with ⟨P2, rfl, p1, p2⟩ | ⟨t3, rfl, s3, s4⟩
            · simp? [e_pp]
              exact ⟨_, .inl ⟨P2, rfl, p1, p2.less⟩, rfl⟩
            · simp? [e_np]
              refine ⟨_, .inr ⟨.pair c.1 c.2 t2 t3, rfl, ?_, ?_⟩, rfl⟩
              · have := q.hO c hcO
                simp only [ShowsR, showsB, T.rows, Bool.and_eq_true, decide_eq_true_eq]
                exact ⟨⟨this, s1.1, s3.1⟩, s1.2, s3.2⟩
              · simp only [T.depth]; omega
        · intro x hx
          simp? [← hcD, ee_P.c_ne (by decide) x c]
    · intro x hx
      have := pair_in (q.hO x hx)
      simp? [n10, hap P x hPl this.1 this.2 vh]
  · simp? [g_search, n11, e1, non_tup, Bool.not_false]
    exact ⟨_, .inr ⟨.chain row, rfl, ⟨hrow.1, by simpa [T.rows] using hrow.2⟩, Nat.zero_le _⟩, rfl⟩
end
end K30
end
section
set_option Elab.async false
set_option linter.all false
set_option maxRecDepth 100000
set_option maxHeartbeats 4000000
namespace K30
open PySem L3
local macro_rules | `(tactic| simp? [$ls,*]) => `(tactic| simp only [ev_var, ev_int, ev_str, ev_bool, ev_none, ev_glc, ev_bin, ev_neg, ev_not, ev_and, ev_or, ev_and1, ev_and2, ev_or1, ev_or2, ev_ite, ev_cmp, ev_cmp2, ch_bl, ev_tup, ev_lst, ev_idx, ev_slc, pt_none, pt_some, ev_rev, rev_tup, rev_lst, slc_T, slc_L, slc_S, ev_blt, ev_isi, ev_app, ev_yes, ev_frz, ev_comp, ev_comp2, ev_call, neq_self, bne_self_eq_false, evs_nil, evs_cons, te_ev, it_sq, it_r1, it_r2, v0, vS, tr_bl, tr_int, tr_non, and_bl, or_bl, c_lt, c_le, c_gt, c_ge, c_isN, c_isntN, c_isB, c_isntB, b_add, b_sub, mk_f, mk_t, ix_tup, ix_lst, at_0, at_1, at_2, at_3, at_4, bl_lenT, bl_lenL, bl_max2, bl_sumf, bl_allf, bl_maxf, bl_sum, bl_all, bl_maxL, at_p0, set_p0, at_p1, set_p1, bl_tupT, bl_tupL, bl_int, bl_intB, sq_nil, sq_cons, s_set, s_ret, s_expr, s_ifs, s_fr, s_brk, s_cnt, s_aug, s_par2, s_asg, f_nil, ct_nm, ct_tp2, ct_tp3, wp_nil, wp_cons, cs_def, cs2_def, if_som, tg_nm, tg_sub, tg_tp2, tg_tp3, ty_tup, ty_lst, ty_int, ty_bl, ty_str, ty_non, isa_tt, isa_lt, isa_it, isa_bt, isa_st, isa_nt, isa_ti, isa_li, isa_ii, isa_bi, isa_si, isa_ni, isa_tb, isa_lb, isa_ib, isa_bb, isa_sb, isa_nb, nn_tup, nn_lst, nn_int, nn_bl, nn_str, nn_non, er_rt, er_nx, er_xn, Bool.not_true, Bool.not_false, Bool.and_true, Bool.true_and, Bool.and_false, Bool.false_and, Bool.or_true, Bool.true_or, Bool.or_false, Bool.false_or, li0, li1, li2, li3, li4, li5, li6, li7, items_tup, items_lst, items_scr, to_ok, turn1_some, turn_nx, turn_ct, turn_bk, turn_rt, wturn_ok, rb_ok, ro_some, bs_ok, om_some, ob_some, o2_some, seqK_nx, seqK_rt, seqK_bk, seqK_ct, seqK_xn, asgK_some, ptK_int, Nat.reduceAdd, Nat.reduceSub, Nat.reduceEqDiff, nc0, nc1, nc2, nc3, nc4, nc5, nc6, nc7, nc8, nc9, nc10, nc11, Int.reduceEq, Int.reduceNe, Int.reduceLT, Int.reduceLE, Int.reduceAdd, Int.reduceSub, decide_true, decide_false, c_eqI, c_neI, c_eqB, c_neB, reduceIte, Bool.false_eq_true, List.set_cons_zero, List.set_cons_succ, List.length_cons, List.length_nil, List.length_map, List.map_nil, List.map_cons, CT.slots, $ls,*])
theorem mono_of {B : List Blk} {a b : Nat} : a ≤ b → True := fun _ => trivial
/-- the defs by levels, calm or within an except suite -/
structure Fam (F : Nat → Nat → List D → VH → Res D) (c : Nat → Cs) : Prop where
  FE : ∀ n, (c n).F = F n
  n2 : ∀ n, (c n).n 2 = 2
  n3 : ∀ n, (c n).n 3 = 1
  n4 : ∀ n, (c n).n 4 = 1
  n7 : ∀ n, (c n).n 7 = 2
  n8 : ∀ n, (c n).n 8 = 2
  n9 : ∀ n, (c n).n 9 = 4
  n10 : ∀ n, (c n).n 10 = 3
  n11 : ∀ n, (c n).n 11 = 3
  n12 : ∀ n, (c n).n 12 = 4
  gc : ∀ n, (c n).gc 0 = .int 10
  s2 : ∀ n ds vh, F (n + 1) 2 ds vh = endR (evalSs (c n) g_meet.body (startD g_meet.m ds) vh)
  s3 : ∀ n ds vh, F (n + 1) 3 ds vh = endR (evalSs (c n) g_load.body (startD g_load.m ds) vh)
  s4 : ∀ n ds vh, F (n + 1) 4 ds vh = endR (evalSs (c n) g_pairs.body (startD g_pairs.m ds) vh)
  s7 : ∀ n ds vh, F (n + 1) 7 ds vh = endR (evalSs (c n) g_heights.body (startD g_heights.m ds) vh)
  s8 : ∀ n ds vh, F (n + 1) 8 ds vh = endR (evalSs (c n) g_decided.body (startD g_decided.m ds) vh) ∨ F (n + 1) 8 ds vh = endR (evalSs (c n) gH_decided.body (startD g_decided.m ds) vh)
  s9 : ∀ n ds vh, F (n + 1) 9 ds vh = endR (evalSs (c n) g_search.body (startD g_search.m ds) vh)
  s10 : ∀ n ds vh, F (n + 1) 10 ds vh = endR (evalSs (c n) g_apart.body (startD g_apart.m ds) vh)
  s11 : ∀ n ds vh, F (n + 1) 11 ds vh = endR (evalSs (c n) g_too_long.body (startD g_too_long.m ds) vh)
  s12 : ∀ n ds vh, F (n + 1) 12 ds vh = endR (evalSs (c n) g_long_chain.body (startD g_long_chain.m ds) vh)
  s15 : ∀ n ds vh, F (n + 1) 15 ds vh = endR (evalSs (c n) g_least_plan.body (startD g_least_plan.m ds) vh)
section
variable {F : Nat → Nat → List D → VH → Res D} {c : Nat → Cs} (fam : Fam F c)
include fam
theorem f_meet (n : Nat) (a b : Blk) : Says (F (n + 1) 2) [encB a, encB b] (.bl (meetB a b)) := fun vh => by
  rw [fam.s2, meet_body]; exact cut_same
theorem f_load (n : Nat) (B : List Blk) (hl : B.length ≤ 63) : Says (F (n + 1) 3) [encBs B] (.int (loadB B)) := fun vh => by
  rw [fam.s3, load_body B (by omega)]; exact cut_same
theorem f_pairs (n : Nat) (B : List Blk) (hl : B.length ≤ 63) : Says (F (n + 2) 4) [encBs B] (encPs (pairsB B)) := fun vh => by
  rw [fam.s4, pairs_body (fam.n2 _) (by rw [fam.FE]; exact f_meet fam n) B (by omega)]; exact cut_same
theorem f_heights (n : Nat) (B : List Blk) (E : List (Nat × Nat)) (hE : InR B.length E) (hl : B.length ≤ 63) : Says (F (n + 1) 7) [encBs B, encPs E] (encIs (rounds (sz B) E B.length (B.length + 1))) := fun vh => by
  obtain ⟨z, h⟩ := heights_body (C := c n) B E hE (by omega) vh
  rw [fam.s7, h]; exact cut_app (pure_Is _)
theorem f_apartG (n : Nat) (B : List Blk) (P : List Int) (k j : Nat) (h1 : k < B.length) (h2 : j < B.length) (p1 : k < P.length) (p2 : j < P.length) : Says (F (n + 1) 10) [encBs B, encIs P, encP (k, j)] (.bl (apB B P (k, j))) := fun vh => by
  have := apart_body (C := c n) B P k j h1 h2 p1 p2 vh
  rw [fam.s10, this]; exact cut_same
theorem f_apart (n : Nat) (B : List Blk) (P : List Int) (e : Nat × Nat) (hP : P.length = B.length) (h1 : e.1 < B.length) (h2 : e.2 < B.length) : Says (F (n + 1) 10) [encBs B, encIs P, encP e] (.bl (apB B P e)) :=
  f_apartG fam n B P e.1 e.2 h1 h2 (hP ▸ h1) (hP ▸ h2)
theorem f_too_long (n : Nat) (B : List Blk) (L : Int) (E : List (Nat × Nat)) (hl : B.length ≤ 63) (h0 : 0 ≤ L) (hb : L ≤ 900) (hz : ∀ k, 0 ≤ sz B k) (hE : InR B.length E) (hEs : ∀ e ∈ E, 0 < sz B e.1) (vh : VH) : ∃ d, TLres B L E d ∧ cutR vh (F (n + 2) 11 [encBs B, .int L, encPs E] vh) = .ok d vh := by
  obtain ⟨d, z, h1, h2⟩ := too_long_body (C := c (n + 1)) B L E hl h0 hb hz hE hEs (fam.n12 _) (fun P bf k m vh hT hk hL hm => by
    obtain ⟨row, q1, q2⟩ := long_chain_body (C := c n) B L E P bf hT hz k hk hL hb m vh hm
    refine ⟨row, q1, ?_⟩
    rw [fam.FE, fam.s12, q2]; exact cut_same) vh
  refine ⟨d, h1, ?_⟩
  rw [fam.s11, h2]
  refine cut_app ?_
  rcases h1 with ⟨rfl, _⟩ | ⟨row, _, rfl⟩
  · rfl
  · exact pures_map (fun _ => rfl) row
theorem f_search (B : List Blk) (L : Int) (hl : B.length ≤ 63) (h0 : 0 ≤ L) (hb : L ≤ 900) (hz : ∀ k, 0 ≤ sz B k) (n : Nat) : ∀ (m : Nat) (O E : List (Nat × Nat)), O.length ≤ m → SQ B O E → ∀ vh, ∃ d, SR B L E O.length d ∧ cutR vh (F (n + m + 3) 9 [encBs B, .int L, encPs O, encPs E] vh) = .ok d vh := by
  intro m
  induction m with
  | zero =>
    intro O E hO q vh
    obtain ⟨d, h1, h2⟩ := search_body (C := c (n + 2)) B L O E q hl (fam.n11 _) (fam.n7 _) (fam.n10 _) (fam.n9 _) (by rw [fam.FE]; exact f_too_long fam n B L E hl h0 hb hz q.inr q.pos) (by rw [fam.FE]; exact f_heights fam (n + 1) B E q.inr hl) (by rw [fam.FE]; exact fun P e => f_apart fam (n + 1) B P e) (fun O' E' h => by omega) vh
    exact ⟨d, h1, by rw [fam.s9, h2]; exact cut_same⟩
  | succ m ih =>
    intro O E hO q vh
    obtain ⟨d, h1, h2⟩ := search_body (C := c (n + m + 3)) B L O E q hl (fam.n11 _) (fam.n7 _) (fam.n10 _) (fam.n9 _) (by rw [fam.FE]; exact f_too_long fam (n + m + 1) B L E hl h0 hb hz q.inr q.pos) (by rw [fam.FE]; exact f_heights fam (n + m + 2) B E q.inr hl) (by rw [fam.FE]; exact fun P e => f_apart fam (n + m + 2) B P e) (fun O' E' h q' => by rw [fam.FE]; exact ih O' E' (by omega) q') vh
    exact ⟨d, h1, by rw [show n + (m + 1) + 3 = n + m + 3 + 1 by omega, fam.s9, h2]; exact cut_same⟩
theorem sq0 (B : List Blk) (hl : B.length ≤ 63) : SQ B (pairsB B) [] where
  hE := fun _ h => nomatch h
  hO := fun _ h => h
  hC := fun _ h => .inl h
  len := by
    have := pairs_len B
    have : B.length * B.length ≤ 63 * 63 := Nat.mul_le_mul hl hl
    simp; omega
theorem f_decided (B : List Blk) (L : Int) (hl : B.length ≤ 10) (h0 : 0 ≤ L) (hb : L ≤ 900) (hz : ∀ k, 0 ≤ sz B k) (n : Nat) (vh : VH) : ∃ d, SR B L [] (pairsB B).length d ∧ cutR vh (F (n + (pairsB B).length + 4) 8 [encBs B, .int L] vh) = .ok d vh := by
  obtain ⟨d, h1, h2⟩ := f_search fam B L (by omega) h0 hb hz n _ _ _ (Nat.le_refl _) (sq0 fam B (by omega)) vh
  refine ⟨d, h1, ?_⟩
  have hp := f_pairs fam (n + (pairsB B).length + 1) B (by omega) vh
  have hq : decide ((10 : Int) < B.length) = false := by rw [decide_eq_false_iff_not]; omega
  have e1 : evalSs (c (n + (pairsB B).length + 3)) g_decided.body (startD g_decided.m [encBs B, .int L]) vh = .rt d vh := by
    show evalSs _ _ [some _, some _] vh = _
    have h2' : cutR vh (F (n + (pairsB B).length + 3) 9 [encBs B, .int L, encPs (pairsB B), .lst []] vh) = .ok d vh := h2
    simp? [g_decided, fam.gc, hq, fam.FE, fam.n4, fam.n9, hp, h2']
  have e2 : evalSs (c (n + (pairsB B).length + 3)) gH_decided.body (startD g_decided.m [encBs B, .int L]) vh = .rt d vh := by
    show evalSs _ _ [some _, some _] vh = _
    have h2' : cutR vh (F (n + (pairsB B).length + 3) 9 [encBs B, .int L, encPs (pairsB B), .lst []] vh) = .ok d vh := h2
    simp? [gH_decided, fam.gc, hq, fam.FE, fam.n4, fam.n9, hp, h2']
  rcases fam.s8 (n + (pairsB B).length + 3) [encBs B, .int L] vh with h | h
  · rw [show n + (pairsB B).length + 4 = n + (pairsB B).length + 3 + 1 from rfl, h, e1]; exact cut_same
  · rw [show n + (pairsB B).length + 4 = n + (pairsB B).length + 3 + 1 from rfl, h, e2]; exact cut_same
end
def encOT : Option T → D
  | none => .non
  | some t => encT t
/-- a paper for a peak: the load, or a tree against one less -/
def Paper (B : List Blk) (due : Int) (p : Option T) : Prop := (p = none ∧ due = loadB B) ∨ ∃ t, p = some t ∧ loadB B < due ∧ ShowsR B (due - 1) t [] ∧ t.depth ≤ (pairsB B).length
def LP (B : List Blk) (due : Int) (P : List Int) (p : Option T) : Prop := P.length = B.length ∧ Fit B due [] (g P) ∧ Paper B due p
section
variable {F : Nat → Nat → List D → VH → Res D} {c : Nat → Cs} (fam : Fam F c)
include fam
theorem load_nn (B : List Blk) : 0 ≤ loadB B := (foldl_max_ge (fun x : Blk => sumAt B x.b) (l := B) (m := 0)).1
theorem f_least (B : List Blk) (hl : B.length ≤ 10) (hs : ∀ x ∈ B, 0 ≤ x.s) (hU : upTo B B.length ≤ 95) (n : Nat) (vh : VH) : ∃ due P p, LP B due P p ∧ cutR vh (F (n + (pairsB B).length + 5) 15 [encBs B] vh) = .ok (.tup [.int due, .tup (P.map .int), encOT p]) vh := by
  have hz := sz_nn hs
  have hlo := load_nn fam B
  have hf := feas_all hs
  have hlU := load_le hs (by have := upTo_mono hz (Nat.zero_le B.length); simpa [upTo] using this) hf
  have key : ∃ due P p, LP B due P p ∧ evalSs (c (n + (pairsB B).length + 4)) g_least_plan.body (startD g_least_plan.m [encBs B]) vh = .rt (.tup [.int due, .tup (P.map .int), encOT p]) vh := by
    show ∃ due P p, _ ∧ evalSs _ _ [some _, none, none, none] vh = _
    simp? [g_least_plan, s_whl, fam.FE, fam.n3, f_load fam (n + (pairsB B).length + 3) B (by omega) vh]
    generalize hr : whlS _ _ _ _ _ = r
    have k := whl_g hr (fun m env v => ∃ lim p o3, env = [some (encBs B), some (.int lim), some (encOT p), o3] ∧ v = vh ∧ loadB B ≤ lim ∧ lim ≤ upTo B B.length ∧ Paper B lim p ∧ m = (upTo B B.length - lim).toNat)
      (fun r => ∃ due P p, LP B due P p ∧ r = .rt (.tup [.int due, .tup (P.map .int), encOT p]) vh) (m := (upTo B B.length - loadB B).toNat) (by omega) ⟨loadB B, none, none, rfl, rfl, Int.le_refl _, hlU, .inl ⟨rfl, rfl⟩, rfl⟩ (by
        rintro m _ _ ⟨lim, p, o3, rfl, rfl, h1, h2, h3, h4⟩
        obtain ⟨d, hd, e⟩ := f_decided fam B lim hl (by omega) (by omega) hz n ‹VH›
        rcases hd with ⟨P, rfl, p1, p2⟩ | ⟨t, rfl, s1, s2⟩
        · simp? [fam.FE, fam.n8, e, e_pp]
          exact ⟨lim, P, p, ⟨p1, p2, h3⟩, rfl⟩
        · simp? [fam.FE, fam.n8, e, e_np]
          have hne : lim ≠ upTo B B.length := fun h => by rw [h] at s1; exact shows_no s1.1 hf
          refine ⟨(upTo B B.length - (lim + 1)).toNat, by omega, lim + 1, some t, _, rfl, by trivial, by omega, by omega, .inr ⟨t, rfl, by omega, ?_, s2⟩, rfl⟩
          rwa [show lim + 1 - 1 = lim by omega])
    obtain ⟨due, P, p, h1, rfl⟩ := k
    exact ⟨due, P, p, h1, by simp? []⟩
  obtain ⟨due, P, p, h1, h2⟩ := key
  refine ⟨due, P, p, h1, ?_⟩
  rw [show n + (pairsB B).length + 5 = n + (pairsB B).length + 4 + 1 from rfl, fam.s15, h2]
  exact cut_same
end
/-- a peak with a paper is the least -/
theorem LP.least {B : List Blk} {due : Int} {P : List Int} {p : Option T} (h : LP B due P p) (hs : ∀ x ∈ B, 0 ≤ x.s) {L : Int} (hL : 0 ≤ L) : Feas B L [] ↔ due ≤ L := by
  constructor
  · intro hf
    rcases h.2.2 with ⟨_, rfl⟩ | ⟨t, _, _, h3, _⟩
    · exact load_le hs hL hf
    · by_cases q : due ≤ L
      · exact q
      · exact (shows_no h3.1 (hf.mono (by omega))).elim
  · intro q
    exact Feas.mono ⟨g P, h.2.1⟩ q
theorem famC : Fam (callF env30 (dfOf pd) (dfOf pdH)) (fun n => csC env30 (dfOf pd) (dfOf pdH) (callF env30 (dfOf pd) (dfOf pdH) n) n) where
  FE := fun _ => rfl
  n2 := fun _ => rfl
  n3 := fun _ => rfl
  n4 := fun _ => rfl
  n7 := fun _ => rfl
  n8 := fun _ => rfl
  n9 := fun _ => rfl
  n10 := fun _ => rfl
  n11 := fun _ => rfl
  n12 := fun _ => rfl
  gc := fun _ => rfl
  s2 := fun _ _ _ => rfl
  s3 := fun _ _ _ => rfl
  s4 := fun _ _ _ => rfl
  s7 := fun _ _ _ => rfl
  s8 := fun _ _ _ => .inl rfl
  s9 := fun _ _ _ => rfl
  s10 := fun _ _ _ => rfl
  s11 := fun _ _ _ => rfl
  s12 := fun _ _ _ => rfl
  s15 := fun _ _ _ => rfl
theorem famH : Fam (callH env30 (dfOf pdH)) (fun n => csH env30 (dfOf pdH) (callH env30 (dfOf pdH) n) n) where
  FE := fun _ => rfl
  n2 := fun _ => rfl
  n3 := fun _ => rfl
  n4 := fun _ => rfl
  n7 := fun _ => rfl
  n8 := fun _ => rfl
  n9 := fun _ => rfl
  n10 := fun _ => rfl
  n11 := fun _ => rfl
  n12 := fun _ => rfl
  gc := fun _ => rfl
  s2 := fun _ _ _ => rfl
  s3 := fun _ _ _ => rfl
  s4 := fun _ _ _ => rfl
  s7 := fun _ _ _ => rfl
  s8 := fun _ _ _ => .inr rfl
  s9 := fun _ _ _ => rfl
  s10 := fun _ _ _ => rfl
  s11 := fun _ _ _ => rfl
  s12 := fun _ _ _ => rfl
  s15 := fun _ _ _ => rfl
end K30
end
section
set_option Elab.async false
set_option linter.all false
set_option maxRecDepth 100000
set_option maxHeartbeats 4000000
namespace K30
open PySem L3
local macro_rules | `(tactic| simp? [$ls,*]) => `(tactic| simp only [ev_var, ev_int, ev_str, ev_bool, ev_none, ev_glc, ev_bin, ev_neg, ev_not, ev_and, ev_or, ev_and1, ev_and2, ev_or1, ev_or2, ev_ite, ev_cmp, ev_cmp2, ch_bl, ev_tup, ev_lst, ev_idx, ev_slc, pt_none, pt_some, ev_rev, rev_tup, rev_lst, slc_T, slc_L, slc_S, ev_blt, ev_isi, ev_app, ev_yes, ev_frz, ev_comp, ev_comp2, ev_call, neq_self, bne_self_eq_false, evs_nil, evs_cons, te_ev, it_sq, it_r1, it_r2, v0, vS, tr_bl, tr_int, tr_non, and_bl, or_bl, c_lt, c_le, c_gt, c_ge, c_isN, c_isntN, c_isB, c_isntB, b_add, b_sub, mk_f, mk_t, ix_tup, ix_lst, at_0, at_1, at_2, at_3, at_4, bl_lenT, bl_lenL, bl_max2, bl_sumf, bl_allf, bl_maxf, bl_sum, bl_all, bl_maxL, at_p0, set_p0, at_p1, set_p1, bl_tupT, bl_tupL, bl_int, bl_intB, sq_nil, sq_cons, s_set, s_ret, s_expr, s_ifs, s_fr, s_brk, s_cnt, s_aug, s_par2, s_asg, f_nil, ct_nm, ct_tp2, ct_tp3, wp_nil, wp_cons, cs_def, cs2_def, if_som, tg_nm, tg_sub, tg_tp2, tg_tp3, ty_tup, ty_lst, ty_int, ty_bl, ty_str, ty_non, isa_tt, isa_lt, isa_it, isa_bt, isa_st, isa_nt, isa_ti, isa_li, isa_ii, isa_bi, isa_si, isa_ni, isa_tb, isa_lb, isa_ib, isa_bb, isa_sb, isa_nb, nn_tup, nn_lst, nn_int, nn_bl, nn_str, nn_non, er_rt, er_nx, er_xn, Bool.not_true, Bool.not_false, Bool.and_true, Bool.true_and, Bool.and_false, Bool.false_and, Bool.or_true, Bool.true_or, Bool.or_false, Bool.false_or, li0, li1, li2, li3, li4, li5, li6, li7, items_tup, items_lst, items_scr, to_ok, turn1_some, turn_nx, turn_ct, turn_bk, turn_rt, wturn_ok, rb_ok, ro_some, bs_ok, om_some, ob_some, o2_some, seqK_nx, seqK_rt, seqK_bk, seqK_ct, seqK_xn, asgK_some, ptK_int, Nat.reduceAdd, Nat.reduceSub, Nat.reduceEqDiff, nc0, nc1, nc2, nc3, nc4, nc5, nc6, nc7, nc8, nc9, nc10, nc11, Int.reduceEq, Int.reduceNe, Int.reduceLT, Int.reduceLE, Int.reduceAdd, Int.reduceSub, decide_true, decide_false, c_eqI, c_neI, c_eqB, c_neB, reduceIte, Bool.false_eq_true, List.set_cons_zero, List.set_cons_succ, List.length_cons, List.length_nil, List.length_map, List.map_nil, List.map_cons, CT.slots, $ls,*])
abbrev Fc : Nat → Nat → List D → VH → Res D := callF env30 (dfOf pd) (dfOf pdH)
abbrev Cc (n : Nat) : Cs := csC env30 (dfOf pd) (dfOf pdH) (Fc n) n
theorem cF (n : Nat) : (Cc n).F = Fc n := rfl
section
variable (n : Nat)
theorem k1 : (Cc n).n 1 = 1 := rfl
theorem k2 : (Cc n).n 2 = 2 := rfl
theorem k3 : (Cc n).n 3 = 1 := rfl
theorem k4 : (Cc n).n 4 = 1 := rfl
theorem k5 : (Cc n).n 5 = 2 := rfl
theorem k6 : (Cc n).n 6 = 2 := rfl
theorem k7 : (Cc n).n 7 = 2 := rfl
theorem k10 : (Cc n).n 10 = 3 := rfl
theorem k11 : (Cc n).n 11 = 3 := rfl
theorem k13 : (Cc n).n 13 = 3 := rfl
theorem k14 : (Cc n).n 14 = 5 := rfl
end
theorem f_isint (n : Nat) (i : Int) : Says (Fc (n + 1) 1) [.int i] (.bl true) := fun vh => by
  have : evalSs (Cc n) g_is_integer.body [some (.int i)] vh = .rt (.bl true) vh := by simp? [g_is_integer]
  show cutR vh (endR (evalSs (Cc n) g_is_integer.body [some (.int i)] vh)) = _
  rw [this]; exact cut_same
theorem f_pairsC (n : Nat) (B : List Blk) (hl : B.length ≤ 63) (vh : VH) : cutR vh (Fc (n + 2) 4 [encBs B] vh) = .ok (encPs (pairsB B)) vh := f_pairs famC n B hl vh
def nnB (P : List Int) : Bool := P.all fun x => decide (0 ≤ x)
def planB (B : List Blk) (P : List Int) : Bool := nnB P && (pairsB B).all (apB B P)
theorem f_is_plan (n : Nat) (B : List Blk) (P : List Int) (hl : B.length ≤ 63) (hP : P.length = B.length) : Says (Fc (n + 3) 5) [encBs B, .tup (P.map .int)] (.bl (planB B P)) := fun vh => by
  have key : evalSs (Cc (n + 2)) g_is_plan.body [some (encBs B), some (.tup (P.map .int)), none, none, none] vh = .rt (.bl (planB B P)) vh := by
    have hs : P.length ≤ sizeLine := szl (by omega)
    have e0 : decide ((P.length : Int) = B.length) = true := by rw [decide_eq_true_eq, hP]
    simp? [g_is_plan, c_neI, e0]
    rw [compF_all D.int (fun x => .bl (decide (0 ≤ x))) ?_ hs]
    · simp? []
      cases hq : nnB P with
      | false =>
        have hq : (P.all fun x => decide (0 ≤ x)) = false := hq
        simp? [hq, planB, nnB]
      | true =>
        have hq' : (P.all fun x => decide (0 ≤ x)) = true := hq
        simp? [hq', cF, k4, f_pairsC n B hl, planB]
        generalize hr : forL _ _ _ _ _ = r
        have key := for_g hr (fun pre env v => ∃ o2 o3, env = [some (encBs B), some (.tup (P.map .int)), o2, o3, none] ∧ v = vh ∧ pre.all (apB B P) = true) (fun r => (∃ o2 o3, r = .nx [some (encBs B), some (.tup (P.map .int)), o2, o3, none] vh ∧ (pairsB B).all (apB B P) = true) ∨ (r = .rt (.bl false) vh ∧ (pairsB B).all (apB B P) = false)) ⟨none, none, rfl, rfl, rfl⟩ (by
          rintro pre ⟨a, b⟩ suf _ _ hx ⟨o2, o3, rfl, rfl, hp⟩
          have hm : (a, b) ∈ pairsB B := by rw [hx]; simp
          obtain ⟨ha, hb⟩ := pair_in hm
          have ha : a < B.length := ha
          have hb : b < B.length := hb
          simp? [encP, at_I (hP ▸ ha : a < P.length), at_I (hP ▸ hb : b < P.length), at_B ha, at_B hb, encB]
          have ea : (decide (g P a < g P b + (blk B b).s) && decide (g P b < g P a + (blk B a).s)) = !apB B P (a, b) := by
            have e1 : decide (g P a < g P b + (blk B b).s) = !decide (g P b + (blk B b).s ≤ g P a) := by rw [← decide_not]; exact decide_eq_decide.mpr (by omega)
            have e2 : decide (g P b < g P a + (blk B a).s) = !decide (g P a + (blk B a).s ≤ g P b) := by rw [← decide_not]; exact decide_eq_decide.mpr (by omega)
            rw [e1, e2]
            show _ = !(decide (g P b + (blk B b).s ≤ g P a) || decide (g P a + (blk B a).s ≤ g P b))
            rw [Bool.not_or]
          simp? [ea]
          cases hq : apB B P (a, b) with
          | true =>
            simp? []
            exact ⟨_, _, rfl, by trivial, by rw [List.all_append, hp]; simp [hq]⟩
          | false =>
            simp? []
            exact .inr ⟨by trivial, by rw [hx, List.all_append, List.all_cons, hq]; simp⟩)
          (by
            rintro _ _ ⟨o2, o3, rfl, rfl, hp⟩
            exact .inl ⟨o2, o3, rfl, hp⟩)
        rcases key with ⟨o2, o3, rfl, h⟩ | ⟨rfl, h⟩
        · simp? [h, hq]
        · simp? [h, hq]
    · intro x hx
      simp? [cF, k1, f_isint (n + 1) x vh]
  show cutR vh (endR (evalSs (Cc (n + 2)) g_is_plan.body [some (encBs B), some (.tup (P.map .int)), none, none, none] vh)) = _
  rw [key]; exact cut_same
def peakB (B : List Blk) (P : List Int) : Int := (List.range B.length).foldl (fun a k => max a (g P k + sz B k)) 0
theorem peak_tree {C : Cs} (B : List Blk) (P : List Int) (hl : B.length ≤ 63) (hP : P.length = B.length) (vh : VH) : evalSs C g_peak.body [some (encBs B), some (.tup (P.map .int)), none] vh = .rt (.int (peakB B P)) vh := by
  have hs : (List.range B.length).length ≤ sizeLine := szl (by simp; omega)
  simp? [g_peak, r1_ok (j := B.length) (inR_of (by omega) (by omega)), Int.toNat_natCast]
  rw [compF_all (fun k : Nat => D.int k) (fun k => .int (g P k + sz B k)) ?_ hs]
  · simp? [b_addL false (show [D.int 0].length + ((List.range B.length).map fun k => D.int (g P k + sz B k)).length ≤ sizeLine from szl (by simp; omega)), List.cons_append, List.nil_append]
    rfl
  · intro k hk
    have hk := List.mem_range.mp hk
    simp? [at_I (hP ▸ hk : k < P.length), at_B hk, encB]
    rfl
theorem f_peak (n : Nat) (B : List Blk) (P : List Int) (hl : B.length ≤ 63) (hP : P.length = B.length) : Says (Fc (n + 1) 6) [encBs B, .tup (P.map .int)] (.int (peakB B P)) := fun vh => by
  show cutR vh (endR (evalSs (Cc n) g_peak.body [some (encBs B), some (.tup (P.map .int)), none] vh)) = _
  rw [peak_tree B P hl hP]; exact cut_same
theorem peak_le {B : List Blk} {P : List Int} {L : Int} : peakB B P ≤ L ↔ 0 ≤ L ∧ ∀ k, k < B.length → g P k + sz B k ≤ L := by
  constructor
  · intro h
    obtain ⟨h1, h2⟩ := foldl_max_ge (fun k => g P k + sz B k) (l := List.range B.length) (m := 0)
    have e : (List.range B.length).foldl (fun m x => max m (g P x + sz B x)) 0 = peakB B P := rfl
    refine ⟨by omega, fun k hk => ?_⟩
    have := h2 k (List.mem_range.mpr hk)
    omega
  · intro ⟨h1, h2⟩
    exact foldl_max_le _ h1 fun k hk => h2 k (List.mem_range.mp hk)
theorem plan_iff {B : List Blk} {P : List Int} (hP : P.length = B.length) : planB B P = true ↔ (∀ k, k < B.length → 0 ≤ g P k) ∧ ∀ e ∈ pairsB B, Apart B (g P) e := by
  simp only [planB, nnB, Bool.and_eq_true, List.all_eq_true, decide_eq_true_eq, apB, Bool.or_eq_true]
  constructor
  · rintro ⟨h1, h2⟩
    exact ⟨fun k hk => h1 _ (by rw [← hP] at hk; simp [g, List.getD, List.getElem?_eq_getElem hk]), h2⟩
  · rintro ⟨h1, h2⟩
    refine ⟨fun x hx => ?_, h2⟩
    obtain ⟨k, hk, rfl⟩ := List.getElem_of_mem hx
    have := h1 k (hP ▸ hk)
    simpa [g, List.getD, List.getElem?_eq_getElem hk] using this
theorem fit_iff {B : List Blk} {P : List Int} {L : Int} (hP : P.length = B.length) (hL : 0 ≤ L) : (planB B P = true ∧ peakB B P ≤ L) ↔ Fit B L [] (g P) := by
  rw [plan_iff hP, peak_le]
  constructor
  · rintro ⟨⟨h1, h2⟩, _, h4⟩
    exact ⟨h1, h4, h2, fun _ h => nomatch h⟩
  · intro f
    exact ⟨⟨f.nn, f.ap⟩, hL, f.top⟩
end K30
end
section
set_option Elab.async false
set_option linter.all false
set_option maxRecDepth 100000
set_option maxHeartbeats 4000000
namespace K30
open PySem L3
local macro_rules | `(tactic| simp? [$ls,*]) => `(tactic| simp only [ev_var, ev_int, ev_str, ev_bool, ev_none, ev_glc, ev_bin, ev_neg, ev_not, ev_and, ev_or, ev_and1, ev_and2, ev_or1, ev_or2, ev_ite, ev_cmp, ev_cmp2, ch_bl, ev_tup, ev_lst, ev_idx, ev_slc, pt_none, pt_some, ev_rev, rev_tup, rev_lst, slc_T, slc_L, slc_S, ev_blt, ev_isi, ev_app, ev_yes, ev_frz, ev_comp, ev_comp2, ev_call, neq_self, bne_self_eq_false, evs_nil, evs_cons, te_ev, it_sq, it_r1, it_r2, v0, vS, tr_bl, tr_int, tr_non, and_bl, or_bl, c_lt, c_le, c_gt, c_ge, c_isN, c_isntN, c_isB, c_isntB, b_add, b_sub, mk_f, mk_t, ix_tup, ix_lst, at_0, at_1, at_2, at_3, at_4, bl_lenT, bl_lenL, bl_max2, bl_sumf, bl_allf, bl_maxf, bl_sum, bl_all, bl_maxL, at_p0, set_p0, at_p1, set_p1, bl_tupT, bl_tupL, bl_int, bl_intB, sq_nil, sq_cons, s_set, s_ret, s_expr, s_ifs, s_fr, s_brk, s_cnt, s_aug, s_par2, s_asg, f_nil, ct_nm, ct_tp2, ct_tp3, wp_nil, wp_cons, cs_def, cs2_def, if_som, tg_nm, tg_sub, tg_tp2, tg_tp3, ty_tup, ty_lst, ty_int, ty_bl, ty_str, ty_non, isa_tt, isa_lt, isa_it, isa_bt, isa_st, isa_nt, isa_ti, isa_li, isa_ii, isa_bi, isa_si, isa_ni, isa_tb, isa_lb, isa_ib, isa_bb, isa_sb, isa_nb, nn_tup, nn_lst, nn_int, nn_bl, nn_str, nn_non, er_rt, er_nx, er_xn, Bool.not_true, Bool.not_false, Bool.and_true, Bool.true_and, Bool.and_false, Bool.false_and, Bool.or_true, Bool.true_or, Bool.or_false, Bool.false_or, li0, li1, li2, li3, li4, li5, li6, li7, items_tup, items_lst, items_scr, to_ok, turn1_some, turn_nx, turn_ct, turn_bk, turn_rt, wturn_ok, rb_ok, ro_some, bs_ok, om_some, ob_some, o2_some, seqK_nx, seqK_rt, seqK_bk, seqK_ct, seqK_xn, asgK_some, ptK_int, Nat.reduceAdd, Nat.reduceSub, Nat.reduceEqDiff, nc0, nc1, nc2, nc3, nc4, nc5, nc6, nc7, nc8, nc9, nc10, nc11, Int.reduceEq, Int.reduceNe, Int.reduceLT, Int.reduceLE, Int.reduceAdd, Int.reduceSub, decide_true, decide_false, c_eqI, c_neI, c_eqB, c_neB, reduceIte, Bool.false_eq_true, List.set_cons_zero, List.set_cons_succ, List.length_cons, List.length_nil, List.length_map, List.map_nil, List.map_cons, CT.slots, $ls,*])
section
variable {vh : VH}
theorem e_cc : cmpD .Eq vh (.str "chain") (.str "chain") = some (.bl true, vh) := c_eqS _ _ (by decide +kernel) (by decide +kernel)
theorem e_pc : cmpD .Eq vh (.str "pair") (.str "chain") = some (.bl false, vh) := by
  have := c_eqS (vh := vh) "pair" "chain" (by decide +kernel) (by decide +kernel)
  rwa [show ((("pair" : Str) == "chain") = false) by decide +kernel] at this
theorem n_cp : cmpD .NotEq vh (.str "chain") (.str "pair") = some (.bl true, vh) := by
  have := c_neS (vh := vh) "chain" "pair" (by decide +kernel) (by decide +kernel)
  rwa [show ((("chain" : Str) == "pair") = false) by decide +kernel] at this
theorem n_pp : cmpD .NotEq vh (.str "pair") (.str "pair") = some (.bl false, vh) := by
  have := c_neS (vh := vh) "pair" "pair" (by decide +kernel) (by decide +kernel)
  rwa [show ((("pair" : Str) == "pair") = true) by decide +kernel] at this
end
section
variable (n : Nat)
theorem k22 : (Cc n).n 22 = 2 := rfl
theorem k23 : (Cc n).n 23 = 1 := rfl
theorem k24 : (Cc n).n 24 = 2 := rfl
theorem k25 : (Cc n).n 25 = 2 := rfl
theorem k28 : (Cc n).n 28 = 4 := rfl
end
theorem at_N {row : List Nat} {k : Nat} (h : k < row.length) : L2.atI (row.map fun k : Nat => D.int k) (k : Int) = some (.int (row.getD k 0 : Nat)) := by
  rw [at_map _ _ _ h]; simp [List.getD, List.getElem?_eq_getElem h]
theorem app_P (E : List (Nat × Nat)) (k j : Nat) : E.map encP ++ [D.tup [.int (k : Int), .int (j : Int)]] = (E ++ [(k, j)]).map encP := by simp [encP]
theorem r_pred {vh : VH} (m : Nat) (h : m ≤ 1000000) : r1K (.int ((m : Int) - 1)) vh = .ok ((List.range (m - 1)).map fun (k : Nat) => D.int k) vh := by
  rw [r1_ok (inR_of (by omega) (by omega)), show ((m : Int) - 1).toNat = m - 1 by omega]
theorem all_false {α : Type} {xs : List α} {f : α → Bool} {x : α} (hx : x ∈ xs) (h : f x = false) : xs.all f = false := by
  rw [List.all_eq_false]
  exact ⟨x, hx, by simp [h]⟩
theorem f_shows (B : List Blk) (L : Int) (hl : B.length ≤ 63) (n : Nat) : ∀ (t : T) (E : List (Nat × Nat)) (lvl : Int), lvl + t.depth ≤ 60 → E.length + t.depth ≤ 10000 → t.rows 100000 = true → Says (Fc (n + t.depth + 3) 14) [encBs B, .int L, encT t, encPs E, .int lvl] (.bl (showsB B L t E))
  | .chain row, E, lvl, h1, h2, h3 => fun vh => by
    have hr : row.length ≤ 100000 := by simpa [T.rows] using h3
    have hl1 : lvl ≤ 60 := by simpa [T.depth] using h1
    have e60 : decide ((60 : Int) < lvl) = false := by rw [decide_eq_false_iff_not]; omega
    have key : evalSs (Cc (n + 2)) g_shows.body [some (encBs B), some (.int L), some (encT (.chain row)), some (encPs E), some (.int lvl), none, none, none] vh = .rt (.bl (chainB B L E row)) vh := by
      by_cases h0 : row = []
      · subst h0
        simp? [g_shows, encT, e60, e_cc, n_cp]
        rfl
      · have hpos : decide ((0 : Int) < row.length) = true := by
          rw [decide_eq_true_eq]
          have := List.length_pos_iff.mpr h0
          omega
        simp? [g_shows, encT, e60, e_cc, hpos]
        rw [compF_all (fun k : Nat => D.int k) (fun k => .bl (decide (k < B.length))) ?_ (szl (by omega))]
        · simp? []
          cases hq : row.all fun k => decide (k < B.length) with
          | false =>
            simp? []
            simp only [chainB, hq, Bool.and_false, Bool.false_and]
          | true =>
            simp? [r_pred row.length (by omega)]
            rw [compF_all (fun k : Nat => D.int k) (fun k => .bl (decide ((row.getD k 0, row.getD (k + 1) 0) ∈ E))) ?_ (szl (by simp; omega))]
            · simp? []
              have es : ((List.range (row.length - 1)).all fun k => decide ((row.getD k 0, row.getD (k + 1) 0) ∈ E)) = stepsOk E row := rfl
              rw [es]
              cases hst : stepsOk E row with
              | false =>
                simp? []
                simp only [chainB, hst, Bool.and_false, Bool.false_and]
              | true =>
                simp? []
                rw [compF_all (fun k : Nat => D.int k) (fun k => .int (sz B k)) ?_ (szl (by omega))]
                · have e0 : row.isEmpty = false := by cases row with
                    | nil => exact (h0 rfl).elim
                    | cons => rfl
                  simp? [chainB, hst, hq, e0, sumSz]
                  rfl
                · intro x hx
                  have := List.all_eq_true.mp hq x hx
                  simp only [decide_eq_true_eq] at this
                  simp? [at_B this, encB]
                  rfl
            · intro k hk
              have hk := List.mem_range.mp hk
              have e1 : ((k : Int) + 1) = ((k + 1 : Nat) : Int) := by omega
              simp? [at_N (show k < row.length by omega), e1, at_N (show k + 1 < row.length by omega)]
              rw [show D.tup [.int (row.getD k 0 : Nat), .int (row.getD (k + 1) 0 : Nat)] = encP (row.getD k 0, row.getD (k + 1) 0) from rfl, ee_P.c_in (by decide)]
              simp? []
        · intro x hx
          have e0 : decide ((0 : Int) ≤ x) = true := by rw [decide_eq_true_eq]; omega
          have e1 : decide ((x : Int) < B.length) = decide (x < B.length) := decide_eq_decide.mpr (by omega)
          simp? [cF, k1, f_isint (n + 1) x vh, e0, e1]
    show cutR vh (endR (evalSs (Cc (n + 2)) g_shows.body [some (encBs B), some (.int L), some (encT (.chain row)), some (encPs E), some (.int lvl), none, none, none] vh)) = _
    rw [key]; exact cut_same
  | .pair k j a b, E, lvl, h1, h2, h3 => fun vh => by
    simp only [T.depth, T.rows, Bool.and_eq_true] at h1 h2 h3
    have hl1 : lvl ≤ 60 := by omega
    have e60 : decide ((60 : Int) < lvl) = false := by rw [decide_eq_false_iff_not]; omega
    have ia := f_shows B L hl (n + (max a.depth b.depth - a.depth)) a (E ++ [(k, j)]) (lvl + 1) (by omega) (by simp; omega) h3.1
    have ib := f_shows B L hl (n + (max a.depth b.depth - b.depth)) b (E ++ [(j, k)]) (lvl + 1) (by omega) (by simp; omega) h3.2
    rw [show n + (max a.depth b.depth - a.depth) + a.depth + 3 = n + max a.depth b.depth + 3 by omega] at ia
    rw [show n + (max a.depth b.depth - b.depth) + b.depth + 3 = n + max a.depth b.depth + 3 by omega] at ib
    have key : evalSs (Cc (n + max a.depth b.depth + 3)) g_shows.body [some (encBs B), some (.int L), some (encT (.pair k j a b)), some (encPs E), some (.int lvl), none, none, none] vh = .rt (.bl (showsB B L (.pair k j a b) E)) vh := by
      have hin : ∀ x : Nat × Nat, D.tup [.int x.1, .int x.2] = encP x := fun _ => rfl
      simp? [g_shows, encT, e60, e_pc, n_pp, cF, k1, f_isint (n + max a.depth b.depth + 2) k vh, f_isint (n + max a.depth b.depth + 2) j vh, k4, f_pairsC (n + max a.depth b.depth + 1) B hl vh]
      rw [hin (k, j), ee_P.c_nin (by decide)]
      cases hq : decide ((k, j) ∈ pairsB B) with
      | false =>
        simp? []
        simp only [showsB, hq, Bool.false_and]
      | true =>
        have h4 : ∀ x : D, (E.map encP).length + [x].length ≤ sizeLine := fun x => szl (by simp; omega)
        simp? [b_addL false (h4 _), app_P, k14, ia vh, ib vh]
        simp only [showsB, hq, Bool.true_and]
    show cutR vh (endR (evalSs (Cc (n + max a.depth b.depth + 3)) g_shows.body [some (encBs B), some (.int L), some (encT (.pair k j a b)), some (encPs E), some (.int lvl), none, none, none] vh)) = _
    rw [key]; exact cut_same
theorem f_accepts_none (B : List Blk) (L : Int) (hl : B.length ≤ 63) (n : Nat) (t : T) (h1 : t.depth ≤ 60) (h3 : t.rows 100000 = true) : Says (Fc (n + t.depth + 4) 13) [encBs B, .int L, encT t] (.bl (showsB B L t [])) := fun vh => by
  have h := f_shows B L hl n t [] 0 (by omega) (by simp; omega) h3 vh
  have h : cutR vh (Fc (n + t.depth + 3) 14 [encBs B, .int L, encT t, .lst [], .int 0] vh) = _ := h
  have key : evalSs (Cc (n + t.depth + 3)) g_accepts_none.body [some (encBs B), some (.int L), some (encT t)] vh = .rt (.bl (showsB B L t [])) vh := by
    simp? [g_accepts_none, cF, k14, h]
  show cutR vh (endR (evalSs (Cc (n + t.depth + 3)) g_accepts_none.body [some (encBs B), some (.int L), some (encT t)] vh)) = _
  rw [key]; exact cut_same
end K30
end
section
set_option Elab.async false
set_option linter.all false
set_option maxRecDepth 100000
set_option maxHeartbeats 4000000
namespace K30
open PySem L3
local macro_rules | `(tactic| simp? [$ls,*]) => `(tactic| simp only [ev_var, ev_int, ev_str, ev_bool, ev_none, ev_glc, ev_bin, ev_neg, ev_not, ev_and, ev_or, ev_and1, ev_and2, ev_or1, ev_or2, ev_ite, ev_cmp, ev_cmp2, ch_bl, ev_tup, ev_lst, ev_idx, ev_slc, pt_none, pt_some, ev_rev, rev_tup, rev_lst, slc_T, slc_L, slc_S, ev_blt, ev_isi, ev_app, ev_yes, ev_frz, ev_comp, ev_comp2, ev_call, neq_self, bne_self_eq_false, evs_nil, evs_cons, te_ev, it_sq, it_r1, it_r2, v0, vS, tr_bl, tr_int, tr_non, and_bl, or_bl, c_lt, c_le, c_gt, c_ge, c_isN, c_isntN, c_isB, c_isntB, b_add, b_sub, mk_f, mk_t, ix_tup, ix_lst, at_0, at_1, at_2, at_3, at_4, bl_lenT, bl_lenL, bl_max2, bl_sumf, bl_allf, bl_maxf, bl_sum, bl_all, bl_maxL, at_p0, set_p0, at_p1, set_p1, bl_tupT, bl_tupL, bl_int, bl_intB, sq_nil, sq_cons, s_set, s_ret, s_expr, s_ifs, s_fr, s_brk, s_cnt, s_aug, s_par2, s_asg, f_nil, ct_nm, ct_tp2, ct_tp3, wp_nil, wp_cons, cs_def, cs2_def, if_som, tg_nm, tg_sub, tg_tp2, tg_tp3, ty_tup, ty_lst, ty_int, ty_bl, ty_str, ty_non, isa_tt, isa_lt, isa_it, isa_bt, isa_st, isa_nt, isa_ti, isa_li, isa_ii, isa_bi, isa_si, isa_ni, isa_tb, isa_lb, isa_ib, isa_bb, isa_sb, isa_nb, nn_tup, nn_lst, nn_int, nn_bl, nn_str, nn_non, er_rt, er_nx, er_xn, Bool.not_true, Bool.not_false, Bool.and_true, Bool.true_and, Bool.and_false, Bool.false_and, Bool.or_true, Bool.true_or, Bool.or_false, Bool.false_or, li0, li1, li2, li3, li4, li5, li6, li7, items_tup, items_lst, items_scr, to_ok, turn1_some, turn_nx, turn_ct, turn_bk, turn_rt, wturn_ok, rb_ok, ro_some, bs_ok, om_some, ob_some, o2_some, seqK_nx, seqK_rt, seqK_bk, seqK_ct, seqK_xn, asgK_some, ptK_int, Nat.reduceAdd, Nat.reduceSub, Nat.reduceEqDiff, nc0, nc1, nc2, nc3, nc4, nc5, nc6, nc7, nc8, nc9, nc10, nc11, Int.reduceEq, Int.reduceNe, Int.reduceLT, Int.reduceLE, Int.reduceAdd, Int.reduceSub, decide_true, decide_false, c_eqI, c_neI, c_eqB, c_neB, reduceIte, Bool.false_eq_true, List.set_cons_zero, List.set_cons_succ, List.length_cons, List.length_nil, List.length_map, List.map_nil, List.map_cons, CT.slots, $ls,*])
def acceptB (B : List Blk) (p : Int) (P : List Int) : Option T → Bool
  | none => planB B P && (decide (peakB B P ≤ p) && decide (p ≤ loadB B))
  | some t => planB B P && (decide (peakB B P ≤ p) && showsB B (p - 1) t [])
def okT (q : Option T) : Prop := ∀ t, q = some t → t.depth ≤ 60 ∧ t.rows 100000 = true
def depT : Option T → Nat
  | none => 0
  | some t => t.depth
theorem f_accepts_least (B : List Blk) (hl : B.length ≤ 63) (n : Nat) (p : Int) (P : List Int) (q : Option T) (hP : P.length = B.length) (hq : okT q) : Says (Fc (n + depT q + 5) 16) [encBs B, .tup [.int p, .tup (P.map .int), encOT q]] (.bl (acceptB B p P q)) := fun vh => by
  have key : evalSs (Cc (n + depT q + 4)) g_accepts_least.body [some (encBs B), some (.tup [.int p, .tup (P.map .int), encOT q])] vh = .rt (.bl (acceptB B p P q)) vh := by
    have h1 := f_isint (n + depT q + 3) p vh
    have h2 := f_is_plan (n + depT q + 1) B P hl hP vh
    have h3 := f_peak (n + depT q + 3) B P hl hP vh
    simp? [g_accepts_least, cF, k1, h1, k5, h2]
    cases e1 : planB B P with
    | false => simp? []; cases q <;> simp [acceptB, e1]
    | true =>
      simp? [k6, h3]
      by_cases e2 : p < peakB B P
      · simp? [decide_eq_true e2]
        have : decide (peakB B P ≤ p) = false := by rw [decide_eq_false_iff_not]; omega
        cases q <;> simp only [acceptB, e1, this, Bool.false_and, Bool.and_false]
      · simp? [decide_eq_false e2]
        have e3 : decide (peakB B P ≤ p) = true := by rw [decide_eq_true_eq]; omega
        cases q with
        | none =>
          have h4 := f_load famC (n + depT none + 3) B hl vh
          simp? [encOT, k3, h4]
          simp only [acceptB, e1, e3, Bool.true_and]
        | some t =>
          obtain ⟨d1, d2⟩ := hq t rfl
          have h4 := f_accepts_none B (p - 1) hl n t d1 d2 vh
          have en : isNonD (encT t) = false := by cases t <;> rfl
          simp? [encOT, en, k13, depT, h4]
          simp only [acceptB, e1, e3, Bool.true_and]
  show cutR vh (endR (evalSs (Cc (n + depT q + 4)) g_accepts_least.body [some (encBs B), some (.tup [.int p, .tup (P.map .int), encOT q])] vh)) = _
  rw [key]; exact cut_same
/-! ### the law's own meet, pairs, plan, peak, shows -/
structure BOk (x : Blk) : Prop where
  s0 : 0 ≤ x.s
  s1 : x.s ≤ 1000
  b0 : -1000 ≤ x.b
  be : x.b < x.e
  e1 : x.e ≤ 1000
theorem f_law_meet (n : Nat) (a b : Blk) (ha : BOk a) (hb : BOk b) : Says (Fc (n + 1) 22) [encB a, encB b] (.bl (meetB a b)) := fun vh => by
  have key : evalSs (Cc n) g__law_meet.body [some (encB a), some (encB b), none] vh = .rt (.bl (meetB a b)) vh := by
    have a1 := ha.b0
    have a2 := ha.be
    have a3 := ha.e1
    have b2 := hb.be
    simp? [g__law_meet, encB, r2_ok (i := a.b) (j := a.e) (inR_of (by omega) (by omega)) (inR_of (by omega) (by omega))]
    rw [compF_map (fun k : Nat => D.int (a.b + k)) (fun k => decide (b.b ≤ a.b + k) && decide (a.b + k < b.e)) (fun k => .int (a.b + k)) ?_ (szl (by simp; omega))]
    · simp? []
      have e : decide ((0 : Int) < ((List.range (a.e - a.b).toNat).filter fun k : Nat => decide (b.b ≤ a.b + k) && decide (a.b + k < b.e)).length) = (decide (a.b < b.e) && decide (b.b < a.e)) := by
        rw [← Bool.decide_and]
        refine decide_eq_decide.mpr ⟨fun h => ?_, fun ⟨h1, h2⟩ => ?_⟩
        · have : 0 < ((List.range (a.e - a.b).toNat).filter fun k : Nat => decide (b.b ≤ a.b + k) && decide (a.b + k < b.e)).length := by omega
          obtain ⟨k, hk⟩ := List.exists_mem_of_length_pos this
          obtain ⟨h1, h2⟩ := List.mem_filter.mp hk
          have h1 := List.mem_range.mp h1
          simp only [Bool.and_eq_true, decide_eq_true_eq] at h2
          omega
        · have : (max b.b a.b - a.b).toNat ∈ (List.range (a.e - a.b).toNat).filter fun k : Nat => decide (b.b ≤ a.b + k) && decide (a.b + k < b.e) := by
            refine List.mem_filter.mpr ⟨List.mem_range.mpr (by omega), ?_⟩
            simp only [Bool.and_eq_true, decide_eq_true_eq]
            omega
          have := List.length_pos_of_mem this
          omega
      rw [e]
      rfl
    · intro k hk
      simp? []
  show cutR vh (endR (evalSs (Cc n) g__law_meet.body [some (encB a), some (encB b), none] vh)) = _
  rw [key]; exact cut_same
theorem f_law_pairs (n : Nat) (B : List Blk) (hl : B.length ≤ 63) (hB : ∀ x ∈ B, BOk x) : Says (Fc (n + 2) 23) [encBs B] (encPs (pairsB B)) := fun vh => by
  have key : evalSs (Cc (n + 1)) g__law_pairs.body [some (encBs B), none, none, none] vh = .rt (encPs (pairsB B)) vh := by
    simp? [g__law_pairs, r1_ok (j := B.length) (inR_of (by omega) (by omega)), Int.toNat_natCast]
    generalize hr : forL _ _ _ _ _ = r
    obtain ⟨e, v, rfl, o2, rfl, rfl⟩ := for_t hr (fun pre env v => ∃ o2, env = [some (encBs B), some (.lst ((pre.flatMap (pairsAt B)).map encP)), o2, none] ∧ v = vh) ⟨none, rfl, rfl⟩ (by
      rintro pre k suf _ _ hx ⟨o2, rfl, rfl⟩
      have hk : k < B.length := List.mem_range.mp (by rw [hx]; simp)
      simp? [r2_ok (i := k + 1) (j := B.length) (inR_of (by omega) (by omega)) (inR_of (by omega) (by omega))]
      rw [compF_map (fun i : Nat => D.int (k + 1 + i)) (fun i => meetB (blk B k) (blk B (k + 1 + i))) (fun i => encP (k, k + 1 + i)) ?_ (szl (by simp; omega))]
      · have e : ((List.range ((B.length : Int) - (k + 1)).toNat).filter fun i => meetB (blk B k) (blk B (k + 1 + i))).map (fun i => encP (k, k + 1 + i)) = (pairsAt B k).map encP := by
          unfold pairsAt
          rw [List.filter_map, List.map_map, List.map_map]
          rw [show ((B.length : Int) - (k + 1)).toNat = B.length - (k + 1) by omega]
          rfl
        have hlen : ((pre.flatMap (pairsAt B)).map encP).length + ((pairsAt B k).map encP).length ≤ sizeLine := szl (by
          have h := pairs_len B
          have hm : B.length * B.length ≤ 63 * 63 := Nat.mul_le_mul hl hl
          have : (pairsB B).length = (pre.flatMap (pairsAt B)).length + ((pairsAt B k).length + (suf.flatMap (pairsAt B)).length) := by
            unfold pairsB; rw [hx]; simp
          simp only [List.length_map]
          omega)
        simp? [e, b_addL false hlen]
        exact ⟨some (.int k), by rw [← List.map_append, List.flatMap_append]; simp, by trivial⟩
      · intro i hi
        have hi := List.mem_range.mp hi
        have e : ((k : Int) + 1 + i) = ((k + 1 + i : Nat) : Int) := by omega
        rw [e]
        have h2 : k + 1 + i < B.length := by omega
        simp? [at_B hk, at_B h2, cF, k22, f_law_meet n (blk B k) (blk B (k + 1 + i)) (hB _ (blk_mem hk)) (hB _ (blk_mem h2)), encP])
    simp? []
    rfl
  show cutR vh (endR (evalSs (Cc (n + 1)) g__law_pairs.body [some (encBs B), none, none, none] vh)) = _
  rw [key]; exact cut_same
theorem f_law_plan (n : Nat) (B : List Blk) (P : List Int) (hl : B.length ≤ 63) (hB : ∀ x ∈ B, BOk x) (hP : P.length = B.length) : Says (Fc (n + 3) 24) [encBs B, .tup (P.map .int)] (.bl (planB B P)) := fun vh => by
  have key : evalSs (Cc (n + 2)) g__law_plan.body [some (encBs B), some (.tup (P.map .int)), none, none, none] vh = .rt (.bl (planB B P)) vh := by
    have hs : P.length ≤ sizeLine := szl (by omega)
    simp? [g__law_plan]
    rw [compF_map D.int (fun x => decide (x < 0)) D.int ?_ hs]
    · simp? []
      have e0 : decide ((0 : Int) < (P.filter fun x => decide (x < 0)).length) = !nnB P := by
        have : nnB P = true ↔ ¬ ((0 : Int) < (P.filter fun x => decide (x < 0)).length) := by
          simp only [nnB, List.all_eq_true, decide_eq_true_eq]
          constructor
          · intro h q
            obtain ⟨x, hx⟩ := List.exists_mem_of_length_pos (l := P.filter fun x => decide (x < 0)) (by omega)
            obtain ⟨h1, h2⟩ := List.mem_filter.mp hx
            have := h x h1
            simp only [decide_eq_true_eq] at h2
            omega
          · intro h x hx
            by_cases q : 0 ≤ x
            · exact q
            · have := List.length_pos_of_mem (List.mem_filter.mpr ⟨hx, by simpa using q⟩ : x ∈ P.filter fun x => decide (x < 0))
              omega
        cases hn : nnB P with
        | true => rw [decide_eq_false (this.mp hn)]; rfl
        | false =>
          rw [Bool.not_false, decide_eq_true_eq]
          by_cases q : (0 : Int) < (P.filter fun x => decide (x < 0)).length
          · exact q
          · rw [this.mpr q] at hn; cases hn
      rw [e0]
      cases hq : nnB P with
      | false => simp? [planB, hq]
      | true =>
        simp? [cF, k23, f_law_pairs n B hl hB vh, planB, hq]
        generalize hr : forL _ _ _ _ _ = r
        have key := for_g hr (fun pre env v => ∃ o2 o3, env = [some (encBs B), some (.tup (P.map .int)), o2, o3, none] ∧ v = vh ∧ pre.all (apB B P) = true) (fun r => (∃ o2 o3, r = .nx [some (encBs B), some (.tup (P.map .int)), o2, o3, none] vh ∧ (pairsB B).all (apB B P) = true) ∨ (r = .rt (.bl false) vh ∧ (pairsB B).all (apB B P) = false)) ⟨none, none, rfl, rfl, rfl⟩ (by
          rintro pre ⟨a, b⟩ suf _ _ hx ⟨o2, o3, rfl, rfl, hp⟩
          have hm : (a, b) ∈ pairsB B := by rw [hx]; simp
          obtain ⟨ha, hb⟩ := pair_in hm
          have ha : a < B.length := ha
          have hb : b < B.length := hb
          simp? [encP, at_I (hP ▸ ha : a < P.length), at_I (hP ▸ hb : b < P.length), at_B ha, at_B hb, encB]
          have ea : (decide (g P b < g P a + (blk B a).s) && decide (g P a < g P b + (blk B b).s)) = !apB B P (a, b) := by
            have e1 : decide (g P a < g P b + (blk B b).s) = !decide (g P b + (blk B b).s ≤ g P a) := by rw [← decide_not]; exact decide_eq_decide.mpr (by omega)
            have e2 : decide (g P b < g P a + (blk B a).s) = !decide (g P a + (blk B a).s ≤ g P b) := by rw [← decide_not]; exact decide_eq_decide.mpr (by omega)
            rw [e1, e2]
            show _ = !(decide (g P b + (blk B b).s ≤ g P a) || decide (g P a + (blk B a).s ≤ g P b))
            rw [Bool.not_or, Bool.and_comm]
          simp? [ea]
          cases hq : apB B P (a, b) with
          | true =>
            simp? []
            exact ⟨_, _, rfl, by trivial, by rw [List.all_append, hp]; simp [hq]⟩
          | false =>
            simp? []
            exact .inr ⟨by trivial, by rw [hx, List.all_append, List.all_cons, hq]; simp⟩)
          (by
            rintro _ _ ⟨o2, o3, rfl, rfl, hp⟩
            exact .inl ⟨o2, o3, rfl, hp⟩)
        rcases key with ⟨o2, o3, rfl, h⟩ | ⟨rfl, h⟩
        · simp? [h, hq]
        · simp? [h, hq]
    · intro x hx
      simp? []
  show cutR vh (endR (evalSs (Cc (n + 2)) g__law_plan.body [some (encBs B), some (.tup (P.map .int)), none, none, none] vh)) = _
  rw [key]; exact cut_same
theorem f_law_peak (n : Nat) (B : List Blk) (P : List Int) (hl : B.length ≤ 63) (hP : P.length = B.length) : Says (Fc (n + 1) 25) [encBs B, .tup (P.map .int)] (.int (peakB B P)) := fun vh => by
  show cutR vh (endR (evalSs (Cc n) g_peak.body [some (encBs B), some (.tup (P.map .int)), none] vh)) = _
  rw [peak_tree B P hl hP]; exact cut_same
end K30
end
section
set_option Elab.async false
set_option linter.all false
set_option maxRecDepth 100000
set_option maxHeartbeats 4000000
namespace K30
open PySem L3
local macro_rules | `(tactic| simp? [$ls,*]) => `(tactic| simp only [ev_var, ev_int, ev_str, ev_bool, ev_none, ev_glc, ev_bin, ev_neg, ev_not, ev_and, ev_or, ev_and1, ev_and2, ev_or1, ev_or2, ev_ite, ev_cmp, ev_cmp2, ch_bl, ev_tup, ev_lst, ev_idx, ev_slc, pt_none, pt_some, ev_rev, rev_tup, rev_lst, slc_T, slc_L, slc_S, ev_blt, ev_isi, ev_app, ev_yes, ev_frz, ev_comp, ev_comp2, ev_call, neq_self, bne_self_eq_false, evs_nil, evs_cons, te_ev, it_sq, it_r1, it_r2, v0, vS, tr_bl, tr_int, tr_non, and_bl, or_bl, c_lt, c_le, c_gt, c_ge, c_isN, c_isntN, c_isB, c_isntB, b_add, b_sub, mk_f, mk_t, ix_tup, ix_lst, at_0, at_1, at_2, at_3, at_4, bl_lenT, bl_lenL, bl_max2, bl_sumf, bl_allf, bl_maxf, bl_sum, bl_all, bl_maxL, at_p0, set_p0, at_p1, set_p1, bl_tupT, bl_tupL, bl_int, bl_intB, sq_nil, sq_cons, s_set, s_ret, s_expr, s_ifs, s_fr, s_brk, s_cnt, s_aug, s_par2, s_asg, f_nil, ct_nm, ct_tp2, ct_tp3, wp_nil, wp_cons, cs_def, cs2_def, if_som, tg_nm, tg_sub, tg_tp2, tg_tp3, ty_tup, ty_lst, ty_int, ty_bl, ty_str, ty_non, isa_tt, isa_lt, isa_it, isa_bt, isa_st, isa_nt, isa_ti, isa_li, isa_ii, isa_bi, isa_si, isa_ni, isa_tb, isa_lb, isa_ib, isa_bb, isa_sb, isa_nb, nn_tup, nn_lst, nn_int, nn_bl, nn_str, nn_non, er_rt, er_nx, er_xn, Bool.not_true, Bool.not_false, Bool.and_true, Bool.true_and, Bool.and_false, Bool.false_and, Bool.or_true, Bool.true_or, Bool.or_false, Bool.false_or, li0, li1, li2, li3, li4, li5, li6, li7, items_tup, items_lst, items_scr, to_ok, turn1_some, turn_nx, turn_ct, turn_bk, turn_rt, wturn_ok, rb_ok, ro_some, bs_ok, om_some, ob_some, o2_some, seqK_nx, seqK_rt, seqK_bk, seqK_ct, seqK_xn, asgK_some, ptK_int, Nat.reduceAdd, Nat.reduceSub, Nat.reduceEqDiff, nc0, nc1, nc2, nc3, nc4, nc5, nc6, nc7, nc8, nc9, nc10, nc11, Int.reduceEq, Int.reduceNe, Int.reduceLT, Int.reduceLE, Int.reduceAdd, Int.reduceSub, decide_true, decide_false, c_eqI, c_neI, c_eqB, c_neB, reduceIte, Bool.false_eq_true, List.set_cons_zero, List.set_cons_succ, List.length_cons, List.length_nil, List.length_map, List.map_nil, List.map_cons, CT.slots, $ls,*])
theorem ne_row {vh : VH} (row : List Nat) : cmpD .NotEq vh (.tup (row.map fun k : Nat => D.int k)) (.tup []) = some (.bl (!row.isEmpty), vh) := by
  have := (ee_tupL ee_nat).c_ne (vh := vh) (by decide) row []
  rw [List.map_nil] at this
  rw [this]
  cases row <;> simp
theorem f_law_shows (B : List Blk) (L : Int) (hl : B.length ≤ 63) (hB : ∀ x ∈ B, BOk x) (n : Nat) : ∀ (t : T) (E : List (Nat × Nat)), E.length + t.depth ≤ 10000 → t.rows 100000 = true → Says (Fc (n + t.depth + 3) 28) [encBs B, .int L, encT t, encPs E] (.bl (showsB B L t E))
  | .chain row, E, h2, h3 => fun vh => by
    have hr : row.length ≤ 100000 := by simpa [T.rows] using h3
    have key : evalSs (Cc (n + 2)) g__law_shows.body [some (encBs B), some (.int L), some (encT (.chain row)), some (encPs E), none, none] vh = .rt (.bl (chainB B L E row)) vh := by
      simp? [g__law_shows, encT, e_cc]
      rw [compF_map (fun k : Nat => D.int k) (fun k => !decide (k < B.length)) (fun k : Nat => D.int k) ?_ (szl (by omega))]
      · simp? []
        have ea : decide ((0 : Int) < (row.filter fun k => !decide (k < B.length)).length) = !(row.all fun k => decide (k < B.length)) := by
          cases hq : row.all fun k => decide (k < B.length) with
          | true =>
            rw [List.filter_eq_nil_iff.mpr (fun x hx => by simpa using List.all_eq_true.mp hq x hx)]
            rfl
          | false =>
            obtain ⟨x, hx, h⟩ := List.all_eq_false.mp hq
            have := List.length_pos_of_mem (List.mem_filter.mpr ⟨hx, by simpa using h⟩ : x ∈ row.filter fun k => !decide (k < B.length))
            rw [Bool.not_false, decide_eq_true_eq]; omega
        rw [ea]
        cases hq : row.all fun k => decide (k < B.length) with
        | false =>
          simp? []
          simp only [chainB, hq, Bool.and_false, Bool.false_and]
        | true =>
          simp? [r_pred row.length (by omega)]
          rw [compF_map (fun k : Nat => D.int k) (fun k => !decide ((row.getD k 0, row.getD (k + 1) 0) ∈ E)) (fun k : Nat => D.int k) ?_ (szl (by simp; omega))]
          · simp? []
            have eb : decide ((0 : Int) < ((List.range (row.length - 1)).filter fun k => !decide ((row.getD k 0, row.getD (k + 1) 0) ∈ E)).length) = !stepsOk E row := by
              unfold stepsOk
              cases hq : (List.range (row.length - 1)).all fun k => decide ((row.getD k 0, row.getD (k + 1) 0) ∈ E) with
              | true =>
                rw [List.filter_eq_nil_iff.mpr (fun x hx => by simpa using List.all_eq_true.mp hq x hx)]
                rfl
              | false =>
                obtain ⟨x, hx, h⟩ := List.all_eq_false.mp hq
                have := List.length_pos_of_mem (List.mem_filter.mpr ⟨hx, by simpa using h⟩ : x ∈ (List.range (row.length - 1)).filter fun k => !decide ((row.getD k 0, row.getD (k + 1) 0) ∈ E))
                rw [Bool.not_false, decide_eq_true_eq]; omega
            rw [eb]
            cases hst : stepsOk E row with
            | false =>
              simp? []
              simp only [chainB, hst, Bool.and_false, Bool.false_and]
            | true =>
              simp? [ne_row]
              cases he : row.isEmpty with
              | true =>
                simp? []
                simp only [chainB, he, Bool.not_true, Bool.false_and]
              | false =>
                simp? []
                rw [compF_all (fun k : Nat => D.int k) (fun k => .int (sz B k)) ?_ (szl (by omega))]
                · simp? [chainB, hst, hq, he, sumSz]
                  rfl
                · intro x hx
                  have := List.all_eq_true.mp hq x hx
                  simp only [decide_eq_true_eq] at this
                  simp? [at_B this, encB]
                  rfl
          · intro k hk
            have hk := List.mem_range.mp hk
            have e1 : ((k : Int) + 1) = ((k + 1 : Nat) : Int) := by omega
            simp? [at_N (show k < row.length by omega), e1, at_N (show k + 1 < row.length by omega)]
            rw [show D.tup [.int (row.getD k 0 : Nat), .int (row.getD (k + 1) 0 : Nat)] = encP (row.getD k 0, row.getD (k + 1) 0) from rfl, ee_P.c_nin (by decide)]
            simp? []
      · intro x hx
        have e0 : decide ((0 : Int) ≤ x) = true := by rw [decide_eq_true_eq]; omega
        have e1 : decide ((x : Int) < B.length) = decide (x < B.length) := decide_eq_decide.mpr (by omega)
        simp? [e0, e1]
    show cutR vh (endR (evalSs (Cc (n + 2)) g__law_shows.body [some (encBs B), some (.int L), some (encT (.chain row)), some (encPs E), none, none] vh)) = _
    rw [key]; exact cut_same
  | .pair k j a b, E, h2, h3 => fun vh => by
    simp only [T.depth, T.rows, Bool.and_eq_true] at h2 h3
    have ia := f_law_shows B L hl hB (n + (max a.depth b.depth - a.depth)) a (E ++ [(k, j)]) (by simp; omega) h3.1
    have ib := f_law_shows B L hl hB (n + (max a.depth b.depth - b.depth)) b (E ++ [(j, k)]) (by simp; omega) h3.2
    rw [show n + (max a.depth b.depth - a.depth) + a.depth + 3 = n + max a.depth b.depth + 3 by omega] at ia
    rw [show n + (max a.depth b.depth - b.depth) + b.depth + 3 = n + max a.depth b.depth + 3 by omega] at ib
    have key : evalSs (Cc (n + max a.depth b.depth + 3)) g__law_shows.body [some (encBs B), some (.int L), some (encT (.pair k j a b)), some (encPs E), none, none] vh = .rt (.bl (showsB B L (.pair k j a b) E)) vh := by
      have hin : ∀ x : Nat × Nat, D.tup [D.int x.1, .int x.2] = encP x := fun _ => rfl
      simp? [g__law_shows, encT, e_pc, cF, k23, f_law_pairs (n + max a.depth b.depth + 1) B hl hB vh]
      rw [hin (k, j), ee_P.c_nin (by decide)]
      cases hq : decide ((k, j) ∈ pairsB B) with
      | false =>
        simp? []
        simp only [showsB, hq, Bool.false_and]
      | true =>
        have h4 : ∀ x : D, (E.map encP).length + [x].length ≤ sizeLine := fun x => szl (by simp; omega)
        simp? [b_addL false (h4 _), app_P, k28, ia vh, ib vh]
        simp only [showsB, hq, Bool.true_and]
    show cutR vh (endR (evalSs (Cc (n + max a.depth b.depth + 3)) g__law_shows.body [some (encBs B), some (.int L), some (encT (.pair k j a b)), some (encPs E), none, none] vh)) = _
    rw [key]; exact cut_same
/-! ### the law's own search -/
def Ext (B : List Blk) (L : Int) (P : List Int) : Prop := ∃ F, Fit B L [] F ∧ ∀ i, i < P.length → F i = g P i
noncomputable def extB (B : List Blk) (L : Int) (P : List Int) : Bool := @decide (Ext B L P) (Classical.propDecidable _)
theorem extB_iff {B : List Blk} {L : Int} {P : List Int} : extB B L P = true ↔ Ext B L P := by
  exact @decide_eq_true_iff _ (Classical.propDecidable _)
theorem extB_no {B : List Blk} {L : Int} {P : List Int} : extB B L P = false ↔ ¬ Ext B L P := by
  rw [← extB_iff]; simp
structure Pre (B : List Blk) (L : Int) (P : List Int) : Prop where
  len : P.length ≤ B.length
  nn : ∀ i, i < P.length → 0 ≤ g P i ∧ g P i + sz B i ≤ L
  ap : ∀ e ∈ pairsB B, e.2 < P.length → Apart B (g P) e
theorem g_snoc (P : List Int) (x : Int) (i : Nat) : g (P ++ [x]) i = if i = P.length then x else g P i := by
  simp only [g, List.getD, List.getElem?_append]
  by_cases h : i < P.length
  · rw [if_pos h, if_neg (by omega)]
  · rw [if_neg h]
    by_cases e : i = P.length
    · subst e; simp
    · rw [if_neg e]
      rw [List.getElem?_eq_none (by simp; omega), List.getElem?_eq_none (by omega)]
def clashB (B : List Blk) (P : List Int) (pl : Int) (j : Nat) : Bool := meetB (blk B j) (blk B P.length) && (decide (pl < g P j + sz B j) && decide (g P j < pl + sz B P.length))
def goodB (B : List Blk) (P : List Int) (pl : Int) : Bool := (List.range P.length).all fun j => !clashB B P pl j
theorem good_iff {B : List Blk} {P : List Int} {pl : Int} (hk : P.length < B.length) : goodB B P pl = true ↔ ∀ e ∈ pairsB B, e.2 = P.length → Apart B (g (P ++ [pl])) e := by
  simp only [goodB, List.all_eq_true, List.mem_range, Bool.not_eq_true']
  constructor
  · intro h e he h2
    obtain ⟨a, b⟩ := e
    simp only at h2
    obtain ⟨q1, q2, q3⟩ := mem_pairs.mp he
    simp only at q1 q2 q3
    have := h a (by omega)
    rw [clashB, ← h2, q3, Bool.true_and, ← Bool.decide_and, decide_eq_false_iff_not] at this
    unfold Apart
    simp only
    rw [g_snoc, g_snoc, if_pos h2, if_neg (by omega)]
    omega
  · intro h j hj
    unfold clashB
    cases hm : meetB (blk B j) (blk B P.length) with
    | false => rfl
    | true =>
      have := h (j, P.length) (mem_pairs.mpr ⟨hj, hk, hm⟩) rfl
      unfold Apart at this
      simp only at this
      rw [g_snoc, g_snoc, if_pos rfl, if_neg (by omega)] at this
      rw [Bool.true_and, ← Bool.decide_and, decide_eq_false_iff_not]
      omega
theorem Pre.snoc {B : List Blk} {L : Int} {P : List Int} {pl : Int} (h : Pre B L P) (hk : P.length < B.length) (h0 : 0 ≤ pl) (h1 : pl + sz B P.length ≤ L) (hg : goodB B P pl = true) : Pre B L (P ++ [pl]) where
  len := by simp; omega
  nn := fun i hi => by
    rw [g_snoc]
    split
    · rename_i e; subst e; exact ⟨h0, h1⟩
    · simp at hi; exact h.nn i (by omega)
  ap := fun e he h2 => by
    by_cases q : e.2 = P.length
    · exact (good_iff hk).mp hg e he q
    · simp at h2
      have h3 := h.ap e he (by omega)
      have h4 := mem_pairs.mp he
      unfold Apart at h3 ⊢
      rw [g_snoc, g_snoc, if_neg q, if_neg (by omega)]
      exact h3
theorem ext_step {B : List Blk} {L : Int} {P : List Int} (hk : P.length < B.length) {F : Nat → Int} (f : Fit B L [] F) (h : ∀ i, i < P.length → F i = g P i) : goodB B P (F P.length) = true ∧ Ext B L (P ++ [F P.length]) := by
  have hs : ∀ i, i ≤ P.length → g (P ++ [F P.length]) i = F i := fun i hi => by
    rw [g_snoc]
    split
    · rename_i e; rw [e]
    · exact (h i (by omega)).symm
  refine ⟨(good_iff hk).mpr fun e he h2 => ?_, F, f, fun i hi => (hs i (by simp at hi; omega)).symm⟩
  have h3 := f.ap e he
  have h4 := mem_pairs.mp he
  unfold Apart at h3 ⊢
  rw [hs _ (by omega), hs _ (by omega)]
  exact h3
theorem fit_zero {B : List Blk} {L : Int} {F : Nat → Int} {k : Nat} (f : Fit B L [] F) (hz : sz B k = 0) : Fit B L [] fun i => if i = k then 0 else F i where
  nn := fun i hi => by
    show 0 ≤ if i = k then 0 else F i
    split
    · omega
    · exact f.nn i hi
  top := fun i hi => by
    show (if i = k then 0 else F i) + sz B i ≤ L
    split
    · rename_i e; subst e; have := f.top i hi; have := f.nn i hi; omega
    · exact f.top i hi
  ap := fun e he => by
    have h1 := pair_pos he
    have h2 := f.ap e he
    have n1 : ¬ e.1 = k := fun q => by rw [q] at h1; omega
    have n2 : ¬ e.2 = k := fun q => by rw [q] at h1; omega
    show (if e.2 = k then 0 else F e.2) + sz B e.2 ≤ (if e.1 = k then 0 else F e.1) ∨ (if e.1 = k then 0 else F e.1) + sz B e.1 ≤ (if e.2 = k then 0 else F e.2)
    rw [if_neg n1, if_neg n2]
    exact h2
  lo := fun _ h => nomatch h
theorem k26 (n : Nat) : (Cc n).n 26 = 1 := rfl
theorem k27 (n : Nat) : (Cc n).n 27 = 3 := rfl
theorem f_fits (B : List Blk) (L : Int) (hl : B.length ≤ 63) (hL : -1000 ≤ L ∧ L ≤ 1000) (hB : ∀ x ∈ B, BOk x) (n : Nat) : ∀ (m : Nat) (P : List Int), P.length + m = B.length → Pre B L P → Says (Fc (n + m + 2) 27) [encBs B, .int L, .tup (P.map .int)] (.bl (extB B L P)) := by
  intro m
  induction m with
  | zero =>
    intro P hP hp vh
    have key : evalSs (Cc (n + 1)) g__law_fits.body [some (encBs B), some (.int L), some (.tup (P.map .int)), none, none, none, none] vh = .rt (.bl (extB B L P)) vh := by
      have e0 : decide ((P.length : Int) = B.length) = true := by rw [decide_eq_true_eq]; omega
      simp? [g__law_fits, e0]
      have : extB B L P = true := extB_iff.mpr ⟨g P, ⟨fun k hk => (hp.nn k (by omega)).1, fun k hk => (hp.nn k (by omega)).2, fun e he => hp.ap e he (by have := pair_in he; omega), fun _ h => nomatch h⟩, fun _ _ => rfl⟩
      rw [this]
    show cutR vh (endR (evalSs (Cc (n + 1)) g__law_fits.body [some (encBs B), some (.int L), some (.tup (P.map .int)), none, none, none, none] vh)) = _
    rw [key]; exact cut_same
  | succ m ih =>
    intro P hP hp vh
    have hk : P.length < B.length := by omega
    have hbk := hB _ (blk_mem hk)
    have key : evalSs (Cc (n + m + 2)) g__law_fits.body [some (encBs B), some (.int L), some (.tup (P.map .int)), none, none, none, none] vh = .rt (.bl (extB B L P)) vh := by
      have e0 : decide ((P.length : Int) = B.length) = false := by rw [decide_eq_false_iff_not]; omega
      have s0 := hbk.s0
      have s1 := hbk.s1
      simp? [g__law_fits, e0, at_B hk, encB, r1_ok (j := L - (blk B P.length).s + 1) (inR_of (by omega) (by omega))]
      generalize hr : forL _ _ _ _ _ = r
      have key := for_g hr (fun pre env v => ∃ o4 o5, env = [some (encBs B), some (.int L), some (.tup (P.map .int)), some (.int P.length), o4, o5, none] ∧ v = vh ∧ (∀ pl ∈ pre, ¬ (goodB B P (pl : Nat) = true ∧ Ext B L (P ++ [(pl : Int)]))) ∧ (pre ≠ [] → sz B P.length ≠ 0))
        (fun r => (r = .rt (.bl true) vh ∧ Ext B L P) ∨ ∃ e, r = .nx e vh ∧ ¬ Ext B L P) ⟨none, none, rfl, rfl, (fun _ h => by cases h), fun h => (h rfl).elim⟩ (by
          intro pre pl suf env1 v1 hx hI
          obtain ⟨o4, o5, q1, q2, hp1, hp2⟩ := hI
          subst q1
          subst q2
          have hpl : pl < (L - (blk B P.length).s + 1).toNat := List.mem_range.mp (by rw [hx]; simp)
          have htop : (pl : Int) + sz B P.length ≤ L := by unfold sz; omega
          simp? [r1_ok (j := P.length) (inR_of (by omega) (by omega)), Int.toNat_natCast]
          rw [compF_map (fun j : Nat => D.int j) (clashB B P pl) (fun j : Nat => D.int j) ?_ (szl (by simp; omega))]
          · simp? []
            have eg : decide ((((List.range P.length).filter (clashB B P pl)).length : Int) = 0) = goodB B P pl := by
              cases hg : goodB B P pl with
              | true =>
                rw [List.filter_eq_nil_iff.mpr (fun x hx => by have := List.all_eq_true.mp hg x hx; simpa using this)]
                rfl
              | false =>
                obtain ⟨x, hx, h⟩ := List.all_eq_false.mp hg
                have := List.length_pos_of_mem (List.mem_filter.mpr ⟨hx, by simpa using h⟩ : x ∈ (List.range P.length).filter (clashB B P pl))
                rw [decide_eq_false_iff_not]; omega
            rw [eg]
            have hadd : (P.map D.int).length + [D.int pl].length ≤ sizeLine := szl (by simp; omega)
            have fin : ¬ (goodB B P pl = true ∧ Ext B L (P ++ [(pl : Int)])) → turn (fun e v => ∃ o4 o5, e = [some (encBs B), some (.int L), some (.tup (P.map .int)), some (.int P.length), o4, o5, none] ∧ v = ‹VH› ∧ (∀ x ∈ pre ++ [pl], ¬ (goodB B P (x : Nat) = true ∧ Ext B L (P ++ [(x : Int)]))) ∧ (pre ++ [pl] ≠ [] → sz B P.length ≠ 0))
              (fun r => (r = .rt (.bl true) ‹VH› ∧ Ext B L P) ∨ ∃ e, r = .nx e ‹VH› ∧ ¬ Ext B L P) (if decide ((blk B P.length).s = 0) = true then .bk [some (encBs B), some (.int L), some (.tup (P.map .int)), some (.int P.length), some (.int pl), some (.bl (goodB B P pl)), none] ‹VH› else .nx [some (encBs B), some (.int L), some (.tup (P.map .int)), some (.int P.length), some (.int pl), some (.bl (goodB B P pl)), none] ‹VH›) := by
              intro hno
              by_cases hz : (blk B P.length).s = 0
              · rw [if_pos (decide_eq_true hz), turn_bk]
                refine .inr ⟨_, rfl, fun ⟨F, f, hF⟩ => hno ?_⟩
                have hpre : pre = [] := by
                  by_cases q : pre = []
                  · exact q
                  · exact (hp2 q hz).elim
                have hpl0 : pl = 0 := by
                  rw [hpre, List.nil_append] at hx
                  cases hn : (L - (blk B P.length).s + 1).toNat with
                  | zero => omega
                  | succ q =>
                    rw [hn, List.range_succ_eq_map] at hx
                    cases hx
                    rfl
                have := ext_step hk (fit_zero f hz) (fun i hi => by show (if i = P.length then 0 else F i) = g P i; rw [if_neg (by omega)]; exact hF i hi)
                rw [hpl0]
                rw [if_pos rfl] at this
                exact this
              · rw [if_neg (by rw [decide_eq_true_eq]; exact hz), turn_nx]
                refine ⟨_, _, rfl, rfl, fun x hx => ?_, fun _ => hz⟩
                rcases List.mem_append.mp hx with hx | hx
                · exact hp1 x hx
                · rw [List.mem_singleton.mp hx]; exact hno
            cases hg : goodB B P pl with
            | false =>
              rw [hg] at fin
              simp? [at_B hk, encB]
              have := fin (fun h => Bool.false_ne_true h.1)
              split at this <;> rename_i hd <;> simp? [hd]
              · rw [turn_bk] at this; exact this
              · rw [turn_nx] at this
                obtain ⟨a, b, c1, c2, c3, c4⟩ := this
                exact ⟨a, b, c1, by trivial, c3, c4⟩
            | true =>
              have hrec := ih (P ++ [(pl : Int)]) (by simp; omega) (hp.snoc hk (by omega) htop hg) ‹VH›
              rw [List.map_append] at hrec
              have hrec : cutR ‹VH› (Fc (n + m + 2) 27 [encBs B, .int L, .tup (P.map .int ++ [D.int pl])] ‹VH›) = .ok (.bl (extB B L (P ++ [(pl : Int)]))) ‹VH› := hrec
              rw [hg] at fin
              simp? [b_addT false hadd, cF, k27, hrec]
              cases he : extB B L (P ++ [(pl : Int)]) with
              | true =>
                simp? []
                obtain ⟨F, f, hF⟩ := extB_iff.mp he
                exact .inl ⟨by trivial, F, f, fun i hi => by rw [hF i (by simp; omega), g_snoc, if_neg (by omega)]⟩
              | false =>
                simp? [at_B hk, encB]
                have := fin (fun h => extB_no.mp he h.2)
                split at this <;> rename_i hd <;> simp? [hd]
                · rw [turn_bk] at this; exact this
                · rw [turn_nx] at this
                  obtain ⟨a, b, c1, c2, c3, c4⟩ := this
                  exact ⟨a, b, c1, by trivial, c3, c4⟩
          · intro j hj
            have hj := List.mem_range.mp hj
            have hj2 : j < B.length := by omega
            simp? [at_B hk, at_B hj2, at_I hj, cF, k22, f_law_meet (n + m + 1) (blk B j) (blk B P.length) (hB _ (blk_mem hj2)) hbk ‹VH›]
            simp? [encB, clashB, sz]
            rfl)
        (by
          rintro e v ⟨o4, o5, rfl, rfl, hp1, hp2⟩
          refine .inr ⟨_, rfl, fun ⟨F, f, hF⟩ => ?_⟩
          have h1 := ext_step hk f hF
          have h2 := f.nn _ hk
          have h3 := f.top _ hk
          have h4 := hp1 (F P.length).toNat (List.mem_range.mpr (by unfold sz at h3; omega))
          rw [Int.toNat_of_nonneg h2] at h4
          exact h4 h1)
      rcases key with ⟨rfl, h⟩ | ⟨e, rfl, h⟩
      · simp? [extB_iff.mpr h]
      · simp? [extB_no.mpr h]
    show cutR vh (endR (evalSs (Cc (n + m + 2)) g__law_fits.body [some (encBs B), some (.int L), some (.tup (P.map .int)), none, none, none, none] vh)) = _
    rw [key]; exact cut_same
end K30
end
section
set_option Elab.async false
set_option linter.all false
set_option maxRecDepth 100000
set_option maxHeartbeats 4000000
namespace K30
open PySem L3
local macro_rules | `(tactic| simp? [$ls,*]) => `(tactic| simp only [ev_var, ev_int, ev_str, ev_bool, ev_none, ev_glc, ev_bin, ev_neg, ev_not, ev_and, ev_or, ev_and1, ev_and2, ev_or1, ev_or2, ev_ite, ev_cmp, ev_cmp2, ch_bl, ev_tup, ev_lst, ev_idx, ev_slc, pt_none, pt_some, ev_rev, rev_tup, rev_lst, slc_T, slc_L, slc_S, ev_blt, ev_isi, ev_app, ev_yes, ev_frz, ev_comp, ev_comp2, ev_call, neq_self, bne_self_eq_false, evs_nil, evs_cons, te_ev, it_sq, it_r1, it_r2, v0, vS, tr_bl, tr_int, tr_non, and_bl, or_bl, c_lt, c_le, c_gt, c_ge, c_isN, c_isntN, c_isB, c_isntB, b_add, b_sub, mk_f, mk_t, ix_tup, ix_lst, at_0, at_1, at_2, at_3, at_4, bl_lenT, bl_lenL, bl_max2, bl_sumf, bl_allf, bl_maxf, bl_sum, bl_all, bl_maxL, at_p0, set_p0, at_p1, set_p1, bl_tupT, bl_tupL, bl_int, bl_intB, sq_nil, sq_cons, s_set, s_ret, s_expr, s_ifs, s_fr, s_brk, s_cnt, s_aug, s_par2, s_asg, f_nil, ct_nm, ct_tp2, ct_tp3, wp_nil, wp_cons, cs_def, cs2_def, if_som, tg_nm, tg_sub, tg_tp2, tg_tp3, ty_tup, ty_lst, ty_int, ty_bl, ty_str, ty_non, isa_tt, isa_lt, isa_it, isa_bt, isa_st, isa_nt, isa_ti, isa_li, isa_ii, isa_bi, isa_si, isa_ni, isa_tb, isa_lb, isa_ib, isa_bb, isa_sb, isa_nb, nn_tup, nn_lst, nn_int, nn_bl, nn_str, nn_non, er_rt, er_nx, er_xn, Bool.not_true, Bool.not_false, Bool.and_true, Bool.true_and, Bool.and_false, Bool.false_and, Bool.or_true, Bool.true_or, Bool.or_false, Bool.false_or, li0, li1, li2, li3, li4, li5, li6, li7, items_tup, items_lst, items_scr, to_ok, turn1_some, turn_nx, turn_ct, turn_bk, turn_rt, wturn_ok, rb_ok, ro_some, bs_ok, om_some, ob_some, o2_some, seqK_nx, seqK_rt, seqK_bk, seqK_ct, seqK_xn, asgK_some, ptK_int, Nat.reduceAdd, Nat.reduceSub, Nat.reduceEqDiff, nc0, nc1, nc2, nc3, nc4, nc5, nc6, nc7, nc8, nc9, nc10, nc11, Int.reduceEq, Int.reduceNe, Int.reduceLT, Int.reduceLE, Int.reduceAdd, Int.reduceSub, decide_true, decide_false, c_eqI, c_neI, c_eqB, c_neB, reduceIte, Bool.false_eq_true, List.set_cons_zero, List.set_cons_succ, List.length_cons, List.length_nil, List.length_map, List.map_nil, List.map_cons, CT.slots, $ls,*])
theorem pre0 {B : List Blk} {L : Int} : Pre B L [] := ⟨Nat.zero_le _, (fun i h => by cases h), fun e _ h => by cases h⟩
theorem ext0 {B : List Blk} {L : Int} : extB B L [] = true ↔ Feas B L [] := by
  rw [extB_iff]
  exact ⟨fun ⟨F, f, _⟩ => ⟨F, f⟩, fun ⟨F, f⟩ => ⟨F, f, fun i h => by cases h⟩⟩
theorem f_law_least (B : List Blk) (hl : B.length ≤ 63) (hB : ∀ x ∈ B, BOk x) (due : Int) (hd : 0 ≤ due ∧ due < 60) (hf : ∀ L, 0 ≤ L → (Feas B L [] ↔ due ≤ L)) (n : Nat) : Says (Fc (n + B.length + 3) 26) [encBs B] (.int due) := fun vh => by
  have key : evalSs (Cc (n + B.length + 2)) g__law_least.body [some (encBs B), none] vh = .rt (.int due) vh := by
    simp? [g__law_least, r1_ok (j := 60) (inR_of (by omega) (by omega))]
    generalize hr : forL _ _ _ _ _ = r
    have k := for_g hr (fun pre env v => ∃ o, env = [some (encBs B), o] ∧ v = vh ∧ ∀ x ∈ pre, ¬ due ≤ ((x : Nat) : Int)) (fun r => r = .rt (.int due) vh) ⟨none, rfl, rfl, fun _ h => by cases h⟩ (by
      intro pre L suf env v hx hI
      obtain ⟨o, e1, e2, hp⟩ := hI
      subst e1; subst e2
      obtain ⟨hL, hpre, hlt⟩ := range_split hx
      have hlt : L < 60 := by omega
      have h := f_fits B L hl (by omega) hB n B.length [] (by simp) pre0 v
      have h : cutR v (Fc (n + B.length + 2) 27 [encBs B, .int L, .tup []] v) = .ok (.bl (extB B L [])) v := h
      simp? [cF, k27, h]
      cases he : extB B L [] with
      | true =>
        have h1 := (hf L (by omega)).mp (ext0.mp he)
        have h2 : due = L := by
          by_cases q : due = L
          · exact q
          · have := hp due.toNat (by rw [hpre]; exact List.mem_range.mpr (by omega))
            omega
        simp? [h2]
      | false =>
        simp? []
        refine ⟨_, rfl, by trivial, fun x hx => ?_⟩
        rcases List.mem_append.mp hx with hx | hx
        · exact hp x hx
        · rw [List.mem_singleton.mp hx]
          intro q
          have := ext0.mpr ((hf L (by omega)).mpr q)
          rw [he] at this; cases this) (by
      rintro e v ⟨o, e1, e2, hp⟩
      have := hp due.toNat (List.mem_range.mpr (by omega))
      omega)
    subst k
    simp? []
  show cutR vh (endR (evalSs (Cc (n + B.length + 2)) g__law_least.body [some (encBs B), none] vh)) = _
  rw [key]; exact cut_same
/-! ### first fit -/
theorem mem_insU {k x : Int} : ∀ {l : List Int}, x ∈ insU k l ↔ x = k ∨ x ∈ l
  | [] => by simp [insU]
  | a :: r => by
    have ih := mem_insU (k := k) (x := x) (l := r)
    unfold insU
    split
    · simp
    · split
      · rename_i h; subst h; simp
      · simp [ih]
        constructor
        · rintro (h | h | h) <;> simp [h]
        · rintro (h | h | h) <;> simp [h]
theorem mem_sortU {x : Int} : ∀ {l : List Int}, x ∈ sortU l ↔ x ∈ l
  | [] => by simp [sortU]
  | a :: r => by
    have ih := mem_sortU (x := x) (l := r)
    show x ∈ insU a (sortU r) ↔ _
    rw [mem_insU, ih]; simp
theorem insU_sorted {k : Int} : ∀ {l : List Int}, l.Pairwise (· < ·) → (insU k l).Pairwise (· < ·)
  | [], _ => by simp [insU]
  | a :: r, h => by
    obtain ⟨h1, h2⟩ := List.pairwise_cons.mp h
    unfold insU
    split
    · refine List.pairwise_cons.mpr ⟨fun y hy => ?_, h⟩
      rcases List.mem_cons.mp hy with rfl | hy
      · assumption
      · have := h1 y hy; omega
    · split
      · exact h
      · refine List.pairwise_cons.mpr ⟨fun y hy => ?_, insU_sorted h2⟩
        rcases mem_insU.mp hy with rfl | hy
        · omega
        · exact h1 y hy
theorem sortU_sorted : ∀ (l : List Int), (sortU l).Pairwise (· < ·)
  | [] => List.Pairwise.nil
  | a :: r => insU_sorted (sortU_sorted r)
theorem insU_len {k : Int} : ∀ (l : List Int), (insU k l).length ≤ l.length + 1
  | [] => by simp [insU]
  | a :: r => by
    have := insU_len (k := k) r
    unfold insU
    split
    · simp
    · split <;> simp; omega
theorem sortU_len : ∀ (l : List Int), (sortU l).length ≤ l.length
  | [] => Nat.le_refl _
  | a :: r => by
    have := sortU_len r
    have := insU_len (k := a) (sortU r)
    show (insU a (sortU r)).length ≤ _
    simp; omega
def clashK (B : List Blk) (P : List Int) (k : Nat) (pl : Int) (j : Nat) : Bool := meetB (blk B j) (blk B k) && (decide (pl < g P j + sz B j) && decide (g P j < pl + sz B k))
def freeK (B : List Blk) (P : List Int) (k : Nat) (pl : Int) : Bool := (List.range k).all fun j => !clashK B P k pl j
/-- each at the least place apart from those before -/
def FFit (B : List Blk) (P : List Int) (k : Nat) : Prop := 0 ≤ g P k ∧ freeK B P k (g P k) = true ∧ ∀ q : Int, 0 ≤ q → q < g P k → freeK B P k q = false
def nearB (B : List Blk) (k : Nat) : List Nat := (List.range k).filter fun j => meetB (blk B j) (blk B k)
theorem free_near {B : List Blk} {P : List Int} {k : Nat} {pl : Int} : freeK B P k pl = true ↔ ∀ j ∈ nearB B k, g P j + sz B j ≤ pl ∨ pl + sz B k ≤ g P j := by
  simp only [freeK, nearB, List.all_eq_true, List.mem_range, List.mem_filter, clashK, Bool.not_eq_true']
  constructor
  · rintro h j ⟨h1, h2⟩
    have := h j h1
    rw [h2, Bool.true_and, ← Bool.decide_and, decide_eq_false_iff_not] at this
    omega
  · intro h j hj
    cases hm : meetB (blk B j) (blk B k) with
    | false => rfl
    | true =>
      have := h j ⟨hj, hm⟩
      rw [Bool.true_and, ← Bool.decide_and, decide_eq_false_iff_not]
      omega
def spotsB (B : List Blk) (P : List Int) (k : Nat) : List Int := sortU (0 :: (nearB B k).map fun j => g P j + sz B j)
theorem mem_spots {B : List Blk} {P : List Int} {k : Nat} {x : Int} : x ∈ spotsB B P k ↔ x = 0 ∨ ∃ j ∈ nearB B k, g P j + sz B j = x := by
  unfold spotsB
  rw [mem_sortU]; simp
/-- the largest of a list of ints with a property -/
theorem max_of (f : Int → Prop) : ∀ {l : List Int}, (∃ x ∈ l, f x) → ∃ m ∈ l, f m ∧ ∀ x ∈ l, f x → x ≤ m := by
  intro l
  induction l with
  | nil => rintro ⟨x, hx, _⟩; cases hx
  | cons a r ih =>
    intro h
    by_cases hr : ∃ x ∈ r, f x
    · obtain ⟨m, hm, h1, h2⟩ := ih hr
      by_cases q : f a ∧ m < a
      · exact ⟨a, List.mem_cons_self, q.1, fun x hx hf => by
          rcases List.mem_cons.mp hx with rfl | hx
          · omega
          · have := h2 x hx hf; omega⟩
      · exact ⟨m, List.mem_cons_of_mem _ hm, h1, fun x hx hf => by
          rcases List.mem_cons.mp hx with rfl | hx
          · by_cases q2 : m < x
            · exact (q ⟨hf, q2⟩).elim
            · omega
          · exact h2 x hx hf⟩
    · obtain ⟨x, hx, hf⟩ := h
      rcases List.mem_cons.mp hx with rfl | hx
      · exact ⟨x, List.mem_cons_self, hf, fun y hy hfy => by
          rcases List.mem_cons.mp hy with rfl | hy
          · omega
          · exact (hr ⟨y, hy, hfy⟩).elim⟩
      · exact (hr ⟨x, hx, hf⟩).elim
theorem ready_ok {B : List Blk} {P : List Int} {k : Nat} (hnn : ∀ j, j < k → 0 ≤ g P j) (hz : ∀ j, 0 ≤ sz B j) : ∃ x r, (spotsB B P k).filter (freeK B P k) = x :: r ∧ 0 ≤ x ∧ freeK B P k x = true ∧ ∀ q : Int, 0 ≤ q → q < x → freeK B P k q = false := by
  have hnear : ∀ j ∈ nearB B k, j < k := fun j hj => List.mem_range.mp (List.mem_filter.mp hj).1
  have hge : ∀ x ∈ spotsB B P k, 0 ≤ x := fun x hx => by
    rcases mem_spots.mp hx with rfl | ⟨j, hj, rfl⟩
    · omega
    · have := hnn j (hnear j hj); have := hz j; omega
  have hex : (spotsB B P k).filter (freeK B P k) ≠ [] := by
    obtain ⟨m, hm, _, h2⟩ := max_of (fun _ => True) (l := spotsB B P k) ⟨0, mem_spots.mpr (.inl rfl), by trivial⟩
    have : m ∈ (spotsB B P k).filter (freeK B P k) := List.mem_filter.mpr ⟨hm, free_near.mpr fun j hj => .inl (h2 _ (mem_spots.mpr (.inr ⟨j, hj, rfl⟩)) trivial)⟩
    intro e; rw [e] at this; cases this
  cases hf : (spotsB B P k).filter (freeK B P k) with
  | nil => exact (hex hf).elim
  | cons x r =>
    have hx : x ∈ (spotsB B P k).filter (freeK B P k) := by rw [hf]; exact List.mem_cons_self
    obtain ⟨h1, h2⟩ := List.mem_filter.mp hx
    refine ⟨x, r, rfl, hge x h1, h2, fun q hq hlt => ?_⟩
    cases hfree : freeK B P k q with
    | false => rfl
    | true =>
      exfalso
      have hfr := free_near.mp hfree
      obtain ⟨t, ht, htq, htm⟩ := max_of (fun y => y ≤ q) (l := spotsB B P k) ⟨0, mem_spots.mpr (.inl rfl), hq⟩
      have htf : freeK B P k t = true := free_near.mpr fun j hj => by
        rcases hfr j hj with h | h
        · exact .inl (htm _ (mem_spots.mpr (.inr ⟨j, hj, rfl⟩)) h)
        · exact .inr (by omega)
      have hmem : t ∈ (spotsB B P k).filter (freeK B P k) := List.mem_filter.mpr ⟨ht, htf⟩
      have hs : ((spotsB B P k).filter (freeK B P k)).Pairwise (· < ·) := (sortU_sorted _).filter _
      rw [hf] at hmem hs
      rcases List.mem_cons.mp hmem with rfl | hm
      · omega
      · have := (List.pairwise_cons.mp hs).1 t hm; omega
theorem clash_congr {B : List Blk} {P P' : List Int} {k j : Nat} {q : Int} (h : g P' j = g P j) : clashK B P' k q j = clashK B P k q j := by
  unfold clashK
  rw [h]
theorem free_congr {B : List Blk} {P P' : List Int} {k : Nat} (h : ∀ j, j < k → g P' j = g P j) (q : Int) : freeK B P' k q = freeK B P k q := by
  unfold freeK
  rw [Bool.eq_iff_iff]
  simp only [List.all_eq_true, List.mem_range]
  constructor
  · intro hh j hj
    rw [← clash_congr (h j hj)]; exact hh j hj
  · intro hh j hj
    rw [clash_congr (h j hj)]; exact hh j hj
theorem fit_ext {B : List Blk} {P P' : List Int} {k : Nat} (h : ∀ j, j ≤ k → g P' j = g P j) : FFit B P k → FFit B P' k := by
  have hf := free_congr (B := B) (P := P) (P' := P') (k := k) fun j hj => h j (by omega)
  unfold FFit
  simp only [h k (Nat.le_refl k), hf]
  exact id
theorem k10' (n : Nat) : (Cc n).n 17 = 1 := rfl
theorem f_first_fit (B : List Blk) (hl : B.length ≤ 60) (hs : ∀ x ∈ B, 0 ≤ x.s) (n : Nat) (vh : VH) : ∃ P : List Int, P.length = B.length ∧ (∀ k, k < B.length → FFit B P k) ∧ cutR vh (Fc (n + 2) 17 [encBs B] vh) = .ok (.tup (P.map .int)) vh := by
  have hz := sz_nn hs
  have key : ∃ (P : List Int) (z : VH), P.length = B.length ∧ (∀ k, k < B.length → FFit B P k) ∧ evalSs (Cc (n + 1)) g_first_fit.body [some (encBs B), none, none, none, none, none, none, none] vh = .rt (.tup (P.map .int)) (vh ++ z) := by
    simp? [g_first_fit, r1_ok (j := B.length) (inR_of (by omega) (by omega)), Int.toNat_natCast]
    generalize hr : forL _ _ _ _ _ = r
    obtain ⟨e, v, rfl, P, o2, o3, o4, o5, q1, q2, hP, hff⟩ := for_t hr (fun pre env v => ∃ P o2 o3 o4 o5, env = [some (encBs B), some (.ref vh.length), o2, o3, o4, o5, none, none] ∧ v = vh ++ [.lst (P.map .int)] ∧ P.length = pre.length ∧ ∀ k, k < pre.length → FFit B P k) ⟨[], none, none, none, none, rfl, rfl, rfl, fun k h => by cases h⟩ (by
      intro pre k suf env v hx hI
      obtain ⟨P, o2, o3, o4, o5, q1, q2, hP, hff⟩ := hI
      subst q1; subst q2
      have hk := (range_split hx).1
      have hkB := (range_split hx).2.2
      have hPk : P.length = k := by omega
      simp? [r1_ok (j := k) (inR_of (by omega) (by omega)), Int.toNat_natCast]
      rw [compF_map (fun j : Nat => D.int j) (fun j => meetB (blk B j) (blk B k)) (fun j : Nat => D.int j) ?_ (szl (by simp; omega))]
      · have hnl : (nearB B k).length ≤ k := by
          refine Nat.le_trans (List.length_filter_le _ _) ?_
          rw [List.length_range]; omega
        have enr : (List.range k).filter (fun j => meetB (blk B j) (blk B k)) = nearB B k := rfl
        have hnear : ∀ j ∈ nearB B k, j < k := fun j hj => List.mem_range.mp (List.mem_filter.mp hj).1
        rw [enr]
        simp? [ev_sset]
        rw [compF_all (fun j : Nat => D.int j) (fun j => .int (g P j + sz B j)) ?_ (szl (by omega))]
        · have hadd : [D.int 0].length + ((nearB B k).map fun j => D.int (g P j + sz B j)).length ≤ sizeLine := szl (by simp; omega)
          have esp : ssetD false (vh ++ [.lst (P.map .int)]) (.lst (D.int 0 :: (nearB B k).map fun j => D.int (g P j + sz B j))) = some (.lst ((spotsB B P k).map .int), vh ++ [.lst (P.map .int)]) := by
            unfold ssetD
            have e : (D.int 0 :: (nearB B k).map fun j => D.int (g P j + sz B j)) = (0 :: (nearB B k).map fun j => g P j + sz B j).map D.int := by simp
            rw [e, seqOf_lst, Option.bind_some, ints_map, Option.bind_some, if_pos (by simp; omega)]
            rfl
          simp? [b_addL false hadd, ev_sset, List.cons_append, List.nil_append, esp]
          have hsl : (spotsB B P k).length ≤ k + 1 := by
            refine Nat.le_trans (sortU_len _) ?_
            simp; omega
          rw [compF_map D.int (freeK B P k) D.int ?_ (szl (by omega))]
          · obtain ⟨x, r, hrdy, hx0, hxf, hxm⟩ := ready_ok (B := B) (P := P) (k := k) (fun j hj => (hff j (by omega)).1) hz
            rw [hrdy]
            simp? [lst_ref at_p0, Option.isSome_some, app_ref at_p0 (show (P.map D.int).length < sizeLine from Nat.lt_of_lt_of_le (by rw [List.length_map]; omega : _ < 100) (szl (by omega)))]
            refine ⟨P ++ [x], _, _, _, _, rfl, by simp, by simp [hP], fun i hi => ?_⟩
            rw [List.length_append, List.length_singleton] at hi
            have hg : ∀ j, j < k → g (P ++ [x]) j = g P j := fun j hj => by rw [g_snoc, if_neg (by omega)]
            by_cases q : i < k
            · exact fit_ext (fun j hj => hg j (by omega)) (hff i (by omega))
            · have hik : i = k := by omega
              subst hik
              have hgk : g (P ++ [x]) i = x := by rw [g_snoc, if_pos hPk.symm]
              have hfr := free_congr (B := B) (P := P) (P' := P ++ [x]) (k := i) hg
              unfold FFit
              rw [hgk]
              simp only [hfr]
              exact ⟨hx0, hxf, hxm⟩
          · intro x hx
            simp? []
            rw [compF_all (fun j : Nat => D.int j) (fun j => .bl (apB B (P ++ [x]) (j, k))) ?_ (szl (by omega))]
            · simp? []
              have : (nearB B k).all (fun j => apB B (P ++ [x]) (j, k)) = freeK B P k x := by
                rw [Bool.eq_iff_iff, free_near]
                simp only [List.all_eq_true, apB, Bool.or_eq_true, decide_eq_true_eq]
                have gk : g (P ++ [x]) k = x := by rw [g_snoc, if_pos hPk.symm]
                constructor
                · intro h j hj
                  have := h j hj
                  rw [gk, g_snoc, if_neg (by have := hnear j hj; omega)] at this
                  omega
                · intro h j hj
                  have := h j hj
                  rw [gk, g_snoc, if_neg (by have := hnear j hj; omega)]
                  omega
              rw [this]
            · intro j hj
              have hjk := hnear j hj
              have h := f_apartG famC n B (P ++ [x]) j k (by omega) hkB (by simp; omega) (by simp; omega) (vh ++ [.lst (P.map .int)])
              have h : cutR (vh ++ [.lst (P.map .int)]) (Fc (n + 1) 10 [encBs B, .lst (P.map .int ++ [D.int x]), .tup [.int j, .int k]] (vh ++ [.lst (P.map .int)])) = .ok (.bl (apB B (P ++ [x]) (j, k))) (vh ++ [.lst (P.map .int)]) := by
                rw [← show (P ++ [x]).map D.int = P.map .int ++ [D.int x] by simp]
                exact h
              simp? [b_addR false at_p0 (show (P.map D.int).length + [D.int x].length ≤ sizeLine from szl (by simp; omega)), cF, k10, h]
        · intro j hj
          have hjk := hnear j hj
          simp? [ix_ref _ at_p0, at_I (show j < P.length by omega), at_B (show j < B.length by omega), encB]
          rfl
      · intro j hj
        have hj := List.mem_range.mp hj
        simp? [at_B hkB, at_B (show j < B.length by omega), cF, k2, f_meet famC n (blk B j) (blk B k) (vh ++ [.lst (P.map .int)])])
    subst q1; subst q2
    rw [List.length_range] at hP hff
    refine ⟨P, [.lst (P.map .int)], hP, hff, ?_⟩
    simp? []
    have : bltD .tuple false (vh ++ [.lst (P.map .int)]) [.ref vh.length] = some (.tup (P.map .int), vh ++ [.lst (P.map .int)]) := by
      show (seqOf _ (.ref vh.length)).map (fun ds => (D.tup ds, _)) = _
      rw [seq_ref at_p0]; rfl
    simp? [this]
  obtain ⟨P, z, h1, h2, h3⟩ := key
  refine ⟨P, h1, h2, ?_⟩
  show cutR vh (endR (evalSs (Cc (n + 1)) g_first_fit.body [some (encBs B), none, none, none, none, none, none, none] vh)) = _
  rw [h3]
  exact cut_app (pures_map (fun _ => rfl) P)
theorem k17 (n : Nat) : (Cc n).n 17 = 1 := rfl
theorem f_law_first (B : List Blk) (hl : B.length ≤ 60) (hB : ∀ x ∈ B, BOk x) (hsum : ∀ P : List Int, P.length = B.length → (∀ k, k < B.length → FFit B P k) → ∀ k, k < B.length → g P k ≤ 100000) (n : Nat) : Says (Fc (n + 4) 30) [encBs B] (.bl true) := fun vh => by
  obtain ⟨P, hP, hff, hv⟩ := f_first_fit B hl (fun x hx => (hB x hx).s0) (n + 1) vh
  have hplan : planB B P = true := (plan_iff hP).mpr ⟨fun k hk => (hff k hk).1, fun e he => by
    obtain ⟨q1, q2, q3⟩ := mem_pairs.mp he
    have := free_near.mp (hff e.2 q2).2.1 e.1 (List.mem_filter.mpr ⟨List.mem_range.mpr q1, q3⟩)
    unfold Apart
    omega⟩
  have key : evalSs (Cc (n + 3)) g__law_first.body [some (encBs B), none, none, none, none, none] vh = .rt (.bl true) vh := by
    simp? [g__law_first, cF, k17, hv, r1_ok (j := B.length) (inR_of (by omega) (by omega)), Int.toNat_natCast]
    generalize hr : forL _ _ _ _ _ = r
    obtain ⟨e, v, rfl, o2, o3, o4, q1, q2⟩ := for_t hr (fun pre env v => ∃ o2 o3 o4, env = [some (encBs B), some (.tup (P.map .int)), o2, o3, o4, none] ∧ v = vh) ⟨none, none, none, rfl, rfl⟩ (by
      intro pre k suf env v hx hI
      obtain ⟨o2, o3, o4, q1, q2⟩ := hI
      subst q1; subst q2
      have hk := (range_split hx).2.2
      have hb := hsum P hP hff k hk
      have h0 := (hff k hk).1
      simp? [at_I (show k < P.length by omega), r1_ok (j := g P k + 1) (inR_of (by omega) (by omega))]
      generalize hr : forL _ _ _ _ _ = r
      obtain ⟨e, v', rfl, o3, o4, q1, q2⟩ := for_t hr (fun pre env v' => ∃ o3 o4, env = [some (encBs B), some (.tup (P.map .int)), some (.int k), o3, o4, none] ∧ v' = v) ⟨_, _, rfl, rfl⟩ (by
        intro pre pl suf env v' hx hI
        obtain ⟨o3, o4, q1, q2⟩ := hI
        subst q1; subst q2
        have hpl := (range_split hx).2.2
        simp? [r1_ok (j := k) (inR_of (by omega) (by omega)), Int.toNat_natCast]
        rw [compF_map (fun j : Nat => D.int j) (clashK B P k pl) (fun j : Nat => D.int j) ?_ (szl (by simp; omega))]
        · have eg : decide ((((List.range k).filter (clashK B P k pl)).length : Int) = 0) = freeK B P k pl := by
            cases hg : freeK B P k pl with
            | true =>
              rw [List.filter_eq_nil_iff.mpr (fun x hx => by have := List.all_eq_true.mp hg x hx; simpa using this)]
              rfl
            | false =>
              obtain ⟨x, hx, h⟩ := List.all_eq_false.mp hg
              have := List.length_pos_of_mem (List.mem_filter.mpr ⟨hx, by simpa using h⟩ : x ∈ (List.range k).filter (clashK B P k pl))
              rw [decide_eq_false_iff_not]; omega
          have ef : freeK B P k pl = decide ((pl : Int) = g P k) := by
            by_cases q : (pl : Int) = g P k
            · rw [decide_eq_true q, q]; exact (hff k hk).2.1
            · rw [decide_eq_false q]; exact (hff k hk).2.2 pl (by omega) (by omega)
          simp? [eg, ef, at_I (show k < P.length by omega)]
          exact ⟨_, _, rfl, by trivial⟩
        · intro j hj
          have hj := List.mem_range.mp hj
          have hjB : j < B.length := by omega
          simp? [at_B hk, at_B hjB, at_I (show j < P.length by omega), cF, k22, f_law_meet (n + 2) (blk B j) (blk B k) (hB _ (blk_mem hjB)) (hB _ (blk_mem hk)), ]
          simp? [encB, clashK, sz]
          rfl)
      subst q1; subst q2
      simp? []
      exact ⟨_, _, _, rfl, by trivial⟩)
    subst q1; subst q2
    simp? [k24, f_law_plan n B P (by omega) hB hP, hplan]
  show cutR vh (endR (evalSs (Cc (n + 3)) g__law_first.body [some (encBs B), none, none, none, none, none] vh)) = _
  rw [key]; exact cut_same
end K30
end
section
set_option Elab.async false
set_option linter.all false
set_option maxRecDepth 100000
set_option maxHeartbeats 4000000
namespace K30
open PySem L3
local macro_rules | `(tactic| simp? [$ls,*]) => `(tactic| simp only [ev_var, ev_int, ev_str, ev_bool, ev_none, ev_glc, ev_bin, ev_neg, ev_not, ev_and, ev_or, ev_and1, ev_and2, ev_or1, ev_or2, ev_ite, ev_cmp, ev_cmp2, ch_bl, ev_tup, ev_lst, ev_idx, ev_slc, pt_none, pt_some, ev_rev, rev_tup, rev_lst, slc_T, slc_L, slc_S, ev_blt, ev_isi, ev_app, ev_yes, ev_frz, ev_comp, ev_comp2, ev_call, neq_self, bne_self_eq_false, evs_nil, evs_cons, te_ev, it_sq, it_r1, it_r2, v0, vS, tr_bl, tr_int, tr_non, and_bl, or_bl, c_lt, c_le, c_gt, c_ge, c_isN, c_isntN, c_isB, c_isntB, b_add, b_sub, mk_f, mk_t, ix_tup, ix_lst, at_0, at_1, at_2, at_3, at_4, bl_lenT, bl_lenL, bl_max2, bl_sumf, bl_allf, bl_maxf, bl_sum, bl_all, bl_maxL, at_p0, set_p0, at_p1, set_p1, bl_tupT, bl_tupL, bl_int, bl_intB, sq_nil, sq_cons, s_set, s_ret, s_expr, s_ifs, s_fr, s_brk, s_cnt, s_aug, s_par2, s_asg, f_nil, ct_nm, ct_tp2, ct_tp3, wp_nil, wp_cons, cs_def, cs2_def, if_som, tg_nm, tg_sub, tg_tp2, tg_tp3, ty_tup, ty_lst, ty_int, ty_bl, ty_str, ty_non, isa_tt, isa_lt, isa_it, isa_bt, isa_st, isa_nt, isa_ti, isa_li, isa_ii, isa_bi, isa_si, isa_ni, isa_tb, isa_lb, isa_ib, isa_bb, isa_sb, isa_nb, nn_tup, nn_lst, nn_int, nn_bl, nn_str, nn_non, er_rt, er_nx, er_xn, Bool.not_true, Bool.not_false, Bool.and_true, Bool.true_and, Bool.and_false, Bool.false_and, Bool.or_true, Bool.true_or, Bool.or_false, Bool.false_or, li0, li1, li2, li3, li4, li5, li6, li7, items_tup, items_lst, items_scr, to_ok, turn1_some, turn_nx, turn_ct, turn_bk, turn_rt, wturn_ok, rb_ok, ro_some, bs_ok, om_some, ob_some, o2_some, seqK_nx, seqK_rt, seqK_bk, seqK_ct, seqK_xn, asgK_some, ptK_int, Nat.reduceAdd, Nat.reduceSub, Nat.reduceEqDiff, nc0, nc1, nc2, nc3, nc4, nc5, nc6, nc7, nc8, nc9, nc10, nc11, Int.reduceEq, Int.reduceNe, Int.reduceLT, Int.reduceLE, Int.reduceAdd, Int.reduceSub, decide_true, decide_false, c_eqI, c_neI, c_eqB, c_neB, reduceIte, Bool.false_eq_true, List.set_cons_zero, List.set_cons_succ, List.length_cons, List.length_nil, List.length_map, List.map_nil, List.map_cons, CT.slots, $ls,*])
/-! ### the law's draws -/
/-- the state: its list at r, the numbers at c -/
structure St (r c : Nat) (vh : VH) : Prop where
  ne : r ≠ c
  ex : ∃ (pos : Int) (cells : List Int), vh[r]? = some (.lst [.int pos, .ref c]) ∧ vh[c]? = some (.lst (cells.map .int)) ∧ cells ≠ [] ∧ (∀ x ∈ cells, 0 ≤ x) ∧ 0 ≤ pos ∧ cells.length ≤ 63
def Keep (r c : Nat) (vh vh' : VH) : Prop := vh.length ≤ vh'.length ∧ ∀ i, i < vh.length → i ≠ r → i ≠ c → vh'[i]? = vh[i]?
theorem Keep.refl {r c : Nat} {vh : VH} : Keep r c vh vh := ⟨Nat.le_refl _, fun _ _ _ _ => rfl⟩
theorem Keep.trans {r c : Nat} {vh vh1 vh2 : VH} (h1 : Keep r c vh vh1) (h2 : Keep r c vh1 vh2) : Keep r c vh vh2 :=
  ⟨Nat.le_trans h1.1 h2.1, fun i hi hr hc => (h2.2 i (Nat.lt_of_lt_of_le hi h1.1) hr hc).trans (h1.2 i hi hr hc)⟩
theorem cut_keep {r c : Nat} {vh vh1 : VH} (d : D) (h0 : St r c vh) (h1 : St r c vh1) (h2 : Keep r c vh vh1) : ∃ vh2, cutR vh (.ok d vh1) = .ok d vh2 ∧ St r c vh2 ∧ Keep r c vh vh2 := by
  obtain ⟨vh2, e, h⟩ := cut_of (vh := vh) d vh1
  rcases h with rfl | ⟨rfl, _⟩
  · exact ⟨vh2, e, h1, h2⟩
  · exact ⟨vh2, e, h0, Keep.refl⟩
theorem f_take (n : Nat) (r c : Nat) (m : Int) (hm : 2 ≤ m) (hm2 : m ≤ 1000000) (vh : VH) (hs : St r c vh) : ∃ (t : Int) (vh' : VH), cutR vh (Fc (n + 1) 19 [.ref r, .int m] vh) = .ok (.int t) vh' ∧ 0 ≤ t ∧ t < m ∧ St r c vh' ∧ Keep r c vh vh' := by
  obtain ⟨pos, cells, h1, h2, h3, h4, h5, h6⟩ := hs.ex
  have hlen : 0 < cells.length := List.length_pos_iff.mpr h3
  have hrl : r < vh.length := by
    by_cases q : r < vh.length
    · exact q
    · rw [List.getElem?_eq_none (by omega)] at h1; cases h1
  have hcl : c < vh.length := by
    by_cases q : c < vh.length
    · exact q
    · rw [List.getElem?_eq_none (by omega)] at h2; cases h2
  have hne := hs.ne
  have key : ∃ (t : Int) (vh' : VH), evalSs (Cc n) g__law_take.body [some (.ref r), some (.int m), none, none, none, none] vh = .rt (.int t) vh' ∧ 0 ≤ t ∧ t < m ∧ St r c vh' ∧ Keep r c vh vh' := by
    have e0 : decide (m < 2) = false := by rw [decide_eq_false_iff_not]; omega
    have hl0 : (0 : Int) < cells.length := by omega
    obtain ⟨k, hk, hkl⟩ : ∃ k : Nat, pos % (cells.length : Int) = k ∧ k < cells.length := by
      have a1 := Int.emod_nonneg pos (show (cells.length : Int) ≠ 0 by omega)
      have a2 := Int.emod_lt_of_pos pos hl0
      exact ⟨(pos % (cells.length : Int)).toNat, by omega, by omega⟩
    have hml : k < (cells.map D.int).length := by simpa using hkl
    simp? [g__law_take, e0, ix_ref _ h1, bl_lenR _ h2, b_mod _ hl0, hk, ix_ref _ h2, at_I hkl]
    by_cases hq : (1000000000000000000 : Int) ≤ g cells k
    · simp? [decide_eq_true hq, b_fdiv false (show (0 : Int) < m by omega) (show m ≤ 1000000000000 by omega), six_nat h2 hml, b_mod false (show (0 : Int) < m by omega)]
      refine ⟨_, _, rfl, Int.emod_nonneg _ (by omega), Int.emod_lt_of_pos _ (by omega), ⟨hne, pos, cells.set k (g cells k / m), ?_, ?_, ?_, ?_, h5, by simpa using h6⟩, by simp, fun i hi hr hc => ?_⟩
      · rw [List.getElem?_set_ne (Ne.symm hne)]; exact h1
      · rw [List.getElem?_set_self hcl]; simp
      · intro e
        have := congrArg List.length e
        simp at this; exact h3 this
      · intro x hx
        rcases List.mem_or_eq_of_mem_set hx with hx | rfl
        · exact h4 x hx
        · exact Int.ediv_nonneg (by omega) (by omega)
      · rw [List.getElem?_set_ne (Ne.symm hc)]
    · simp? [decide_eq_false hq, ix_ref _ h1, six_0 h1 (show 0 < [D.int pos, D.ref c].length by simp), List.set_cons_zero]
      have h1' : (vh.set r (.lst [.int (pos + 1), .ref c]))[r]? = some (.lst [.int (pos + 1), .ref c]) := by rw [List.getElem?_set_self hrl]
      simp? [ix_ref _ h1', b_mulI false (mulOk_r (i := g cells k) (j := 48271) (by omega) (by omega)), b_mulI false (mulOk_r (i := pos + 1) (j := 69621) (by omega) (by omega)), b_mod false (show (0 : Int) < 2147483647 by omega)]
      generalize (g cells k * 48271 + (pos + 1) * 69621) % 2147483647 = u
      simp? [ix_ref _ h1', b_mulI false (mulOk_r (i := u) (j := 16807) (by omega) (by omega)), b_mulI false (mulOk_r (i := pos + 1) (j := 7919) (by omega) (by omega)), b_mod false (show (0 : Int) < 1000000007 by omega)]
      generalize (u * 16807 + (pos + 1) * 7919) % 1000000007 = w
      simp? [b_fdiv false (show (0 : Int) < 7 by omega) (show (7 : Int) ≤ 1000000000000 by omega), b_mod false (show (0 : Int) < m by omega)]
      refine ⟨_, _, rfl, Int.emod_nonneg _ (by omega), Int.emod_lt_of_pos _ (by omega), ⟨hne, pos + 1, cells, h1', ?_, h3, h4, by omega, h6⟩, by simp, fun i hi hr hc => ?_⟩
      · rw [List.getElem?_set_ne hne]; exact h2
      · rw [List.getElem?_set_ne (Ne.symm hr)]
  obtain ⟨t, vh', e, q1, q2, q3, q4⟩ := key
  obtain ⟨vh2, e2, s2, k2⟩ := cut_keep (.int t) hs q3 q4
  refine ⟨t, vh2, ?_, q1, q2, s2, k2⟩
  rw [← e2]
  show cutR vh (endR (evalSs (Cc n) g__law_take.body [some (.ref r), some (.int m), none, none, none, none] vh)) = _
  rw [e]; rfl
/-- of one: 0, and nothing is drawn -/
theorem f_take1 (n : Nat) (r : Nat) (m : Int) (hm : m < 2) : Says (Fc (n + 1) 19) [.ref r, .int m] (.int 0) := fun vh => by
  have key : evalSs (Cc n) g__law_take.body [some (.ref r), some (.int m), none, none, none, none] vh = .rt (.int 0) vh := by
    simp? [g__law_take, decide_eq_true hm]
  show cutR vh (endR (evalSs (Cc n) g__law_take.body [some (.ref r), some (.int m), none, none, none, none] vh)) = _
  rw [key]; exact cut_same
/-- of a row's length: a place in the row -/
theorem f_takeN (n : Nat) (r c : Nat) (m : Nat) (hm : 0 < m) (hm2 : m ≤ 1000000) (vh : VH) (hs : St r c vh) : ∃ (t : Nat) (vh' : VH), cutR vh (Fc (n + 1) 19 [.ref r, .int m] vh) = .ok (.int t) vh' ∧ t < m ∧ St r c vh' ∧ Keep r c vh vh' := by
  by_cases q : m = 1
  · subst q
    exact ⟨0, vh, f_take1 n r 1 (by omega) vh, by omega, hs, Keep.refl⟩
  · obtain ⟨t, vh', e, h1, h2, h3, h4⟩ := f_take n r c m (by omega) (by omega) vh hs
    exact ⟨t.toNat, vh', by rw [e, Int.toNat_of_nonneg h1], by omega, h3, h4⟩
theorem k19 (n : Nat) : (Cc n).n 19 = 2 := rfl
theorem k20 (n : Nat) : (Cc n).n 20 = 2 := rfl
theorem f_pick (n : Nat) (r c : Nat) (ds : List D) (hd : ds ≠ []) (hl : ds.length ≤ 1000) (vh : VH) (hs : St r c vh) : ∃ (d : D) (vh' : VH), d ∈ ds ∧ cutR vh (Fc (n + 2) 20 [.ref r, .lst ds] vh) = .ok d vh' ∧ St r c vh' ∧ Keep r c vh vh' := by
  have hp : 0 < ds.length := List.length_pos_iff.mpr hd
  obtain ⟨t, vh1, e, h1, h2, h3⟩ := f_takeN n r c ds.length hp (by omega) vh hs
  have key : evalSs (Cc (n + 1)) g__law_pick.body [some (.ref r), some (.lst ds)] vh = .rt ds[t] vh1 := by
    simp? [g__law_pick, cF, k19, e, at_nat, List.getElem?_eq_getElem h1]
  obtain ⟨vh2, e2, s2, k2⟩ := cut_keep ds[t] hs h2 h3
  refine ⟨ds[t], vh2, List.getElem_mem h1, ?_, s2, k2⟩
  rw [← e2]
  show cutR vh (endR (evalSs (Cc (n + 1)) g__law_pick.body [some (.ref r), some (.lst ds)] vh)) = _
  rw [key]; rfl
/-- a block as the law draws them -/
def LBlk (x : Blk) : Prop := 0 ≤ x.s ∧ x.s ≤ 4 ∧ 0 ≤ x.b ∧ x.b ≤ 4 ∧ x.b < x.e ∧ x.e ≤ x.b + 4
theorem St.app {r c : Nat} {vh : VH} (h : St r c vh) (z : VH) : St r c (vh ++ z) := by
  obtain ⟨pos, cells, h1, h2, h3⟩ := h.ex
  have hr : r < vh.length := by
    by_cases q : r < vh.length
    · exact q
    · rw [List.getElem?_eq_none (by omega)] at h1; cases h1
  have hc : c < vh.length := by
    by_cases q : c < vh.length
    · exact q
    · rw [List.getElem?_eq_none (by omega)] at h2; cases h2
  exact ⟨h.ne, pos, cells, by rw [List.getElem?_append_left hr]; exact h1, by rw [List.getElem?_append_left hc]; exact h2, h3⟩
theorem St.lt {r c : Nat} {vh : VH} (h : St r c vh) : r < vh.length ∧ c < vh.length := by
  obtain ⟨pos, cells, h1, h2, h3⟩ := h.ex
  constructor
  · by_cases q : r < vh.length
    · exact q
    · rw [List.getElem?_eq_none (by omega)] at h1; cases h1
  · by_cases q : c < vh.length
    · exact q
    · rw [List.getElem?_eq_none (by omega)] at h2; cases h2
theorem St.set {r c n : Nat} {vh : VH} {o : O} (h : St r c vh) (hr : n ≠ r) (hc : n ≠ c) : St r c (vh.set n o) := by
  obtain ⟨pos, cells, h1, h2, h3⟩ := h.ex
  exact ⟨h.ne, pos, cells, by rw [List.getElem?_set_ne hr]; exact h1, by rw [List.getElem?_set_ne hc]; exact h2, h3⟩
theorem f_blocks (n : Nat) (r c : Nat) (vh : VH) (hs : St r c vh) : ∃ (B : List Blk) (vh' : VH), B.length ≤ 5 ∧ (∀ x ∈ B, LBlk x) ∧ cutR vh (Fc (n + 3) 21 [.ref r, .int 5] vh) = .ok (.tup (B.map encB)) vh' ∧ St r c vh' ∧ Keep r c vh vh' := by
  have key : ∃ (B : List Blk) (vh' : VH), B.length ≤ 5 ∧ (∀ x ∈ B, LBlk x) ∧ evalSs (Cc (n + 2)) g__law_blocks.body [some (.ref r), some (.int 5), none, none, none] vh = .rt (.tup (B.map encB)) vh' ∧ St r c vh' ∧ Keep r c vh vh' := by
    obtain ⟨t, vh1, e1, t0, t1, s1, k1⟩ := f_take (n + 1) r c 6 (by omega) (by omega) (vh ++ [.lst []]) (hs.app _)
    simp? [g__law_blocks, cF, k19, e1, r1_ok (j := t) (inR_of (by omega) (by omega))]
    have hk0 : Keep r c vh vh1 := ⟨by have := k1.1; simp at this; omega, fun i hi hr hc => by rw [k1.2 i (by simp; omega) hr hc, List.getElem?_append_left hi]⟩
    have hlast : vh1[vh.length]? = some (.lst []) := by
      rw [k1.2 vh.length (by simp) (by have := hs.lt; omega) (by have := hs.lt; omega)]; simp
    generalize hr : forL _ _ _ _ _ = res
    obtain ⟨e, v, rfl, B, o3, o4, q1, hB, hlen, hat, hst, hk⟩ := for_t hr (fun pre env v => ∃ (B : List Blk) (o3 o4 : Option D), env = [some (.ref r), some (.int 5), some (.ref vh.length), o3, o4] ∧ (∀ x ∈ B, LBlk x) ∧ B.length = pre.length ∧ v[vh.length]? = some (.lst (B.map encB)) ∧ St r c v ∧ Keep r c vh v) ⟨[], none, none, rfl, (fun x h => by cases h), rfl, hlast, s1, hk0⟩ (by
      intro pre i suf env v hx hI
      obtain ⟨B, o3, o4, q1, hB, hlen, hat, hst, hk⟩ := hI
      subst q1
      have hi := (range_split hx).2.2
      have hpl := (range_split hx).1
      obtain ⟨b, v1, e1, b0, b1, s1, k1⟩ := f_take (n + 1) r c 5 (by omega) (by omega) v hst
      simp? [cF, k19, e1]
      have hat1 : v1[vh.length]? = some (.lst (B.map encB)) := by
        have := hk.1; have := hs.lt; have := hat
        rw [k1.2 vh.length (by
          by_cases q : vh.length < v.length
          · exact q
          · rw [List.getElem?_eq_none (by omega)] at hat; cases hat) (by omega) (by omega)]; exact hat
      obtain ⟨d, v2, hd, e2, s2, k2⟩ := f_pick n r c [.int 0, .int 1, .int 1, .int 2, .int 2, .int 3, .int 4] (by simp) (by simp) v1 s1
      obtain ⟨sz0, hsz, z0, z1⟩ : ∃ z : Int, d = .int z ∧ 0 ≤ z ∧ z ≤ 4 := by
        simp only [List.mem_cons, List.not_mem_nil, or_false] at hd
        rcases hd with rfl | rfl | rfl | rfl | rfl | rfl | rfl <;> exact ⟨_, rfl, by omega, by omega⟩
      subst hsz
      obtain ⟨w, v3, e3, w0, w1, s3, k3⟩ := f_take (n + 1) r c 4 (by omega) (by omega) v2 s2
      have hat3 : v3[vh.length]? = some (.lst (B.map encB)) := by
        have hl := hs.lt
        have hl1 : vh.length < v1.length := by
          by_cases q : vh.length < v1.length
          · exact q
          · rw [List.getElem?_eq_none (by omega)] at hat1; cases hat1
        have kk := k2.trans k3
        rw [kk.2 vh.length hl1 (by omega) (by omega)]; exact hat1
      simp? [lst_ref hat1, Option.isSome_some, k20, e2, e3, app_ref hat3 (show (B.map encB).length < sizeLine from Nat.lt_of_lt_of_le (by rw [List.length_map]; omega : _ < 100) (szl (by omega)))]
      have hl := hs.lt
      refine ⟨B ++ [⟨sz0, b, b + 1 + w⟩], _, _, rfl, fun x hx => ?_, by simp [hlen], ?_, s3.set (by omega) (by omega), ?_⟩
      · rcases List.mem_append.mp hx with hx | hx
        · exact hB x hx
        · rw [List.mem_singleton.mp hx]; exact ⟨z0, z1, b0, by show b ≤ 4; omega, by show b < b + 1 + w; omega, by show b + 1 + w ≤ b + 4; omega⟩
      · rw [List.getElem?_set_self (by
          by_cases q : vh.length < v3.length
          · exact q
          · rw [List.getElem?_eq_none (by omega)] at hat3; cases hat3)]
        simp [encB]
      · have kk := ((hk.trans k1).trans k2).trans k3
        exact ⟨by rw [List.length_set]; exact kk.1, fun i hi hr hc => by rw [List.getElem?_set_ne (by omega)]; exact kk.2 i hi hr hc⟩)
    subst q1
    rw [List.length_range] at hlen
    have : bltD .tuple false v [.ref vh.length] = some (.tup (B.map encB), v) := by
      show (seqOf _ (.ref vh.length)).map (fun ds => (D.tup ds, _)) = _
      rw [seq_ref hat]; rfl
    simp? [this]
    exact ⟨B, v, by omega, hB, rfl, hst, hk⟩
  obtain ⟨B, v, h1, h2, h3, h4, h5⟩ := key
  obtain ⟨vh2, e2, s2, k2⟩ := cut_keep (.tup (B.map encB)) hs h4 h5
  refine ⟨B, vh2, h1, h2, ?_, s2, k2⟩
  rw [← e2]
  show cutR vh (endR (evalSs (Cc (n + 2)) g__law_blocks.body [some (.ref r), some (.int 5), none, none, none] vh)) = _
  rw [h3]; rfl
end K30
end
section
set_option Elab.async false
set_option linter.all false
set_option maxRecDepth 100000
set_option maxHeartbeats 4000000
namespace K30
open PySem L3
local macro_rules | `(tactic| simp? [$ls,*]) => `(tactic| simp only [ev_var, ev_int, ev_str, ev_bool, ev_none, ev_glc, ev_bin, ev_neg, ev_not, ev_and, ev_or, ev_and1, ev_and2, ev_or1, ev_or2, ev_ite, ev_cmp, ev_cmp2, ch_bl, ev_tup, ev_lst, ev_idx, ev_slc, pt_none, pt_some, ev_rev, rev_tup, rev_lst, slc_T, slc_L, slc_S, ev_blt, ev_isi, ev_app, ev_yes, ev_frz, ev_comp, ev_comp2, ev_call, neq_self, bne_self_eq_false, evs_nil, evs_cons, te_ev, it_sq, it_r1, it_r2, v0, vS, tr_bl, tr_int, tr_non, and_bl, or_bl, c_lt, c_le, c_gt, c_ge, c_isN, c_isntN, c_isB, c_isntB, b_add, b_sub, mk_f, mk_t, ix_tup, ix_lst, at_0, at_1, at_2, at_3, at_4, bl_lenT, bl_lenL, bl_max2, bl_sumf, bl_allf, bl_maxf, bl_sum, bl_all, bl_maxL, at_p0, set_p0, at_p1, set_p1, bl_tupT, bl_tupL, bl_int, bl_intB, sq_nil, sq_cons, s_set, s_ret, s_expr, s_ifs, s_fr, s_brk, s_cnt, s_aug, s_par2, s_asg, f_nil, ct_nm, ct_tp2, ct_tp3, wp_nil, wp_cons, cs_def, cs2_def, if_som, tg_nm, tg_sub, tg_tp2, tg_tp3, ty_tup, ty_lst, ty_int, ty_bl, ty_str, ty_non, isa_tt, isa_lt, isa_it, isa_bt, isa_st, isa_nt, isa_ti, isa_li, isa_ii, isa_bi, isa_si, isa_ni, isa_tb, isa_lb, isa_ib, isa_bb, isa_sb, isa_nb, nn_tup, nn_lst, nn_int, nn_bl, nn_str, nn_non, er_rt, er_nx, er_xn, Bool.not_true, Bool.not_false, Bool.and_true, Bool.true_and, Bool.and_false, Bool.false_and, Bool.or_true, Bool.true_or, Bool.or_false, Bool.false_or, li0, li1, li2, li3, li4, li5, li6, li7, items_tup, items_lst, items_scr, to_ok, turn1_some, turn_nx, turn_ct, turn_bk, turn_rt, wturn_ok, rb_ok, ro_some, bs_ok, om_some, ob_some, o2_some, seqK_nx, seqK_rt, seqK_bk, seqK_ct, seqK_xn, asgK_some, ptK_int, Nat.reduceAdd, Nat.reduceSub, Nat.reduceEqDiff, nc0, nc1, nc2, nc3, nc4, nc5, nc6, nc7, nc8, nc9, nc10, nc11, Int.reduceEq, Int.reduceNe, Int.reduceLT, Int.reduceLE, Int.reduceAdd, Int.reduceSub, decide_true, decide_false, c_eqI, c_neI, c_eqB, c_neB, reduceIte, Bool.false_eq_true, List.set_cons_zero, List.set_cons_succ, List.length_cons, List.length_nil, List.length_map, List.map_nil, List.map_cons, CT.slots, $ls,*])
def T.fine : T → Bool
  | .chain row => !row.isEmpty && decide (row.length ≤ 1000)
  | .pair _ _ a b => a.fine && b.fine
theorem fine_of {B : List Blk} {L : Int} : ∀ {t : T} {E : List (Nat × Nat)}, showsB B L t E = true → t.rows 1000 = true → t.fine = true
  | .chain row, E, h, h2 => by
    simp only [showsB, chainB, Bool.and_eq_true] at h
    simp only [T.rows] at h2
    simp only [T.fine, h.1.1.1, h2, Bool.and_self]
  | .pair k j a b, E, h, h2 => by
    simp only [showsB, Bool.and_eq_true] at h
    simp only [T.rows, Bool.and_eq_true] at h2
    simp only [T.fine, fine_of h.2.1 h2.1, fine_of h.2.2 h2.2, Bool.and_self]
theorem rows_fine : ∀ {t : T}, t.fine = true → t.rows 100000 = true
  | .chain row, h => by
    simp only [T.fine, Bool.and_eq_true, decide_eq_true_eq] at h
    simp only [T.rows, decide_eq_true_eq]; omega
  | .pair k j a b, h => by
    simp only [T.fine, Bool.and_eq_true] at h
    simp only [T.rows, rows_fine h.1, rows_fine h.2, Bool.and_self]
theorem k29 (n : Nat) : (Cc n).n 29 = 2 := rfl
theorem cut1 {α : Type} (xs : List α) : cutL xs none (some 1) = xs.take 1 := cut_take xs 1
theorem cut3 {α : Type} (xs : List α) : cutL xs none (some 3) = xs.take 3 := cut_take xs 3
theorem cut4 {α : Type} (xs : List α) : cutL xs none (some 4) = xs.take 4 := cut_take xs 4
theorem tk3 {α : Type} (a b c : α) (r : List α) : List.take 3 (a :: b :: c :: r) = [a, b, c] := (rfl)
theorem tk4 {α : Type} (a b c d : α) (r : List α) : List.take 4 (a :: b :: c :: d :: r) = [a, b, c, d] := (rfl)
theorem f_bent (n r c : Nat) : ∀ t : T, t.fine = true → ∀ vh, St r c vh → ∃ (t' : T) (vh' : VH), t'.depth ≤ t.depth ∧ t'.rows 100000 = true ∧ cutR vh (Fc (n + t.depth + 3) 29 [.ref r, encT t] vh) = .ok (encT t') vh' ∧ St r c vh' ∧ Keep r c vh vh'
  | .chain row, hf, vh, hs => by
    simp only [T.fine, Bool.and_eq_true, decide_eq_true_eq, Bool.not_eq_true'] at hf
    have hne : row ≠ [] := by
      intro e; rw [e] at hf; exact absurd hf.1 (by decide)
    have hpos := List.length_pos_iff.mpr hne
    obtain ⟨k, vh1, e1, hk, s1, k1⟩ := f_takeN (n + 1) r c row.length hpos (by omega) vh hs
    generalize hds : row.map (fun k : Nat => D.int k) = ds
    have hdl : ds.length = row.length := by rw [← hds, List.length_map]
    have a1 : (ds.take k).length + (ds.drop (k + 1)).length ≤ sizeLine := szl (by simp; omega)
    have a2 : (ds.take k).length + [D.int ((row.getD k 0 : Nat) + 1)].length ≤ sizeLine := szl (by simp; omega)
    have a3 : (ds.take k ++ [D.int ((row.getD k 0 : Nat) + 1)]).length + (ds.drop (k + 1)).length ≤ sizeLine := szl (by simp; omega)
    have a4 : ds.length + (ds.take 1).length ≤ sizeLine := szl (by simp; omega)
    have ek : (k : Int) + 1 = ((k + 1 : Nat) : Int) := by omega
    have eat : L2.atI ds (k : Int) = some (.int (row.getD k 0 : Nat)) := by rw [← hds]; exact at_N hk
    obtain ⟨d, vh2, hd, e2, s2, k2⟩ := f_pick n r c [.tup (ds.take k ++ ds.drop (k + 1)), .tup (ds.take k ++ [D.int ((row.getD k 0 : Nat) + 1)] ++ ds.drop (k + 1)), .tup (ds ++ ds.take 1), .tup ds.reverse] (by simp) (by simp) vh1 s1
    have key : evalSs (Cc (n + 2)) g__law_bent.body [some (.ref r), some (.tup [.str "chain", .tup ds]), none, none, none] vh = .rt (.tup [.str "chain", d]) vh2 := by
      have e1 : cutR vh (Fc (n + 2) 19 [.ref r, .int ds.length] vh) = .ok (.int k) vh1 := by rw [hdl]; exact e1
      simp? [g__law_bent, e_cc, cF, k19, e1, cut_take, cut_drop, cut1, eat]
      rw [ek]
      simp? [cut_drop, b_addT false a1, b_addT false a2, b_addT false a3, b_addT false a4, k20, e2]
    obtain ⟨row', hrow, hlen⟩ : ∃ row' : List Nat, d = .tup (row'.map fun k : Nat => D.int k) ∧ row'.length ≤ 2000 := by
      simp only [List.mem_cons, List.not_mem_nil, or_false] at hd
      rcases hd with rfl | rfl | rfl | rfl
      · exact ⟨row.take k ++ row.drop (k + 1), by rw [← hds]; simp, by simp; omega⟩
      · exact ⟨row.take k ++ [row.getD k 0 + 1] ++ row.drop (k + 1), by rw [← hds]; simp, by simp; omega⟩
      · exact ⟨row ++ row.take 1, by rw [← hds]; simp, by simp; omega⟩
      · exact ⟨row.reverse, by rw [← hds]; simp, by simp; omega⟩
    obtain ⟨vh3, e3, s3, k3⟩ := cut_keep (.tup [.str "chain", d]) hs s2 (k1.trans k2)
    refine ⟨.chain row', vh3, Nat.le_refl _, by simp only [T.rows, decide_eq_true_eq]; omega, ?_, s3, k3⟩
    have : encT (.chain row') = .tup [.str "chain", d] := by rw [hrow]; rfl
    rw [this, ← e3]
    have e0 : encT (.chain row) = .tup [.str "chain", .tup ds] := by rw [← hds]; rfl
    rw [e0]
    show cutR vh (endR (evalSs (Cc (n + 2)) g__law_bent.body [some (.ref r), some (.tup [.str "chain", .tup ds]), none, none, none] vh)) = _
    rw [key]; rfl
  | .pair kk j a b, hf, vh, hs => by
    simp only [T.fine, Bool.and_eq_true] at hf
    obtain ⟨w, vh1, e1, w0, w1, s1, k1⟩ := f_take (n + max a.depth b.depth + 2) r c 4 (by omega) (by omega) vh hs
    have h32 : ∀ x y z u v : D, [x, y, z].length + [u, v].length ≤ sizeLine := fun _ _ _ _ _ => szl (by simp)
    have h41 : ∀ x y z u v : D, [x, y, z, u].length + [v].length ≤ sizeLine := fun _ _ _ _ _ => szl (by simp)
    have ra := rows_fine hf.1
    have rb := rows_fine hf.2
    have fin : ∀ (t' : T) (vh2 : VH), t'.depth ≤ max a.depth b.depth + 1 → t'.rows 100000 = true → evalSs (Cc (n + max a.depth b.depth + 3)) g__law_bent.body [some (.ref r), some (encT (.pair kk j a b)), none, none, none] vh = .rt (encT t') vh2 → St r c vh2 → Keep r c vh vh2 →
        ∃ (t' : T) (vh' : VH), t'.depth ≤ (T.pair kk j a b).depth ∧ t'.rows 100000 = true ∧ cutR vh (Fc (n + (T.pair kk j a b).depth + 3) 29 [.ref r, encT (.pair kk j a b)] vh) = .ok (encT t') vh' ∧ St r c vh' ∧ Keep r c vh vh' := by
      intro t' vh2 hd hr he s2 k2
      obtain ⟨vh3, e3, s3, k3⟩ := cut_keep (encT t') hs s2 k2
      refine ⟨t', vh3, hd, hr, ?_, s3, k3⟩
      rw [← e3]
      show cutR vh (endR (evalSs (Cc (n + max a.depth b.depth + 3)) g__law_bent.body [some (.ref r), some (encT (.pair kk j a b)), none, none, none] vh)) = _
      rw [he]; rfl
    obtain rfl | rfl | rfl | rfl : w = 0 ∨ w = 1 ∨ w = 2 ∨ w = 3 := by omega
    · refine fin (.pair j kk a b) vh1 (by simp only [T.depth]; omega) (by simp only [T.rows, ra, rb, Bool.and_self]) ?_ s1 k1
      simp? [g__law_bent, encT, e_pc, cF, k19, e1]
    · refine fin (.pair kk j b a) vh1 (by simp only [T.depth]; omega) (by simp only [T.rows, ra, rb, Bool.and_self]) ?_ s1 k1
      simp? [g__law_bent, encT, e_pc, cF, k19, e1, cut3, tk3, b_addT false (h32 _ _ _ _ _), List.cons_append, List.nil_append]
    · obtain ⟨t2, vh2, d2, r2, e2, s2, k2⟩ := f_bent (n + (max a.depth b.depth - a.depth)) r c a hf.1 vh1 s1
      rw [show n + (max a.depth b.depth - a.depth) + a.depth + 3 = n + max a.depth b.depth + 3 by omega] at e2
      refine fin (.pair kk j t2 b) vh2 (by simp only [T.depth]; omega) (by simp only [T.rows, r2, rb, Bool.and_self]) ?_ s2 (k1.trans k2)
      simp? [g__law_bent, encT, e_pc, cF, k19, e1, cut3, tk3, k29, e2, b_addT false (h32 _ _ _ _ _), List.cons_append, List.nil_append]
    · obtain ⟨t2, vh2, d2, r2, e2, s2, k2⟩ := f_bent (n + (max a.depth b.depth - b.depth)) r c b hf.2 vh1 s1
      rw [show n + (max a.depth b.depth - b.depth) + b.depth + 3 = n + max a.depth b.depth + 3 by omega] at e2
      refine fin (.pair kk j a t2) vh2 (by simp only [T.depth]; omega) (by simp only [T.rows, ra, r2, Bool.and_self]) ?_ s2 (k1.trans k2)
      simp? [g__law_bent, encT, e_pc, cF, k19, e1, cut4, tk4, k29, e2, b_addT false (h41 _ _ _ _ _), List.cons_append, List.nil_append]
end K30
end
section
set_option Elab.async false
set_option linter.all false
set_option maxRecDepth 100000
set_option maxHeartbeats 4000000
namespace K30
open PySem L3
local macro_rules | `(tactic| simp? [$ls,*]) => `(tactic| simp only [ev_var, ev_int, ev_str, ev_bool, ev_none, ev_glc, ev_bin, ev_neg, ev_not, ev_and, ev_or, ev_and1, ev_and2, ev_or1, ev_or2, ev_ite, ev_cmp, ev_cmp2, ch_bl, ev_tup, ev_lst, ev_idx, ev_slc, pt_none, pt_some, ev_rev, rev_tup, rev_lst, slc_T, slc_L, slc_S, ev_blt, ev_isi, ev_app, ev_yes, ev_frz, ev_comp, ev_comp2, ev_call, neq_self, bne_self_eq_false, evs_nil, evs_cons, te_ev, it_sq, it_r1, it_r2, v0, vS, tr_bl, tr_int, tr_non, and_bl, or_bl, c_lt, c_le, c_gt, c_ge, c_isN, c_isntN, c_isB, c_isntB, b_add, b_sub, mk_f, mk_t, ix_tup, ix_lst, at_0, at_1, at_2, at_3, at_4, bl_lenT, bl_lenL, bl_max2, bl_sumf, bl_allf, bl_maxf, bl_sum, bl_all, bl_maxL, at_p0, set_p0, at_p1, set_p1, bl_tupT, bl_tupL, bl_int, bl_intB, sq_nil, sq_cons, s_set, s_ret, s_expr, s_ifs, s_fr, s_brk, s_cnt, s_aug, s_par2, s_asg, f_nil, ct_nm, ct_tp2, ct_tp3, wp_nil, wp_cons, cs_def, cs2_def, if_som, tg_nm, tg_sub, tg_tp2, tg_tp3, ty_tup, ty_lst, ty_int, ty_bl, ty_str, ty_non, isa_tt, isa_lt, isa_it, isa_bt, isa_st, isa_nt, isa_ti, isa_li, isa_ii, isa_bi, isa_si, isa_ni, isa_tb, isa_lb, isa_ib, isa_bb, isa_sb, isa_nb, nn_tup, nn_lst, nn_int, nn_bl, nn_str, nn_non, er_rt, er_nx, er_xn, Bool.not_true, Bool.not_false, Bool.and_true, Bool.true_and, Bool.and_false, Bool.false_and, Bool.or_true, Bool.true_or, Bool.or_false, Bool.false_or, li0, li1, li2, li3, li4, li5, li6, li7, items_tup, items_lst, items_scr, to_ok, turn1_some, turn_nx, turn_ct, turn_bk, turn_rt, wturn_ok, rb_ok, ro_some, bs_ok, om_some, ob_some, o2_some, seqK_nx, seqK_rt, seqK_bk, seqK_ct, seqK_xn, asgK_some, ptK_int, Nat.reduceAdd, Nat.reduceSub, Nat.reduceEqDiff, nc0, nc1, nc2, nc3, nc4, nc5, nc6, nc7, nc8, nc9, nc10, nc11, Int.reduceEq, Int.reduceNe, Int.reduceLT, Int.reduceLE, Int.reduceAdd, Int.reduceSub, decide_true, decide_false, c_eqI, c_neI, c_eqB, c_neB, reduceIte, Bool.false_eq_true, List.set_cons_zero, List.set_cons_succ, List.length_cons, List.length_nil, List.length_map, List.map_nil, List.map_cons, CT.slots, $ls,*])
theorem LBlk.ok {x : Blk} (h : LBlk x) : BOk x := by
  obtain ⟨h1, h2, h3, h4, h5, h6⟩ := h
  exact ⟨h1, by omega, by omega, h5, by omega⟩
theorem whl_s (c : Env3 → VH → Res D) (b : Env3 → VH → SRes) (n : Nat) (env : Env3) (vh : VH) : whlS c b (n + 1) env vh = bindS (testE c env vh) env fun k vh1 => if k then (match b env vh1 with
    | .nx e v => whlS c b n e v
    | .ct e v => whlS c b n e v
    | .bk e v => .nx e v
    | r => r) else .nx env vh1 := rfl
theorem f_lc_const (n : Nat) : Says (Fc (n + 1) 12) [.tup [.tup [.int 2, .int 0, .int 1], .tup [.int 3, .int 0, .int 1]], .int 4, .lst [.non, .int 0], .int 1] (.tup [.int 0, .int 1]) := fun vh => by
  have key : evalSs (Cc n) g_long_chain.body [some (.tup [.tup [.int 2, .int 0, .int 1], .tup [.int 3, .int 0, .int 1]]), some (.int 4), some (.lst [.non, .int 0]), some (.int 1), none, none] vh = .rt (.tup [.int 0, .int 1]) vh := by rfl
  show cutR vh (endR (evalSs (Cc n) g_long_chain.body [some (.tup [.tup [.int 2, .int 0, .int 1], .tup [.int 3, .int 0, .int 1]]), some (.int 4), some (.lst [.non, .int 0]), some (.int 1), none, none] vh)) = _
  rw [key]; exact cut_same
theorem ix_B0 {vh : VH} (b : Blk) : idxD vh (encB b) (.int 0) = some (.int b.s, vh) := rfl
theorem k12 (n : Nat) : (Cc n).n 12 = 4 := rfl
theorem f_below (n r c : Nat) (B : List Blk) (hl : B.length ≤ 5) (hB : ∀ x ∈ B, LBlk x) (vh : VH) (hs : St r c vh) : ∃ vh', cutR vh (Fc (n + 5) 31 [.ref r, encBs B] vh) = .ok (.bl true) vh' ∧ St r c vh' ∧ Keep r c vh vh' := by
  have hOk : ∀ x ∈ B, BOk x := fun x hx => (hB x hx).ok
  have hz := sz_nn (B := B) fun x hx => (hOk x hx).s0
  have hpl := pairs_len B
  have hpl2 : (pairsB B).length ≤ 25 := Nat.le_trans hpl (Nat.mul_le_mul hl hl)
  have hsz : B.length ≤ sizeLine := szl (by omega)
  have key : ∃ vh', evalSs (Cc (n + 4)) g__law_below.body [some (.ref r), some (encBs B), none, none, none, none, none, none, none, none, none, none, none, none, none] vh = .rt (.bl true) vh' ∧ St r c vh' ∧ Keep r c vh vh' := by
    rw [g__law_below]
    simp only [sq_cons]
    -- row
    have st1 : ∃ E v1, evalS (Cc (n + 4)) (.set 2 (.comp false [("k", 9), ("j", 10)] (.tp [9, 10]) .sq (.call 23 [.var 1]) .yes (.cmp .Eq (.call 19 [.var 0, .cst (.int 2)]) (.cst (.int 0))) (.tup [.var 9, .var 10]))) [some (.ref r), some (encBs B), none, none, none, none, none, none, none, none, none, none, none, none, none] vh = .nx [some (.ref r), some (encBs B), some (encPs E), none, none, none, none, none, none, none, none, none, none, none, none] v1 ∧ (∀ e ∈ E, e ∈ pairsB B) ∧ E.length ≤ 25 ∧ St r c v1 ∧ Keep r c vh v1 := by
      simp? [cF, k23, f_law_pairs (n + 2) B (by omega) hOk vh]
      obtain ⟨ys, v1, e, E, rfl, h1, h2, h3, h4⟩ := compF_st (m := false) (step := compStep (List.map (fun x => x.2) [(Str.ofString "k", 9), (Str.ofString "j", 10)]) (.tp [9, 10]) (testE (evalE (Cc (n + 4)) (.cmp .Eq (.call 19 [.var 0, .cst (.int 2)]) (.cst (.int 0))))) (evalE (Cc (n + 4)) (.tup [.var 9, .var 10])) [some (.ref r), some (encBs B), none, none, none, none, none, none, none, none, none, none, none, none, none]) (enc := encP) (xs := pairsB B) (vh := vh)
        (fun pre acc v => ∃ E, acc = E.map encP ∧ (∀ e ∈ E, e ∈ pairsB B) ∧ E.length ≤ pre.length ∧ St r c v ∧ Keep r c vh v) (by
          rintro pre ⟨a, b⟩ suf acc v hx ⟨E, rfl, h1, h2, h3, h4⟩
          obtain ⟨t, v2, e2, t0, t1, s2, k2⟩ := f_take (n + 3) r c 2 (by omega) (by omega) v h3
          have hm : (a, b) ∈ pairsB B := by rw [hx]; simp
          by_cases q : t = 0
          · refine ⟨[encP (a, b)], v2, ?_, E ++ [(a, b)], by simp, fun e he => ?_, by simp; omega, s2, h4.trans k2⟩
            · simp? [encP, cF, k19, e2, decide_eq_true q]
            · rcases List.mem_append.mp he with he | he
              · exact h1 e he
              · rw [List.mem_singleton.mp he]; exact hm
          · refine ⟨[], v2, ?_, E, by simp, h1, by simp; omega, s2, h4.trans k2⟩
            simp? [encP, cF, k19, e2, decide_eq_false q]) ⟨[], rfl, (fun e h => by cases h), Nat.le_refl _, hs, Keep.refl⟩ (by
          rintro ys v ⟨E, rfl, h1, h2, h3, h4⟩
          rw [List.length_map]; exact szl (by omega))
      simp only [List.map_cons, List.map_nil] at e
      rw [e]
      simp? []
      exact ⟨E, v1, rfl, h1, by omega, h3, h4⟩
    obtain ⟨E, v1, e1, hEp, hEl, s1, K1⟩ := st1
    have hE : InR B.length E := fun e he => pair_in (hEp e he)
    have hEs : ∀ e ∈ E, 0 < sz B e.1 := fun e he => (pair_pos (hEp e he)).1
    simp only [e1, seqK_nx]
    have hl1 := s1.lt
    -- due
    have st2 : ∃ o4 o12 o13, seqK (evalS (Cc (n + 4)) (.set 3 (.bin .Mult true (.lst false [.cst (.int 0)]) (.blt .len false [.var 1]))) [some (.ref r), some (encBs B), some (encPs E), none, none, none, none, none, none, none, none, none, none, none, none] v1) (fun e v => evalS (Cc (n + 4)) (.fr (.nm 4) .r1 (.bin .Add false (.blt .len false [.var 1]) (.cst (.int 1))) .yes [.fr (.tp [12, 13]) .sq (.var 2) .yes [.asg (.sub (.var 3) (.var 13)) (.blt .max2 false [.idx (.var 3) (.var 13), .bin .Add false (.idx (.var 3) (.var 12)) (.idx (.idx (.var 1) (.var 12)) (.cst (.int 0)))])]]) e v) = .nx [some (.ref r), some (encBs B), some (encPs E), some (.ref v1.length), o4, none, none, none, none, none, none, none, o12, o13, none] (v1 ++ [.lst ((rounds (sz B) E B.length (B.length + 1)).map .int)]) := by
      simp? [b_mulL _ _ _ hsz, r1_ok (j := B.length + 1) (inR_of (by omega) (by omega))]
      generalize hr : forL _ _ _ _ _ = res
      obtain ⟨e, v, rfl, P, o3, o4, o5, hP, rfl, rfl⟩ := for_t hr (fun pre env v => ∃ P o4 o12 o13, P = rounds (sz B) E B.length pre.length ∧ env = [some (.ref r), some (encBs B), some (encPs E), some (.ref v1.length), o4, none, none, none, none, none, none, none, o12, o13, none] ∧ v = v1 ++ [.lst (P.map .int)]) ⟨_, none, none, none, rfl, rfl, by simp [rounds, iter, zeros]⟩ (by
        intro pre x suf env v hx hI
        obtain ⟨P, o3, o4, o5, hP, q1, q2⟩ := hI
        subst q1; subst q2
        have hPl : P.length = B.length := by rw [hP, rounds_len]
        simp? []
        generalize hr : forL _ _ _ _ _ = res
        obtain ⟨e, v, rfl, Q, o3, o4, o5, ⟨hQ, hQl⟩, rfl, rfl⟩ := for_t hr (fun pre env v => ∃ Q o4' o12 o13, (Q = pre.foldl (relax (sz B)) P ∧ Q.length = B.length) ∧ env = [some (.ref r), some (encBs B), some (encPs E), some (.ref v1.length), o4', none, none, none, none, none, none, none, o12, o13, none] ∧ v = v1 ++ [.lst (Q.map .int)]) ⟨_, _, _, _, ⟨rfl, hPl⟩, rfl, rfl⟩ (by
          intro pre e suf env v hx hI
          obtain ⟨a, b⟩ := e
          obtain ⟨Q, o3, o4, o5, ⟨hQ, hQl⟩, q1, q2⟩ := hI
          subst q1; subst q2
          have he := hE (a, b) (by simp [hx])
          have h1 := he.1
          have h2 := he.2
          simp? [encP, ix_ref _ at_p0, at_I, at_B, hQl, h1, h2, encB, six_nat at_p0]
          refine ⟨Q.set b (max (g Q b) (g Q a + (blk B a).s)), _, _, _, ⟨?_, by simp [hQl]⟩, rfl, by simp⟩
          rw [List.foldl_append, ← hQ]
          rfl)
        simp? []
        have hstep : Q = rounds (sz B) E B.length (pre ++ [x]).length := by rw [List.length_append, List.length_singleton, rounds_succ, ← hP]; exact hQ
        exact ⟨Q, o3, o4, o5, hstep, rfl, rfl⟩)
      rw [List.length_range, show ((B.length : Int) + 1).toNat = B.length + 1 by omega] at hP
      subst hP
      exact ⟨_, _, _, rfl⟩
    obtain ⟨o4, o12, o13, e2⟩ := st2
    rw [← seqK_assoc, e2, seqK_nx]
    have hPl : (rounds (sz B) E B.length (B.length + 1)).length = B.length := rounds_len _
    have hpot : Pot B.length (sz B) E fun k => g (rounds (sz B) E B.length (B.length + 1)) k := rounds_pot hE (F := upTo B) ⟨fun k _ => by have := upTo_mono hz (Nat.zero_le k); simpa [upTo] using this, fun e he => by
      rw [← upTo_succ]; exact upTo_mono hz (mem_pairs.mp (hEp e he)).1⟩ hEs
    have hle : ∀ F, Pot B.length (sz B) E F → ∀ k, k < B.length → g (rounds (sz B) E B.length (B.length + 1)) k ≤ F k := fun F hF => rounds_le hE hF _
    have hht := f_heights famC (n + 3) B E hE (by omega) (v1 ++ [.lst ((rounds (sz B) E B.length (B.length + 1)).map .int)])
    have hht : cutR (v1 ++ [.lst ((rounds (sz B) E B.length (B.length + 1)).map .int)]) (Fc (n + 4) 7 [encBs B, encPs E] (v1 ++ [.lst ((rounds (sz B) E B.length (B.length + 1)).map .int)])) = _ := hht
    generalize rounds (sz B) E B.length (B.length + 1) = P at *
    have hne : cmpD .NotEq (v1 ++ [.lst (P.map .int)]) (encIs P) (.ref v1.length) = some (.bl false, v1 ++ [.lst (P.map .int)]) := by
      rw [ee_int.ne_ref (by decide) P P at_p0]; simp
    obtain ⟨L, v3, e5, L0, L1, s3, K3⟩ := f_take (n + 3) r c 9 (by omega) (by omega) (v1 ++ [.lst (P.map .int)]) (s1.app _)
    have hd3 : v3[v1.length]? = some (.lst (P.map .int)) := by
      rw [K3.2 v1.length (by simp) (by omega) (by omega)]; simp
    simp? [cF, k7, hht, hne, k19, e5, cut1]
    rw [← List.map_take]
    generalize hc : compF _ _ _ _ = cr
    obtain ⟨ys, v4, rfl, X, rfl, hX, hXl, s4, K4⟩ := compF_g hc (fun pre acc v => ∃ X, acc = X.map encP ∧ (∀ e ∈ X, (e.2, e.1) ∈ E) ∧ X.length ≤ pre.length ∧ St r c v ∧ Keep r c v3 v) ⟨[], rfl, (fun e h => by cases h), Nat.le_refl _, s3, Keep.refl⟩ (by
      intro pre e suf acc v hx hI
      obtain ⟨a, b⟩ := e
      obtain ⟨X, q1, h1, h2, h3, h4⟩ := hI
      subst q1
      obtain ⟨t, v2, e2, t0, t1, s2, k2⟩ := f_take (n + 3) r c 3 (by omega) (by omega) v h3
      have hm : (a, b) ∈ E := List.mem_of_mem_take (by rw [hx]; simp : (a, b) ∈ E.take 1)
      by_cases q : t = 0
      · refine ⟨[encP (b, a)], v2, ?_, X ++ [(b, a)], by simp, fun e he => ?_, by simp; omega, s2, h4.trans k2⟩
        · simp? [encP, cF, k19, e2, decide_eq_true q]
        · rcases List.mem_append.mp he with he | he
          · exact h1 e he
          · rw [List.mem_singleton.mp he]; exact hm
      · refine ⟨[], v2, ?_, X, by simp, h1, by simp; omega, s2, h4.trans k2⟩
        simp? [encP, cF, k19, e2, decide_eq_false q]) (by
      rintro ys v ⟨X, rfl, h1, h2, h3, h4⟩
      have : (E.take 1).length ≤ 1 := by simp; omega
      rw [List.length_map]; exact szl (by omega))
    have hXl : X.length ≤ 1 := by simp at hXl; omega
    have hd4 : v4[v1.length]? = some (.lst (P.map .int)) := by
      rw [K4.2 v1.length (by
        by_cases q : v1.length < v3.length
        · exact q
        · rw [List.getElem?_eq_none (by omega)] at hd3; cases hd3) (by omega) (by omega)]; exact hd3
    have hadd : (E.map encP).length + (X.map encP).length ≤ sizeLine := szl (by simp; omega)
    have hI2 : InR B.length (E ++ X) := fun e he => by
      rcases List.mem_append.mp he with he | he
      · exact hE e he
      · exact (hE _ (hX e he)).symm
    have hS2 : ∀ e ∈ E ++ X, 0 < sz B e.1 := fun e he => by
      rcases List.mem_append.mp he with he | he
      · exact hEs e he
      · exact (pair_pos (hEp _ (hX e he))).2
    obtain ⟨d, hd, e7⟩ := f_too_long famC (n + 2) B L (E ++ X) (by omega) L0 (by omega) hz hI2 hS2 v4
    have e7 : cutR v4 (Fc (n + 4) 11 [encBs B, .int L, .lst ((E ++ X).map encP)] v4) = .ok d v4 := e7
    simp? [b_addL false hadd]
    rw [← List.map_append]
    simp? [cF, k11, e7, r1_ok (j := B.length) (inR_of (by omega) (by omega)), Int.toNat_natCast]
    rw [compF_map (fun k : Nat => D.int k) (fun k => decide (L < g P k + sz B k)) (fun k : Nat => D.int k) ?_ (szl (by simp; omega))]
    rotate_left
    · intro k hk
      have hk := List.mem_range.mp hk
      simp? [ix_ref _ hd4, at_I (show k < P.length by omega), at_B hk, encB]
      rfl
    have hpot2 : (E ++ X).length ≤ E.length → (∀ k, k < B.length → g P k + sz B k ≤ L) → ∀ row, chainB B L (E ++ X) row = true → False := by
      intro h1 h2 row h3
      have hX0 : X = [] := by
        cases X with
        | nil => rfl
        | cons => simp at h1; omega
      rw [hX0, List.append_nil] at h3
      exact chain_no h3 hpot.1 h2 hpot.2
    have hno : ∀ F, Pot B.length (sz B) (E ++ X) F → (∀ k, k < B.length → F k + sz B k ≤ L) → X = [] ∧ ∀ k, k < B.length → g P k + sz B k ≤ L := by
      intro F hF hFt
      refine ⟨?_, fun k hk => ?_⟩
      · cases X with
        | nil => rfl
        | cons e X' =>
          have h1 := hF.2 e (by simp)
          have h2 := hF.2 (e.2, e.1) (List.mem_append.mpr (.inl (hX e List.mem_cons_self)))
          have h3 := pair_pos (hEp _ (hX e List.mem_cons_self))
          simp only at h1 h2 h3
          omega
      · have := hle F ⟨hF.1, fun e he => hF.2 e (by simp [he])⟩ k hk
        have := hFt k hk
        omega
    have hfl : ∀ b : Bool, decide ((0 : Int) < ((List.range B.length).filter fun k => decide (L < g P k + sz B k)).length) = b → (b = true → ∃ k, k < B.length ∧ L < g P k + sz B k) ∧ (b = false → ∀ k, k < B.length → g P k + sz B k ≤ L) := by
      intro b hb
      refine ⟨fun q => ?_, fun q k hk => ?_⟩
      · rw [q, decide_eq_true_eq] at hb
        obtain ⟨k, hk⟩ := List.exists_mem_of_length_pos (l := (List.range B.length).filter fun k => decide (L < g P k + sz B k)) (by omega)
        obtain ⟨q1, q2⟩ := List.mem_filter.mp hk
        exact ⟨k, List.mem_range.mp q1, by simpa using q2⟩
      · rw [q, decide_eq_false_iff_not] at hb
        by_cases h : g P k + sz B k ≤ L
        · exact h
        · have := List.length_pos_of_mem (List.mem_filter.mpr ⟨List.mem_range.mpr hk, decide_eq_true (by omega)⟩ : k ∈ (List.range B.length).filter fun k => decide (L < g P k + sz B k))
          omega
    simp? []
    generalize hfb : decide ((0 : Int) < ((List.range B.length).filter fun k => decide (L < g P k + sz B k)).length) = fb at *
    obtain ⟨hf1, hf2⟩ := hfl fb rfl
    generalize hlb : decide ((E.length : Int) < (E ++ X).length) = lb
    have hlt : (lb = true → E.length < (E ++ X).length) ∧ (lb = false → (E ++ X).length ≤ E.length) := by
      refine ⟨fun q => ?_, fun q => ?_⟩
      · rw [q, decide_eq_true_eq] at hlb; omega
      · rw [q, decide_eq_false_iff_not] at hlb; omega
    refine ex_seq (fun e v => ∃ o7 o8, e = [some (.ref r), some (encBs B), some (encPs E), some (.ref v1.length), o4, some (.int L), some (encPs (E ++ X)), o7, o8, none, none, none, o12, o13, none] ∧ v = v4) ?_ ?_
    · rcases hd with ⟨rfl, F, hF, hFt⟩ | ⟨row, hrow, rfl⟩
      · obtain ⟨hX0, htop⟩ := hno F hF hFt
        have h1 : lb = false := by
          cases lb with
          | false => rfl
          | true => have := hlt.1 rfl; rw [hX0] at this; simp at this
        have h2 : fb = false := by
          cases fb with
          | false => rfl
          | true => obtain ⟨k, hk, h⟩ := hf1 rfl; have := htop k hk; omega
        rw [h1, h2]
        simp? []
        exact ⟨_, _, rfl, _, _, rfl, rfl⟩
      · have h1 : (lb || fb) = true := by
          cases lb with
          | true => rfl
          | false =>
            cases fb with
            | true => rfl
            | false => exact (hpot2 (hlt.2 rfl) (hf2 rfl) row hrow.1).elim
        rw [h1]
        have hsh := f_law_shows B L (by omega) hOk (n + 1) (.chain row) (E ++ X) (by simp [T.depth]; omega) (by simp only [T.rows, decide_eq_true_eq]; have := hrow.2; omega) v4
        have hsh : cutR v4 (Fc (n + 4) 28 [encBs B, .int L, .tup [.str "chain", .tup (row.map fun k : Nat => D.int k)], encPs (E ++ X)] v4) = .ok (.bl (chainB B L (E ++ X) row)) v4 := hsh
        rw [hrow.1] at hsh
        simp? [cF, k28, hsh]
        exact ⟨_, _, rfl, _, _, rfl, rfl⟩
    · intro e v hI
      obtain ⟨o7, o8, q1, q2⟩ := hI
      subst q1; subst q2
      have K4' : Keep r c vh v := by
        refine K1.trans ⟨by have := K3.1; have := K4.1; simp at *; omega, fun i hi hr hc => ?_⟩
        have hi3 : i < v3.length := by have := K3.1; simp at this; omega
        rw [K4.2 i hi3 hr hc, K3.2 i (by simp; omega) hr hc, List.getElem?_append_left hi]
      have cut3' : ∀ ds : List D, cutL ds none (some 3) = ds.take 3 := fun ds => cut_take ds 3
      simp? [cF, k23, f_law_pairs (n + 2) B (by omega) hOk v, cut3']
      rw [← List.map_take]
      generalize hr : forL _ _ _ _ _ = res
      obtain ⟨e, v5, rfl, o9, o10, o11, q1, s5, K5⟩ := for_t hr (fun pre env v5 => ∃ o9 o10 o11, env = [some (.ref r), some (encBs B), some (encPs E), some (.ref v1.length), o4, some (.int L), some (encPs (E ++ X)), o7, o8, o9, o10, o11, o12, o13, none] ∧ St r c v5 ∧ Keep r c v v5) ⟨_, _, _, rfl, s4, Keep.refl⟩ (by
        intro pre e suf env v5 hx hI
        obtain ⟨a, b⟩ := e
        obtain ⟨o9, o10, o11, q1, s5, K5⟩ := hI
        subst q1
        have hm : (a, b) ∈ pairsB B := List.mem_of_mem_take (by rw [hx]; simp : (a, b) ∈ (pairsB B).take 3)
        obtain ⟨ha, hb⟩ := pair_in hm
        have ha : a < B.length := ha
        have hb : b < B.length := hb
        simp? [encP]
        generalize hc : compF _ _ _ _ = cr
        obtain ⟨ys, v6, rfl, Q, q1, hQ, s6, K6⟩ := compF_g hc (fun pre acc v6 => ∃ Q : List Int, acc = Q.map .int ∧ Q.length = pre.length ∧ St r c v6 ∧ Keep r c v5 v6) ⟨[], rfl, rfl, s5, Keep.refl⟩ (by
          intro pre e suf acc v6 hx hI
          obtain ⟨Q, q1, h1, h3, h4⟩ := hI
          subst q1
          obtain ⟨t, v7, e2, t0, t1, s2, k2⟩ := f_take (n + 3) r c 6 (by omega) (by omega) v6 h3
          refine ⟨[.int t], v7, ?_, Q ++ [t], by simp, by simp [h1], s2, h4.trans k2⟩
          simp? [cF, k19, e2]) (by
          rintro ys v ⟨Q, rfl, h1, h3, h4⟩
          rw [List.length_map]; exact szl (by omega))
        subst q1
        have hap := f_apart famC (n + 3) B Q (a, b) hQ ha hb v6
        have hap : cutR v6 (Fc (n + 4) 10 [encBs B, .lst (Q.map .int), .tup [.int a, .int b]] v6) = .ok (.bl (apB B Q (a, b))) v6 := hap
        have hme := f_meet famC (n + 3) (blk B a) (blk B b) v6
        have hme : cutR v6 (Fc (n + 4) 2 [encB (blk B a), encB (blk B b)] v6) = .ok (.bl (meetB (blk B a) (blk B b))) v6 := hme
        rw [(mem_pairs.mp hm).2.2] at hme
        simp? [cF, k10, hap, at_I (show a < Q.length by omega), at_I (show b < Q.length by omega), at_B ha, at_B hb, ix_B0, k2, hme]
        have ez : (decide (g Q b + (blk B b).s ≤ g Q a) || decide (g Q a + (blk B a).s ≤ g Q b)) = apB B Q (a, b) := rfl
        rw [ez]
        cases apB B Q (a, b) <;> (simp? [hme]; exact ⟨_, _, _, rfl, s6, K5.trans K6⟩))
      subst q1
      have hlc := f_lc_const (n + 3) v5
      have hlc : cutR v5 (Fc (n + 4) 12 [.tup [.tup [.int 2, .int 0, .int 1], .tup [.int 3, .int 0, .int 1]], .int 4, .lst [.non, .int 0], .int 1] v5) = _ := hlc
      have heq : cmpD .Eq v5 (.tup [.int 0, .int 1]) (.tup [.int 0, .int 1]) = some (.bl true, v5) := by
        have := (ee_tupL ee_int).c_eq (vh := v5) (by decide) [0, 1] [0, 1]
        simpa using this
      simp? [k12, hlc, heq]
      exact ⟨v5, rfl, s5, K4'.trans K5⟩
  obtain ⟨v, h1, h2, h3⟩ := key
  obtain ⟨vh2, e2, s2, k2⟩ := cut_keep (.bl true) hs h2 h3
  refine ⟨vh2, ?_, s2, k2⟩
  rw [← e2]
  show cutR vh (endR (evalSs (Cc (n + 4)) g__law_below.body [some (.ref r), some (encBs B), none, none, none, none, none, none, none, none, none, none, none, none, none] vh)) = _
  rw [h1]; rfl
end K30
end
section
set_option Elab.async false
set_option linter.all false
set_option maxRecDepth 100000
set_option maxHeartbeats 4000000
namespace K30
open PySem L3
local macro_rules | `(tactic| simp? [$ls,*]) => `(tactic| simp only [ev_var, ev_int, ev_str, ev_bool, ev_none, ev_glc, ev_bin, ev_neg, ev_not, ev_and, ev_or, ev_and1, ev_and2, ev_or1, ev_or2, ev_ite, ev_cmp, ev_cmp2, ch_bl, ev_tup, ev_lst, ev_idx, ev_slc, pt_none, pt_some, ev_rev, rev_tup, rev_lst, slc_T, slc_L, slc_S, ev_blt, ev_isi, ev_app, ev_yes, ev_frz, ev_comp, ev_comp2, ev_call, neq_self, bne_self_eq_false, evs_nil, evs_cons, te_ev, it_sq, it_r1, it_r2, v0, vS, tr_bl, tr_int, tr_non, and_bl, or_bl, c_lt, c_le, c_gt, c_ge, c_isN, c_isntN, c_isB, c_isntB, b_add, b_sub, mk_f, mk_t, ix_tup, ix_lst, at_0, at_1, at_2, at_3, at_4, bl_lenT, bl_lenL, bl_max2, bl_sumf, bl_allf, bl_maxf, bl_sum, bl_all, bl_maxL, at_p0, set_p0, at_p1, set_p1, bl_tupT, bl_tupL, bl_int, bl_intB, sq_nil, sq_cons, s_set, s_ret, s_expr, s_ifs, s_fr, s_brk, s_cnt, s_aug, s_par2, s_asg, f_nil, ct_nm, ct_tp2, ct_tp3, wp_nil, wp_cons, cs_def, cs2_def, if_som, tg_nm, tg_sub, tg_tp2, tg_tp3, ty_tup, ty_lst, ty_int, ty_bl, ty_str, ty_non, isa_tt, isa_lt, isa_it, isa_bt, isa_st, isa_nt, isa_ti, isa_li, isa_ii, isa_bi, isa_si, isa_ni, isa_tb, isa_lb, isa_ib, isa_bb, isa_sb, isa_nb, nn_tup, nn_lst, nn_int, nn_bl, nn_str, nn_non, er_rt, er_nx, er_xn, Bool.not_true, Bool.not_false, Bool.and_true, Bool.true_and, Bool.and_false, Bool.false_and, Bool.or_true, Bool.true_or, Bool.or_false, Bool.false_or, li0, li1, li2, li3, li4, li5, li6, li7, items_tup, items_lst, items_scr, to_ok, turn1_some, turn_nx, turn_ct, turn_bk, turn_rt, wturn_ok, rb_ok, ro_some, bs_ok, om_some, ob_some, o2_some, seqK_nx, seqK_rt, seqK_bk, seqK_ct, seqK_xn, asgK_some, ptK_int, Nat.reduceAdd, Nat.reduceSub, Nat.reduceEqDiff, nc0, nc1, nc2, nc3, nc4, nc5, nc6, nc7, nc8, nc9, nc10, nc11, Int.reduceEq, Int.reduceNe, Int.reduceLT, Int.reduceLE, Int.reduceAdd, Int.reduceSub, decide_true, decide_false, c_eqI, c_neI, c_eqB, c_neB, reduceIte, Bool.false_eq_true, List.set_cons_zero, List.set_cons_succ, List.length_cons, List.length_nil, List.length_map, List.map_nil, List.map_cons, CT.slots, $ls,*])
/-! ### values of wrong kinds -/
theorem k0 (n : Nat) : (Cc n).n 0 = 1 := rfl
theorem k16 (n : Nat) : (Cc n).n 16 = 2 := rfl
def isIntD : D → Bool
  | .int _ => true
  | _ => false
theorem f_isintD (n : Nat) (d : D) (h : ∀ vh, (tyD vh d).isSome = true) : Says (Fc (n + 1) 1) [d] (.bl (isIntD d)) := fun vh => by
  have key : evalSs (Cc n) g_is_integer.body [some d] vh = .rt (.bl (isIntD d)) vh := by
    have h := h []
    cases d <;> first | (simp? [g_is_integer, isIntD, ty_str, ty_lst]; done) | (exfalso; simp [tyD] at h; done) | skip
    · show evalSs (Cc n) g_is_integer.body [some (.scr _)] vh = _
      rfl
  show cutR vh (endR (evalSs (Cc n) g_is_integer.body [some d] vh)) = _
  rw [key]; exact cut_same
theorem i_non (n : Nat) (vh : VH) : cutR vh (Fc (n + 1) 1 [.non] vh) = .ok (.bl false) vh := f_isintD n .non (fun _ => rfl) vh
theorem i_str (n : Nat) (x : Str) (vh : VH) : cutR vh (Fc (n + 1) 1 [.str x] vh) = .ok (.bl false) vh := f_isintD n (.str x) (fun _ => rfl) vh
theorem i_bl (n : Nat) (x : Bool) (vh : VH) : cutR vh (Fc (n + 1) 1 [.bl x] vh) = .ok (.bl false) vh := f_isintD n (.bl x) (fun _ => rfl) vh
theorem i_int (n : Nat) (i : Int) (vh : VH) : cutR vh (Fc (n + 1) 1 [.int i] vh) = .ok (.bl true) vh := f_isint n i vh
section
variable (n : Nat)
theorem p_non (B : List Blk) : Says (Fc (n + 3) 5) [encBs B, .non] (.bl false) := fun vh => by
  have key : evalSs (Cc (n + 2)) g_is_plan.body [some (encBs B), some .non, none, none, none] vh = .rt (.bl false) vh := by simp? [g_is_plan]
  show cutR vh (endR (evalSs (Cc (n + 2)) g_is_plan.body [some (encBs B), some .non, none, none, none] vh)) = _
  rw [key]; exact cut_same
theorem p_lst (B : List Blk) (ds : List D) : Says (Fc (n + 3) 5) [encBs B, .lst ds] (.bl false) := fun vh => by
  have key : evalSs (Cc (n + 2)) g_is_plan.body [some (encBs B), some (.lst ds), none, none, none] vh = .rt (.bl false) vh := by simp? [g_is_plan]
  show cutR vh (endR (evalSs (Cc (n + 2)) g_is_plan.body [some (encBs B), some (.lst ds), none, none, none] vh)) = _
  rw [key]; exact cut_same
theorem p_bl : Says (Fc (n + 3) 5) [encBs [⟨1, 0, 1⟩], .tup [.bl true]] (.bl false) := fun vh => by
  have key : evalSs (Cc (n + 2)) g_is_plan.body [some (encBs [⟨1, 0, 1⟩]), some (.tup [.bl true]), none, none, none] vh = .rt (.bl false) vh := by
    simp? [g_is_plan]
    rw [show [D.bl true] = [true].map D.bl from rfl, compF_all D.bl (fun _ => .bl false) ?_ (szl (by simp))]
    · rw [show ([true].map fun x => D.bl false) = [D.bl false] from rfl]
      have : bltD .all false vh [.lst [.bl false]] = some (.bl false, vh) := rfl
      simp? [this]
    · intro x hx
      simp? [cF, k1, i_bl]
  show cutR vh (endR (evalSs (Cc (n + 2)) g_is_plan.body [some (encBs [⟨1, 0, 1⟩]), some (.tup [.bl true]), none, none, none] vh)) = _
  rw [key]; exact cut_same
theorem p_len (B : List Blk) (ds : List D) (h : ds.length ≠ B.length) : Says (Fc (n + 3) 5) [encBs B, .tup ds] (.bl false) := fun vh => by
  have e : decide ((ds.length : Int) = B.length) = false := by rw [decide_eq_false_iff_not]; omega
  have key : evalSs (Cc (n + 2)) g_is_plan.body [some (encBs B), some (.tup ds), none, none, none] vh = .rt (.bl false) vh := by simp? [g_is_plan, e]
  show cutR vh (endR (evalSs (Cc (n + 2)) g_is_plan.body [some (encBs B), some (.tup ds), none, none, none] vh)) = _
  rw [key]; exact cut_same
def odds : List D := [.non, .tup [], .lst [.int 3, .tup [], .non], .tup [.int 0], .tup [.str "0", .tup [], .non], .tup [.int 0, .non, .non], .tup [.int 0, .tup [], .non, .int 1]]
theorem odds_ok : ∀ d ∈ odds, Says (Fc (n + 5) 16) [.tup [], d] (.bl false) := by
  intro d hd vh
  have hp := p_non (n + 1) [] vh
  have hp : cutR vh (Fc (n + 4) 5 [.tup [], .non] vh) = .ok (.bl false) vh := hp
  have key : evalSs (Cc (n + 4)) g_accepts_least.body [some (.tup []), some d] vh = .rt (.bl false) vh := by
    simp only [odds, List.mem_cons, List.not_mem_nil, or_false] at hd
    rcases hd with rfl | rfl | rfl | rfl | rfl | rfl | rfl <;> simp? [g_accepts_least, cF, k1, i_str, i_int, k5, hp]
  show cutR vh (endR (evalSs (Cc (n + 4)) g_accepts_least.body [some (.tup []), some d] vh)) = _
  rw [key]; exact cut_same
def B2 : List Blk := [⟨2, 0, 1⟩, ⟨2, 0, 1⟩]
theorem cc_of (a b : Str) (h : (a == b) = false) (ha : PyData.strOk a = true) (hb : PyData.strOk b = true) {vh : VH} : cmpD .Eq vh (.str a) (.str b) = some (.bl false, vh) := by
  rw [c_eqS a b ha hb, h]
theorem cn_of (a b : Str) (h : (a == b) = false) (ha : PyData.strOk a = true) (hb : PyData.strOk b = true) {vh : VH} : cmpD .NotEq vh (.str a) (.str b) = some (.bl true, vh) := by
  rw [c_neS a b ha hb, h]; rfl
theorem e_oc {vh : VH} : cmpD .Eq vh (.str "other") (.str "chain") = some (.bl false, vh) := cc_of _ _ (by decide +kernel) (by decide +kernel) (by decide +kernel)
theorem n_op {vh : VH} : cmpD .NotEq vh (.str "other") (.str "pair") = some (.bl true, vh) := cn_of _ _ (by decide +kernel) (by decide +kernel) (by decide +kernel)
def bads : List D := [.non, .tup [], .tup [.str "chain"], .tup [.str "chain", .non], .tup [.str "chain", .tup []], .tup [.str "pair", .int 0, .int 1], .tup [.str "other", .tup []], .lst [.str "chain", .tup [.int 0]], .tup [.str "chain", .tup [.int 9]], .tup [.str "chain", .tup [.non]]]
theorem bads_ok : ∀ d ∈ bads, Says (Fc (n + 4) 13) [encBs B2, .int 1, d] (.bl false) := by
  intro d hd vh
  have key1 : ∀ d ∈ bads, cutR vh (Fc (n + 3) 14 [encBs B2, .int 1, d, .lst [], .int 0] vh) = .ok (.bl false) vh := by
    intro d hd
    have key : evalSs (Cc (n + 2)) g_shows.body [some (encBs B2), some (.int 1), some d, some (.lst []), some (.int 0), none, none, none] vh = .rt (.bl false) vh := by
      simp only [bads, List.mem_cons, List.not_mem_nil, or_false] at hd
      rcases hd with rfl | rfl | rfl | rfl | rfl | rfl | rfl | rfl | rfl | rfl
      · simp? [g_shows]
      · simp? [g_shows]
      · simp? [g_shows, e_cc, n_cp]
      · simp? [g_shows, e_cc, n_cp]
      · simp? [g_shows, e_cc, n_cp]
      · simp? [g_shows, e_pc, n_pp]
      · simp? [g_shows, e_oc, n_op]
      · simp? [g_shows]
      · simp? [g_shows, e_cc]
        rw [show [D.int 9] = [(9 : Int)].map D.int from rfl, compF_all D.int (fun _ => .bl false) ?_ (szl (by simp))]
        · rw [show ([(9 : Int)].map fun x => D.bl false) = [D.bl false] from rfl]
          have : bltD .all false vh [.lst [.bl false]] = some (.bl false, vh) := rfl
          simp? [this]
        · intro x hx
          rw [List.mem_singleton.mp hx]
          simp? [cF, k1, i_int, B2]
      · simp? [g_shows, e_cc]
        rw [show [D.non] = [()].map (fun _ => D.non) from rfl, compF_all (fun _ => D.non) (fun _ => .bl false) ?_ (szl (by simp))]
        · rw [show ([()].map fun x => D.bl false) = [D.bl false] from rfl]
          have : bltD .all false vh [.lst [.bl false]] = some (.bl false, vh) := rfl
          simp? [this]
        · intro x hx
          simp? [cF, k1, i_non]
    show cutR vh (endR (evalSs (Cc (n + 2)) g_shows.body [some (encBs B2), some (.int 1), some d, some (.lst []), some (.int 0), none, none, none] vh)) = _
    rw [key]; exact cut_same
  have key : evalSs (Cc (n + 3)) g_accepts_none.body [some (encBs B2), some (.int 1), some d] vh = .rt (.bl false) vh := by
    simp? [g_accepts_none, cF, k14, key1 d hd]
  show cutR vh (endR (evalSs (Cc (n + 3)) g_accepts_none.body [some (encBs B2), some (.int 1), some d] vh)) = _
  rw [key]; exact cut_same
def wrongs : List D := [.non, .tup [.int 1, .int 2], .tup [.int 1, .int 0, .int 0], .tup [.int (-1), .int 0, .int 1], .tup [.int 1, .int 0, .bl true], .lst [.int 1, .int 0, .int 1], .tup [.int 1, .int 0, .non]]
theorem is_block3 (a b c : D) (x y z : Bool) (vh : VH) (ha : cutR vh (Fc (n + 1) 1 [a] vh) = .ok (.bl x) vh) (hb : cutR vh (Fc (n + 1) 1 [b] vh) = .ok (.bl y) vh) (hc : cutR vh (Fc (n + 1) 1 [c] vh) = .ok (.bl z) vh) (own : List Nat) (env : Env3) (h : ∀ d : D, compStep own (.nm 1) (testE (evalE (Cc (n + 1)) .yes)) (evalE (Cc (n + 1)) (.call 1 [.var 1])) env d vh = (toO (cutR vh (Fc (n + 1) 1 [d] vh))).map fun p => ([p.1], p.2)) :
    compF false (compStep own (.nm 1) (testE (evalE (Cc (n + 1)) .yes)) (evalE (Cc (n + 1)) (.call 1 [.var 1])) env) [a, b, c] vh = some (.lst [.bl x, .bl y, .bl z], vh) := by
  unfold compF
  simp only [compL, h, ha, hb, hc, to_ok, om_some, ob_some, List.append_nil, List.cons_append, List.nil_append]
  rfl
theorem f_block3 (a b c : D) (x y z : Bool) (vh : VH) (ha : cutR vh (Fc (n + 1) 1 [a] vh) = .ok (.bl x) vh) (hb : cutR vh (Fc (n + 1) 1 [b] vh) = .ok (.bl y) vh) (hc : cutR vh (Fc (n + 1) 1 [c] vh) = .ok (.bl z) vh) (res : Bool)
    (hres : (x && (y && z)) = true → ∃ i j k, a = .int i ∧ b = .int j ∧ c = .int k ∧ (decide (0 ≤ i) && decide (j < k)) = res) (hres2 : (x && (y && z)) = false → res = false) : cutR vh (Fc (n + 2) 0 [.tup [a, b, c]] vh) = .ok (.bl res) vh := by
  have key : evalSs (Cc (n + 1)) g_is_block.body [some (.tup [a, b, c]), none] vh = .rt (.bl res) vh := by
    simp? [g_is_block]
    rw [is_block3 n a b c x y z vh ha hb hc]
    · have : bltD .all false vh [.lst [.bl x, .bl y, .bl z]] = some (.bl (x && (y && z)), vh) := by
        have := bl_all (vh := vh) false [x, y, z]
        simp only [List.map_cons, List.map_nil] at this
        rw [this]; simp
      simp? [this]
      cases hq : (x && (y && z)) with
      | false => simp? [hres2 hq]
      | true =>
        obtain ⟨i, j, k, rfl, rfl, rfl, hr⟩ := hres hq
        simp? [hr]
    · intro d
      simp? [cF, k1]
      cases cutR vh (Fc (n + 1) 1 [d] vh) <;> rfl
  show cutR vh (endR (evalSs (Cc (n + 1)) g_is_block.body [some (.tup [a, b, c]), none] vh)) = _
  rw [key]; exact cut_same
theorem wrongs_ok : ∀ d ∈ wrongs, Says (Fc (n + 2) 0) [d] (.bl false) := by
  intro d hd vh
  simp only [wrongs, List.mem_cons, List.not_mem_nil, or_false] at hd
  rcases hd with rfl | rfl | rfl | rfl | rfl | rfl | rfl
  · show cutR vh (endR (evalSs (Cc (n + 1)) g_is_block.body [some .non, none] vh)) = _
    rw [show evalSs (Cc (n + 1)) g_is_block.body [some .non, none] vh = .rt (.bl false) vh by simp? [g_is_block]]; exact cut_same
  · show cutR vh (endR (evalSs (Cc (n + 1)) g_is_block.body [some (.tup [.int 1, .int 2]), none] vh)) = _
    rw [show evalSs (Cc (n + 1)) g_is_block.body [some (.tup [.int 1, .int 2]), none] vh = .rt (.bl false) vh by simp? [g_is_block]]; exact cut_same
  · exact f_block3 n _ _ _ true true true vh (i_int n _ vh) (i_int n _ vh) (i_int n _ vh) false (fun _ => ⟨_, _, _, rfl, rfl, rfl, by decide⟩) (fun h => by cases h)
  · exact f_block3 n _ _ _ true true true vh (i_int n _ vh) (i_int n _ vh) (i_int n _ vh) false (fun _ => ⟨_, _, _, rfl, rfl, rfl, by decide⟩) (fun h => by cases h)
  · exact f_block3 n _ _ _ true true false vh (i_int n _ vh) (i_int n _ vh) (i_bl n _ vh) false (fun h => by cases h) (fun h => rfl)
  · show cutR vh (endR (evalSs (Cc (n + 1)) g_is_block.body [some (.lst [.int 1, .int 0, .int 1]), none] vh)) = _
    rw [show evalSs (Cc (n + 1)) g_is_block.body [some (.lst [.int 1, .int 0, .int 1]), none] vh = .rt (.bl false) vh by simp? [g_is_block]]; exact cut_same
  · exact f_block3 n _ _ _ true true false vh (i_int n _ vh) (i_int n _ vh) (i_non n vh) false (fun h => by cases h) (fun h => rfl)
theorem block_ok (vh : VH) : cutR vh (Fc (n + 2) 0 [.tup [.int 0, .int (-3), .int 4]] vh) = .ok (.bl true) vh :=
  f_block3 n _ _ _ true true true vh (i_int n _ vh) (i_int n _ vh) (i_int n _ vh) true (fun _ => ⟨_, _, _, rfl, rfl, rfl, by decide⟩) (fun h => by cases h)
end
end K30
end
section
set_option Elab.async false
set_option linter.all false
set_option maxRecDepth 100000
set_option maxHeartbeats 4000000
namespace K30
open PySem L3
local macro_rules | `(tactic| simp? [$ls,*]) => `(tactic| simp only [ev_var, ev_int, ev_str, ev_bool, ev_none, ev_glc, ev_bin, ev_neg, ev_not, ev_and, ev_or, ev_and1, ev_and2, ev_or1, ev_or2, ev_ite, ev_cmp, ev_cmp2, ch_bl, ev_tup, ev_lst, ev_idx, ev_slc, pt_none, pt_some, ev_rev, rev_tup, rev_lst, slc_T, slc_L, slc_S, ev_blt, ev_isi, ev_app, ev_yes, ev_frz, ev_comp, ev_comp2, ev_call, neq_self, bne_self_eq_false, evs_nil, evs_cons, te_ev, it_sq, it_r1, it_r2, v0, vS, tr_bl, tr_int, tr_non, and_bl, or_bl, c_lt, c_le, c_gt, c_ge, c_isN, c_isntN, c_isB, c_isntB, b_add, b_sub, mk_f, mk_t, ix_tup, ix_lst, at_0, at_1, at_2, at_3, at_4, bl_lenT, bl_lenL, bl_max2, bl_sumf, bl_allf, bl_maxf, bl_sum, bl_all, bl_maxL, at_p0, set_p0, at_p1, set_p1, bl_tupT, bl_tupL, bl_int, bl_intB, sq_nil, sq_cons, s_set, s_ret, s_expr, s_ifs, s_fr, s_brk, s_cnt, s_aug, s_par2, s_asg, f_nil, ct_nm, ct_tp2, ct_tp3, wp_nil, wp_cons, cs_def, cs2_def, if_som, tg_nm, tg_sub, tg_tp2, tg_tp3, ty_tup, ty_lst, ty_int, ty_bl, ty_str, ty_non, isa_tt, isa_lt, isa_it, isa_bt, isa_st, isa_nt, isa_ti, isa_li, isa_ii, isa_bi, isa_si, isa_ni, isa_tb, isa_lb, isa_ib, isa_bb, isa_sb, isa_nb, nn_tup, nn_lst, nn_int, nn_bl, nn_str, nn_non, er_rt, er_nx, er_xn, Bool.not_true, Bool.not_false, Bool.and_true, Bool.true_and, Bool.and_false, Bool.false_and, Bool.or_true, Bool.true_or, Bool.or_false, Bool.false_or, li0, li1, li2, li3, li4, li5, li6, li7, items_tup, items_lst, items_scr, to_ok, turn1_some, turn_nx, turn_ct, turn_bk, turn_rt, wturn_ok, rb_ok, ro_some, bs_ok, om_some, ob_some, o2_some, seqK_nx, seqK_rt, seqK_bk, seqK_ct, seqK_xn, asgK_some, ptK_int, Nat.reduceAdd, Nat.reduceSub, Nat.reduceEqDiff, nc0, nc1, nc2, nc3, nc4, nc5, nc6, nc7, nc8, nc9, nc10, nc11, Int.reduceEq, Int.reduceNe, Int.reduceLT, Int.reduceLE, Int.reduceAdd, Int.reduceSub, decide_true, decide_false, c_eqI, c_neI, c_eqB, c_neB, reduceIte, Bool.false_eq_true, List.set_cons_zero, List.set_cons_succ, List.length_cons, List.length_nil, List.length_map, List.map_nil, List.map_cons, CT.slots, $ls,*])
theorem sum_filter_le {p q : Blk → Bool} : ∀ {B : List Blk}, (∀ x ∈ B, 0 ≤ x.s) → (∀ x ∈ B, p x = true → q x = true) → ((B.filter p).map (·.s)).sum ≤ ((B.filter q).map (·.s)).sum
  | [], _, _ => by simp
  | a :: r, hs, h => by
    have ih := sum_filter_le (p := p) (q := q) (B := r) (fun x hx => hs x (List.mem_cons_of_mem _ hx)) fun x hx => h x (List.mem_cons_of_mem _ hx)
    have h1 := h a List.mem_cons_self
    have h2 := hs a List.mem_cons_self
    rw [List.filter_cons, List.filter_cons]
    cases hp : p a with
    | true => rw [h1 hp]; simp; omega
    | false =>
      cases hq : q a with
      | true => simp; omega
      | false => simpa using ih
theorem top_begin : ∀ {B : List Blk}, B ≠ [] → ∃ m ∈ B, ∀ x ∈ B, x.b ≤ m.b
  | [], h => (h rfl).elim
  | [a], _ => ⟨a, List.mem_cons_self, fun x hx => by rw [List.mem_singleton.mp hx]; omega⟩
  | a :: b :: r, _ => by
    obtain ⟨m, hm, h⟩ := top_begin (B := b :: r) (by simp)
    by_cases q : a.b ≤ m.b
    · exact ⟨m, List.mem_cons_of_mem _ hm, fun x hx => by
        rcases List.mem_cons.mp hx with rfl | hx
        · exact q
        · exact h x hx⟩
    · exact ⟨a, List.mem_cons_self, fun x hx => by
        rcases List.mem_cons.mp hx with rfl | hx
        · omega
        · have := h x hx; omega⟩
def sizeB (B : List Blk) : Int := (List.range 10).foldl (fun a (k : Nat) => max a (sumAt B k)) 0
theorem size_eq {B : List Blk} (hB : ∀ x ∈ B, LBlk x) : sizeB B = loadB B := by
  have hs : ∀ x ∈ B, 0 ≤ x.s := fun x hx => (hB x hx).1
  refine Int.le_antisymm (foldl_max_le _ (load_nn famC B) fun k _ => ?_) (foldl_max_le _ (foldl_max_ge (fun k : Nat => sumAt B k) (l := List.range 10) (m := 0)).1 fun x hx => ?_)
  · by_cases h : B.filter (aliveB k) = []
    · unfold sumAt; rw [h]; exact load_nn famC B
    · obtain ⟨m, hm, ht⟩ := top_begin h
      obtain ⟨h1, h2⟩ := List.mem_filter.mp hm
      have h3 := (foldl_max_ge (fun x : Blk => sumAt B x.b) (l := B) (m := 0)).2 m h1
      refine Int.le_trans ?_ h3
      refine sum_filter_le hs fun x hx hal => ?_
      have h4 := ht x (List.mem_filter.mpr ⟨hx, hal⟩)
      simp only [aliveB, Bool.and_eq_true, decide_eq_true_eq] at hal h2 ⊢
      omega
  · obtain ⟨a1, a2, a3, a4, a5, a6⟩ := hB x hx
    have h := (foldl_max_ge (fun k : Nat => sumAt B k) (l := List.range 10) (m := 0)).2 x.b.toNat (List.mem_range.mpr (by omega))
    rw [Int.toNat_of_nonneg a3] at h
    exact h
theorem ff_le {B : List Blk} (hB : ∀ x ∈ B, LBlk x) (P : List Int) (hff : ∀ k, k < B.length → FFit B P k) : ∀ k, k < B.length → g P k ≤ 4 * k := by
  intro k
  induction k using Nat.strongRecOn with
  | ind k ih =>
    intro hk
    by_cases q : g P k ≤ 4 * k
    · exact q
    · have h := (hff k hk).2.2 (4 * k) (by omega) (by omega)
      have hf : freeK B P k (4 * k) = true := free_near.mpr fun j hj => by
        have hjk := List.mem_range.mp (List.mem_filter.mp hj).1
        have h1 := ih j hjk (by omega)
        have h2 := (hB _ (blk_mem (show j < B.length by omega))).2.1
        have h2 : sz B j ≤ 4 := h2
        exact .inl (by omega)
      rw [hf] at h; cases h
theorem upTo_le {B : List Blk} (hB : ∀ x ∈ B, LBlk x) : ∀ k, k ≤ B.length → upTo B k ≤ 4 * k := by
  intro k
  induction k with
  | zero => intro _; simp [upTo]
  | succ k ih =>
    intro hk
    have h1 := ih (by omega)
    have h2 : sz B k ≤ 4 := (hB _ (blk_mem (show k < B.length by omega))).2.1
    rw [upTo_succ]; omega
/-! ### the state -/
theorem f_state (n : Nat) (ns : List Int) (hl : ns.length ≤ 63) : ∃ (r c : Nat) (vh : VH), cutR [] (Fc (n + 1) 18 [.scr (ns.map .int)] []) = .ok (.ref r) vh ∧ St r c vh := by
  have hcut : cutL (ns.map D.int) none (some 63) = ns.map D.int := by
    have := cut_take (ns.map D.int) 63
    rw [show ((63 : Nat) : Int) = 63 from rfl] at this
    rw [this, List.take_of_length_le (by simpa using hl)]
  have key : ∃ (r c : Nat) (vh : VH), evalSs (Cc n) g__law_state.body [some (.scr (ns.map .int)), none, none] [] = .rt (.ref r) vh ∧ St r c vh := by
    simp? [g__law_state, hcut]
    rw [compF_all D.int (fun i => .int (if i < 0 then -i else i)) ?_ (szl (by omega))]
    · have hmap : (ns.map fun i => D.int (if i < 0 then -i else i)) = (ns.map fun i : Int => if i < 0 then -i else i).map D.int := by simp
      rw [hmap]
      generalize hcs : (ns.map fun i : Int => if i < 0 then -i else i) = cs
      have hnn : ∀ x ∈ cs, 0 ≤ x := by
        rw [← hcs]
        intro x hx
        obtain ⟨i, _, rfl⟩ := List.mem_map.mp hx
        split <;> omega
      have hcl : cs.length ≤ 63 := by rw [← hcs]; simpa using hl
      have h0 : ([O.lst (cs.map D.int)] : VH)[0]? = some (.lst (cs.map D.int)) := rfl
      cases cs with
      | nil =>
        simp? [List.nil_append, bl_lenR _ h0, List.cons_append]
        exact ⟨2, 1, _, rfl, ⟨by decide, 0, [0], rfl, rfl, by simp, by simp, by omega, by simp⟩⟩
      | cons a r =>
        have hd : decide ((((a :: r).length : Nat) : Int) = 0) = false := by rw [decide_eq_false_iff_not]; simp; omega
        rw [List.length_cons] at hd
        simp? [List.nil_append, bl_lenR _ h0, List.cons_append, hd]
        exact ⟨1, 0, _, rfl, ⟨by decide, 0, a :: r, rfl, rfl, by simp, hnn, by omega, hcl⟩⟩
    · intro x hx
      simp? [bl_abs]
  obtain ⟨r, c, vh, h1, h2⟩ := key
  refine ⟨r, c, vh, ?_, h2⟩
  show cutR [] (endR (evalSs (Cc n) g__law_state.body [some (.scr (ns.map .int)), none, none] [])) = _
  rw [h1]; rfl
abbrev LE (d0 : D) (r : Nat) (o2 o7 o8 o9 o10 o11 o12 o13 o14 o15 o16 o17 : Option D) : Env3 := [some d0, some (.ref r), o2, none, none, none, none, o7, o8, o9, o10, o11, o12, o13, o14, o15, o16, o17, none, none, none, none]
theorem e_pn {vh : VH} : cmpD .Eq vh (.str "plan") (.str "none") = some (.bl false, vh) := cc_of _ _ (by decide +kernel) (by decide +kernel) (by decide +kernel)
theorem e_nn {vh : VH} : cmpD .Eq vh (.str "none") (.str "none") = some (.bl true, vh) := c_eqS _ _ (by decide +kernel) (by decide +kernel)
theorem k8 (n : Nat) : (Cc n).n 8 = 2 := rfl
theorem k15 (n : Nat) : (Cc n).n 15 = 1 := rfl
theorem k18 (n : Nat) : (Cc n).n 18 = 1 := rfl
theorem k21 (n : Nat) : (Cc n).n 21 = 2 := rfl
theorem k30 (n : Nat) : (Cc n).n 30 = 1 := rfl
theorem k31 (n : Nat) : (Cc n).n 31 = 2 := rfl
end K30
end
section
set_option Elab.async false
set_option linter.all false
set_option maxRecDepth 100000
set_option maxHeartbeats 4000000
namespace K30
open PySem L3
local macro_rules | `(tactic| simp? [$ls,*]) => `(tactic| simp only [ev_var, ev_int, ev_str, ev_bool, ev_none, ev_glc, ev_bin, ev_neg, ev_not, ev_and, ev_or, ev_and1, ev_and2, ev_or1, ev_or2, ev_ite, ev_cmp, ev_cmp2, ch_bl, ev_tup, ev_lst, ev_idx, ev_slc, pt_none, pt_some, ev_rev, rev_tup, rev_lst, slc_T, slc_L, slc_S, ev_blt, ev_isi, ev_app, ev_yes, ev_frz, ev_comp, ev_comp2, ev_call, neq_self, bne_self_eq_false, evs_nil, evs_cons, te_ev, it_sq, it_r1, it_r2, v0, vS, tr_bl, tr_int, tr_non, and_bl, or_bl, c_lt, c_le, c_gt, c_ge, c_isN, c_isntN, c_isB, c_isntB, b_add, b_sub, mk_f, mk_t, ix_tup, ix_lst, at_0, at_1, at_2, at_3, at_4, bl_lenT, bl_lenL, bl_max2, bl_sumf, bl_allf, bl_maxf, bl_sum, bl_all, bl_maxL, at_p0, set_p0, at_p1, set_p1, bl_tupT, bl_tupL, bl_int, bl_intB, sq_nil, sq_cons, s_set, s_ret, s_expr, s_ifs, s_fr, s_brk, s_cnt, s_aug, s_par2, s_asg, f_nil, ct_nm, ct_tp2, ct_tp3, wp_nil, wp_cons, cs_def, cs2_def, if_som, tg_nm, tg_sub, tg_tp2, tg_tp3, ty_tup, ty_lst, ty_int, ty_bl, ty_str, ty_non, isa_tt, isa_lt, isa_it, isa_bt, isa_st, isa_nt, isa_ti, isa_li, isa_ii, isa_bi, isa_si, isa_ni, isa_tb, isa_lb, isa_ib, isa_bb, isa_sb, isa_nb, nn_tup, nn_lst, nn_int, nn_bl, nn_str, nn_non, er_rt, er_nx, er_xn, Bool.not_true, Bool.not_false, Bool.and_true, Bool.true_and, Bool.and_false, Bool.false_and, Bool.or_true, Bool.true_or, Bool.or_false, Bool.false_or, li0, li1, li2, li3, li4, li5, li6, li7, items_tup, items_lst, items_scr, to_ok, turn1_some, turn_nx, turn_ct, turn_bk, turn_rt, wturn_ok, rb_ok, ro_some, bs_ok, om_some, ob_some, o2_some, seqK_nx, seqK_rt, seqK_bk, seqK_ct, seqK_xn, asgK_some, ptK_int, Nat.reduceAdd, Nat.reduceSub, Nat.reduceEqDiff, nc0, nc1, nc2, nc3, nc4, nc5, nc6, nc7, nc8, nc9, nc10, nc11, Int.reduceEq, Int.reduceNe, Int.reduceLT, Int.reduceLE, Int.reduceAdd, Int.reduceSub, decide_true, decide_false, c_eqI, c_neI, c_eqB, c_neB, reduceIte, Bool.false_eq_true, List.set_cons_zero, List.set_cons_succ, List.length_cons, List.length_nil, List.length_map, List.map_nil, List.map_cons, CT.slots, $ls,*])
def bodT : List Sm := match g_law.body with
  | _ :: .fr _ _ _ _ b :: _ => b
  | _ => []
theorem ix_P0 {vh : VH} (b : Blk) : idxD vh (encB b) (.int 0) = some (.int b.s, vh) := rfl
theorem ix_P1 {vh : VH} (b : Blk) : idxD vh (encB b) (.int 1) = some (.int b.b, vh) := rfl
theorem ix_P2 {vh : VH} (b : Blk) : idxD vh (encB b) (.int 2) = some (.int b.e, vh) := rfl
def encV (x : Int × List Int × Option T) : D := .tup [.int x.1, .tup (x.2.1.map .int), encOT x.2.2]
theorem turn_body (d0 : D) (r c : Nat) (o2 o7 o8 o9 o10 o11 o12 o13 o14 o15 o16 o17 : Option D) (v : VH) (hs : St r c v) (I : Env3 → VH → Prop) (R : SRes → Prop)
    (hI : ∀ o2 o7 o8 o9 o10 o11 o12 o13 o14 o15 o16 o17 v', St r c v' → I (LE d0 r o2 o7 o8 o9 o10 o11 o12 o13 o14 o15 o16 o17) v') :
    turn I R (evalSs (Cc 199) bodT (LE d0 r o2 o7 o8 o9 o10 o11 o12 o13 o14 o15 o16 o17) v) := by
  obtain ⟨B, v1, hBl, hB, e1, s1, K1⟩ := f_blocks 196 r c v hs
  have hOk : ∀ x ∈ B, BOk x := fun x hx => (hB x hx).ok
  have hs0 : ∀ x ∈ B, 0 ≤ x.s := fun x hx => (hB x hx).1
  have hz := sz_nn hs0
  have hpl2 : (pairsB B).length ≤ 25 := Nat.le_trans (pairs_len B) (Nat.mul_le_mul hBl hBl)
  have hU : upTo B B.length ≤ 20 := by have := upTo_le hB B.length (Nat.le_refl _); omega
  obtain ⟨m, hm⟩ : ∃ m, m + (pairsB B).length + 5 = 199 := ⟨194 - (pairsB B).length, by omega⟩
  obtain ⟨due, P, p, hLP, e3⟩ := f_least famC B (by omega) hs0 (by omega) m v1
  rw [hm] at e3
  have hlo := load_nn famC B
  have hdue0 : loadB B ≤ due := by
    rcases hLP.2.2 with ⟨_, rfl⟩ | ⟨t, _, h, _⟩ <;> omega
  have hdue1 : due ≤ 20 := Int.le_trans ((hLP.least hs0 (by have := hz 0; have := upTo_mono hz (Nat.zero_le B.length); simpa [upTo] using this)).mp (feas_all hs0)) hU
  obtain ⟨m2, hm2⟩ : ∃ m2, m2 + B.length + 3 = 199 := ⟨196 - B.length, by omega⟩
  have e2 := f_law_least B (by omega) hOk due (by omega) (fun L hL => hLP.least hs0 hL) m2 v1
  rw [hm2] at e2
  have hPl := hLP.1
  have hfit := (fit_iff hPl (show 0 ≤ due by omega)).mpr hLP.2.1
  have hokp : okT p := fun t ht => by
    rcases hLP.2.2 with ⟨h, _⟩ | ⟨t', h, _, h2, h3⟩
    · rw [h] at ht; cases ht
    · rw [h] at ht; cases ht
      exact ⟨by omega, rows_fine (fine_of h2.1 h2.2)⟩
  have hdp : depT p ≤ 25 := by
    rcases hLP.2.2 with ⟨h, _⟩ | ⟨t', h, _, h2, h3⟩
    · rw [h]; exact Nat.zero_le _
    · rw [h]; exact Nat.le_trans h3 hpl2
  have hlv : ∀ a k : Nat, a + k ≤ 199 → ∃ m, m + a + k = 199 := fun a k h => ⟨199 - a - k, by omega⟩
  have facc : ∀ (x : Int) (Q : List Int) (q : Option T) (vh : VH), Q.length = B.length → okT q → depT q ≤ 25 → cutR vh (Fc 199 16 [encBs B, .tup [.int x, .tup (Q.map .int), encOT q]] vh) = .ok (.bl (acceptB B x Q q)) vh := fun x Q q vh h1 h2 h3 => by
    obtain ⟨m, hm⟩ := hlv (depT q) 5 (by omega)
    have := f_accepts_least B (by omega) m x Q q h1 h2 vh
    rwa [hm] at this
  have fshw : ∀ (x : Int) (t : T) (vh : VH), t.depth ≤ 25 → t.rows 100000 = true → cutR vh (Fc 199 28 [encBs B, .int x, encT t, .lst []] vh) = .ok (.bl (showsB B x t [])) vh := fun x t vh h1 h2 => by
    obtain ⟨m, hm⟩ := hlv t.depth 3 (by omega)
    have := f_law_shows B x (by omega) hOk m t [] (by simp; omega) h2 vh
    rwa [hm] at this
  have fnone : ∀ (x : Int) (t : T) (vh : VH), t.depth ≤ 25 → t.rows 100000 = true → cutR vh (Fc 199 13 [encBs B, .int x, encT t] vh) = .ok (.bl (showsB B x t [])) vh := fun x t vh h1 h2 => by
    obtain ⟨m, hm⟩ := hlv t.depth 4 (by omega)
    have := f_accepts_none B x (by omega) m t (by omega) h2 vh
    rwa [hm] at this
  have fload : ∀ vh, cutR vh (Fc 199 3 [encBs B] vh) = .ok (.int (loadB B)) vh := fun vh => f_load famC 198 B (by omega) vh
  have fpairs : ∀ vh, cutR vh (Fc 199 4 [encBs B] vh) = .ok (encPs (pairsB B)) vh := fun vh => f_pairs famC 197 B (by omega) vh
  have flpairs : ∀ vh, cutR vh (Fc 199 23 [encBs B] vh) = .ok (encPs (pairsB B)) vh := fun vh => f_law_pairs 197 B (by omega) hOk vh
  have flplan : ∀ (Q : List Int) (vh : VH), Q.length = B.length → cutR vh (Fc 199 24 [encBs B, .tup (Q.map .int)] vh) = .ok (.bl (planB B Q)) vh := fun Q vh h => f_law_plan 196 B Q (by omega) hOk h vh
  have flpeak : ∀ (Q : List Int) (vh : VH), Q.length = B.length → cutR vh (Fc 199 25 [encBs B, .tup (Q.map .int)] vh) = .ok (.int (peakB B Q)) vh := fun Q vh h => f_law_peak 198 B Q (by omega) h vh
  have fplan : ∀ (Q : List Int) (vh : VH), Q.length = B.length → cutR vh (Fc 199 5 [encBs B, .tup (Q.map .int)] vh) = .ok (.bl (planB B Q)) vh := fun Q vh h => f_is_plan 196 B Q (by omega) h vh
  have fpeak : ∀ (Q : List Int) (vh : VH), Q.length = B.length → cutR vh (Fc 199 6 [encBs B, .tup (Q.map .int)] vh) = .ok (.int (peakB B Q)) vh := fun Q vh h => f_peak 198 B Q (by omega) h vh
  have hpeq : ∀ vh : VH, cmpD .NotEq vh (encPs (pairsB B)) (encPs (pairsB B)) = some (.bl false, vh) := fun vh => by
    rw [(ee_lst ee_P).c_ne (by decide) (pairsB B) (pairsB B)]; simp
  have hacc : acceptB B due P p = true := by
    rcases hLP.2.2 with ⟨h, h2⟩ | ⟨t, h, h1, h2, _⟩
    · have h3 := hfit.2
      rw [h2] at h3
      rw [h]; simp only [acceptB, hfit.1, h2, decide_eq_true h3, Int.le_refl, decide_true, Bool.and_self]
    · rw [h]; simp only [acceptB, hfit.1, decide_eq_true hfit.2, h2.1, Bool.and_self]
  show turn I R (evalSs (Cc 199) (_ :: _) _ _)
  -- blocks, due, told
  refine step_seq (fun e v' => e = LE d0 r o2 (some (encBs B)) o8 o9 o10 o11 o12 o13 o14 o15 o16 o17 ∧ v' = v1) ⟨_, _, ?_, rfl, rfl⟩ ?_
  · simp? [cF, k21, e1]
  intro e v' h; obtain ⟨h1, h2⟩ := h; subst h1; subst h2
  refine step_seq (fun e w => e = LE d0 r o2 (some (encBs B)) (some (.int due)) o9 o10 o11 o12 o13 o14 o15 o16 o17 ∧ w = v') ⟨_, _, ?_, rfl, rfl⟩ ?_
  · simp? [cF, k26, e2]
  intro e w h; obtain ⟨h1, h2⟩ := h; subst h1; subst h2
  refine step_seq (fun e v' => e = LE d0 r o2 (some (encBs B)) (some (.int due)) (some (.tup [.int due, .tup (P.map .int), encOT p])) o10 o11 o12 o13 o14 o15 o16 o17 ∧ v' = w) ⟨_, _, ?_, rfl, rfl⟩ ?_
  · simp? [cF, k15, e3]
  intro e v2 h; obtain ⟨h1, h2⟩ := h; subst h1; subst h2
  -- size
  refine step_seq (fun e v' => e = LE d0 r o2 (some (encBs B)) (some (.int due)) (some (.tup [.int due, .tup (P.map .int), encOT p])) (some (.int (loadB B))) o11 o12 o13 o14 o15 o16 o17 ∧ v' = v2) ⟨_, _, ?_, rfl, rfl⟩ ?_
  · simp? [r1_ok (j := 10) (inR_of (by omega) (by omega))]
    rw [compF_all (fun k : Nat => D.int k) (fun k : Nat => .int (sumAt B k)) ?_ (szl (by simp))]
    · have h0 : [D.int 0].length + ((List.range (Int.toNat 10)).map fun k : Nat => D.int (sumAt B k)).length ≤ sizeLine := szl (by simp)
      simp? [b_addL false h0, List.cons_append, List.nil_append]
      have : (List.range (Int.toNat 10)).foldl (fun a (x : Nat) => max a (sumAt B x)) 0 = loadB B := size_eq hB
      rw [this]
    · intro k hk
      simp? []
      rw [compF_map encB (aliveB k) (fun o => .int o.s) ?_ (szl (by omega))]
      · simp? []
        rfl
      · intro y hy
        simp? [ix_P0, ix_P1, ix_P2, aliveB]
        rfl
  intro e v' h; obtain ⟨h1, h2⟩ := h; subst h1; subst h2
  refine step_seq (fun e w => e = LE d0 r o2 (some (encBs B)) (some (.int due)) (some (.tup [.int due, .tup (P.map .int), encOT p])) (some (.int (loadB B))) o11 o12 o13 o14 o15 o16 o17 ∧ w = v') ⟨_, _, ?_, rfl, rfl⟩ ?_
  · have := facc due P p v' hPl hokp hdp
    rw [hacc] at this
    simp? [cF, k3, k4, k23, k16, fload, fpairs, flpairs, hpeq, this, bne_self_eq_false]
  intro e w h; obtain ⟨h1, h2⟩ := h; subst h1; subst h2
  refine step_seq (fun e v' => e = LE d0 r o2 (some (encBs B)) (some (.int due)) (some (.tup [.int due, .tup (P.map .int), encOT p])) (some (.int (loadB B))) o11 o12 o13 o14 o15 o16 o17 ∧ v' = w) ⟨_, _, ?_, rfl, rfl⟩ ?_
  · have hpk : decide (due < peakB B P) = false := by rw [decide_eq_false_iff_not]; have := hfit.2; omega
    rcases hLP.2.2 with ⟨h, h2⟩ | ⟨t, h, h1, h2, h3⟩
    · have : decide (due = loadB B) = true := decide_eq_true h2
      simp? [cF, k24, k25, flplan P _ hPl, hfit.1, flpeak P _ hPl, hpk, h, encOT, this]
    · have : decide (due = loadB B) = false := by rw [decide_eq_false_iff_not]; omega
      have en : isNonD (encT t) = false := by cases t <;> rfl
      have hsh := fshw (due - 1) t w (by omega) (rows_fine (fine_of h2.1 h2.2))
      rw [h2.1] at hsh
      simp? [cF, k24, k25, k28, flplan P _ hPl, hfit.1, flpeak P _ hPl, hpk, h, encOT, en, this, hsh]
  intro e v2 h; obtain ⟨h1, h2⟩ := h; subst h1; subst h2
  -- a limit
  obtain ⟨L, v3, e11, L0, L1, s3, K3⟩ := f_take 198 r c (due + 2) (by omega) (by omega) v2 s1
  refine step_seq (fun e v' => e = LE d0 r o2 (some (encBs B)) (some (.int due)) (some (.tup [.int due, .tup (P.map .int), encOT p])) (some (.int (loadB B))) (some (.int L)) o12 o13 o14 o15 o16 o17 ∧ v' = v3) ⟨_, _, ?_, rfl, rfl⟩ ?_
  · simp? [cF, k19, e11]
  intro e w h; obtain ⟨h1, h2⟩ := h; subst h1; subst h2
  obtain ⟨m3, hm3⟩ := hlv (pairsB B).length 4 (by omega)
  obtain ⟨d, hd, e12⟩ := f_decided famC B L (by omega) L0 (by omega) hz m3 w
  rw [hm3] at e12
  refine step_seq (fun e v' => e = LE d0 r o2 (some (encBs B)) (some (.int due)) (some (.tup [.int due, .tup (P.map .int), encOT p])) (some (.int (loadB B))) (some (.int L)) (some d) o13 o14 o15 o16 o17 ∧ v' = w) ⟨_, _, ?_, rfl, rfl⟩ ?_
  · simp? [cF, k8, e12]
  intro e v4 h; obtain ⟨h1, h2⟩ := h; subst h1; subst h2
  have hle := hLP.least hs0 L0
  refine step_seq (fun e v' => e = LE d0 r o2 (some (encBs B)) (some (.int due)) (some (.tup [.int due, .tup (P.map .int), encOT p])) (some (.int (loadB B))) (some (.int L)) (some d) o13 o14 o15 o16 o17 ∧ v' = v4) ⟨_, _, ?_, rfl, rfl⟩ ?_
  · rcases hd with ⟨Q, rfl, q1, q2⟩ | ⟨t, rfl, q1, q2⟩
    · have h1 : decide (due ≤ L) = true := decide_eq_true (hle.mp ⟨g Q, q2⟩)
      have h2 := (fit_iff q1 L0).mpr q2
      have h3 : decide (L < peakB B Q) = false := by rw [decide_eq_false_iff_not]; have := h2.2; omega
      simp? [e_pp, h1, cF, k24, k25, flplan Q _ q1, h2.1, flpeak Q _ q1, h3]
    · have h1 : decide (due ≤ L) = false := by
        rw [decide_eq_false_iff_not]
        exact fun h => shows_no q1.1 (hle.mpr h)
      simp? [e_np, h1]
  intro e w h; obtain ⟨h1, h2⟩ := h; subst h1; subst h2
  -- trees, as told and bent
  refine step_seq (fun e v' => ∃ o15 o17, e = LE d0 r o2 (some (encBs B)) (some (.int due)) (some (.tup [.int due, .tup (P.map .int), encOT p])) (some (.int (loadB B))) (some (.int L)) (some d) o13 o14 o15 o16 o17 ∧ St r c v') ?_ ?_
  · rcases hd with ⟨Q, rfl, q1, q2⟩ | ⟨t, rfl, q1, q2⟩
    · refine ⟨_, _, ?_, o15, o17, rfl, s3⟩
      simp? [e_pn]
    · have hdt : t.depth ≤ 25 := by omega
      have hft := fine_of q1.1 q1.2
      obtain ⟨m4, hm4⟩ := hlv t.depth 3 (by omega)
      obtain ⟨t', v5, b1, b2, b3, b4, b5⟩ := f_bent m4 r c t hft w s3
      rw [hm4] at b3
      simp? [e_nn, cF, k29, b3]
      rw [show [encT t, encT t'] = [t, t'].map encT from rfl]
      generalize hr : forL _ _ _ _ _ = res
      obtain ⟨e, v6, rfl, o15, o17, q, hv⟩ := for_t hr (fun pre env v6 => ∃ o15 o17, env = LE d0 r o2 (some (encBs B)) (some (.int due)) (some (.tup [.int due, .tup (P.map .int), encOT p])) (some (.int (loadB B))) (some (.int L)) (some (.tup [.str "none", encT t])) o13 o14 o15 o16 o17 ∧ v6 = v5) ⟨_, _, rfl, rfl⟩ (by
        intro pre u suf env v6 hx hI
        obtain ⟨o15, o17, q, hv⟩ := hI
        subst q; subst hv
        have hu : u.depth ≤ 25 ∧ u.rows 100000 = true := by
          have : u ∈ [t, t'] := by rw [hx]; simp
          simp only [List.mem_cons, List.not_mem_nil, or_false] at this
          rcases this with rfl | rfl
          · exact ⟨hdt, rows_fine hft⟩
          · exact ⟨by omega, b2⟩
        simp? []
        rw [show [D.int L, D.int (L + 1), D.int (L - 1)] = [L, L + 1, L - 1].map D.int from rfl]
        generalize hr : forL _ _ _ _ _ = res
        obtain ⟨e, v7, rfl, o17, q, hv⟩ := for_t hr (fun pre env v7 => ∃ o17, env = LE d0 r o2 (some (encBs B)) (some (.int due)) (some (.tup [.int due, .tup (P.map .int), encOT p])) (some (.int (loadB B))) (some (.int L)) (some (.tup [.str "none", encT t])) o13 o14 (some (encT u)) o16 o17 ∧ v7 = v6) ⟨_, rfl, rfl⟩ (by
          intro pre x suf env v7 hx hI
          obtain ⟨o17, q, hv⟩ := hI
          subst q; subst hv
          simp? [cF, k13, k28, fnone x u _ hu.1 hu.2, fshw x u _ hu.1 hu.2]
          exact ⟨_, rfl, by trivial⟩)
        subst q; subst hv
        simp? []
        exact ⟨_, _, rfl, by trivial⟩)
      subst q; subst hv
      exact ⟨_, _, rfl, _, _, rfl, b4⟩
  intro e v4 h
  obtain ⟨o15, o17, h1, s4⟩ := h
  subst h1
  -- places drawn
  refine step_seq (fun e v' => ∃ Q : List Int, Q.length = B.length ∧ e = LE d0 r o2 (some (encBs B)) (some (.int due)) (some (.tup [.int due, .tup (P.map .int), encOT p])) (some (.int (loadB B))) (some (.int L)) (some d) (some (.tup (Q.map .int))) o14 o15 o16 o17 ∧ St r c v') ?_ ?_
  · simp? []
    generalize hc : compF _ _ _ _ = cr
    obtain ⟨ys, v6, rfl, Q, q1, hQ, s6⟩ := compF_g hc (fun pre acc v6 => ∃ Q : List Int, acc = Q.map .int ∧ Q.length = pre.length ∧ St r c v6) ⟨[], rfl, rfl, s4⟩ (by
      intro pre e suf acc v6 hx hI
      obtain ⟨Q, q1, h1, h3⟩ := hI
      subst q1
      obtain ⟨t, v7, e2, t0, t1, s2, k2⟩ := f_take 198 r c 8 (by omega) (by omega) v6 h3
      obtain ⟨u, v8, e3, u0, u1, s3, k3⟩ := f_take 198 r c 9 (by omega) (by omega) v7 s2
      refine ⟨[.int (t - if decide (u = 0) = true then 1 else 0)], v8, ?_, Q ++ [t - if decide (u = 0) = true then 1 else 0], by simp, by simp [h1], s3⟩
      simp? [cF, k19, e2, e3]) (by
      rintro ys v ⟨Q, rfl, h1, h3⟩
      rw [List.length_map]; exact szl (by omega))
    subst q1
    simp? []
    exact ⟨_, _, rfl, Q, hQ, rfl, s6⟩
  intro e w h
  obtain ⟨Q, hQ, h1, s5⟩ := h
  subst h1
  refine step_seq (fun e v' => e = LE d0 r o2 (some (encBs B)) (some (.int due)) (some (.tup [.int due, .tup (P.map .int), encOT p])) (some (.int (loadB B))) (some (.int L)) (some d) (some (.tup (Q.map .int))) o14 o15 o16 o17 ∧ v' = w) ⟨_, _, ?_, rfl, rfl⟩ ?_
  · cases hq : planB B Q with
    | false => simp? [cF, k5, k24, fplan Q _ hQ, flplan Q _ hQ, hq]
    | true =>
      have hnn : 0 ≤ peakB B Q := (peak_le.mp (Int.le_refl (peakB B Q))).1
      have hdl := (hLP.least hs0 hnn).mp ⟨g Q, (fit_iff hQ hnn).mp ⟨hq, Int.le_refl _⟩⟩
      have : decide (peakB B Q < due) = false := by rw [decide_eq_false_iff_not]; omega
      simp? [cF, k5, k6, k24, k25, fplan Q _ hQ, flplan Q _ hQ, hq, fpeak Q _ hQ, flpeak Q _ hQ, this]
  intro e v6 h; obtain ⟨h1, h2⟩ := h; subst h1; subst h2
  -- papers, right ones and bent ones
  refine step_seq (fun e v' => ∃ o14 o16, e = LE d0 r o2 (some (encBs B)) (some (.int due)) (some (.tup [.int due, .tup (P.map .int), encOT p])) (some (.int (loadB B))) (some (.int L)) (some d) (some (.tup (Q.map .int))) o14 o15 o16 o17 ∧ v' = v6) ?_ ?_
  · simp? []
    rw [show [D.tup [.int due, .tup (Q.map .int), encOT p], D.tup [.int (due + 1), .tup (P.map .int), .non], D.tup [.int (due + 1), .tup (P.map .int), encOT p], D.tup [.int (due - 1), .tup (P.map .int), encOT p]] = [(due, Q, p), (due + 1, P, none), (due + 1, P, p), (due - 1, P, p)].map encV from rfl]
    generalize hr : forL _ _ _ _ _ = res
    obtain ⟨e, v7, rfl, o14, o16, q, hv⟩ := for_t hr (fun pre env v7 => ∃ o14 o16, env = LE d0 r o2 (some (encBs B)) (some (.int due)) (some (.tup [.int due, .tup (P.map .int), encOT p])) (some (.int (loadB B))) (some (.int L)) (some d) (some (.tup (Q.map .int))) o14 o15 o16 o17 ∧ v7 = v6) ⟨_, _, rfl, rfl⟩ (by
      intro pre u suf env v7 hx hI
      obtain ⟨o14, o16, q, hv⟩ := hI
      subst q; subst hv
      obtain ⟨x, W, q⟩ := u
      have hu : W.length = B.length ∧ (q = none ∨ q = p) := by
        have : (x, W, q) ∈ [(due, Q, p), (due + 1, P, none), (due + 1, P, p), (due - 1, P, p)] := by rw [hx]; simp
        simp only [List.mem_cons, List.not_mem_nil, or_false, Prod.mk.injEq] at this
        rcases this with ⟨_, rfl, rfl⟩ | ⟨_, rfl, rfl⟩ | ⟨_, rfl, rfl⟩ | ⟨_, rfl, rfl⟩
        · exact ⟨hQ, .inr rfl⟩
        · exact ⟨hPl, .inl rfl⟩
        · exact ⟨hPl, .inr rfl⟩
        · exact ⟨hPl, .inr rfl⟩
      have hokq : okT q := by
        rcases hu.2 with rfl | rfl
        · intro t ht; cases ht
        · exact hokp
      have hdq : depT q ≤ 25 := by
        rcases hu.2 with rfl | rfl
        · exact Nat.zero_le _
        · exact hdp
      have hacc := facc x W q v7 hu.1 hokq hdq
      cases q with
      | none =>
        have ea : (planB B W && decide (peakB B W ≤ x) && decide (x ≤ loadB B)) = acceptB B x W none := by simp only [acceptB, Bool.and_assoc]
        have hacc : cutR v7 (Fc 199 16 [encBs B, .tup [.int x, .tup (W.map .int), .non]] v7) = .ok (.bl (acceptB B x W none)) v7 := hacc
        simp? [encV, encOT, cF, k24, k25, k16, flplan W _ hu.1, flpeak W _ hu.1, hacc, ea]
        exact ⟨_, _, rfl, by trivial⟩
      | some t =>
        obtain ⟨d1, d2⟩ := hokq t rfl
        have ea : (planB B W && decide (peakB B W ≤ x) && showsB B (x - 1) t []) = acceptB B x W (some t) := by simp only [acceptB, Bool.and_assoc]
        have en : isNonD (encT t) = false := by cases t <;> rfl
        have hacc : cutR v7 (Fc 199 16 [encBs B, .tup [.int x, .tup (W.map .int), encT t]] v7) = .ok (.bl (acceptB B x W (some t))) v7 := hacc
        simp? [encV, encOT, en, cF, k24, k25, k16, k28, flplan W _ hu.1, flpeak W _ hu.1, fshw (x - 1) t _ hdq d2, hacc, ea]
        exact ⟨_, _, rfl, by trivial⟩)
    subst q; subst hv
    exact ⟨_, _, rfl, _, _, rfl, rfl⟩
  intro e w h
  obtain ⟨o14, o16, h1, h2⟩ := h
  subst h1; subst h2
  -- first fits, pairs below
  have hfirst := f_law_first B (by omega) hOk (fun P _ hff k hk => by have := ff_le hB P hff k hk; omega) 195 w
  have hbl := f_below 194 r c B hBl hB w s5
  refine Exists.elim hbl fun v9 h9 => ?_
  have hbelow := h9.1
  have s9 := h9.2.1
  refine step_seq (fun e v' => e = LE d0 r o2 (some (encBs B)) (some (.int due)) (some (.tup [.int due, .tup (P.map .int), encOT p])) (some (.int (loadB B))) (some (.int L)) (some d) (some (.tup (Q.map .int))) o14 o15 o16 o17 ∧ v' = v9) ⟨_, _, ?_, rfl, rfl⟩ ?_
  · have hfirst : cutR w (Fc 199 30 [encBs B] w) = .ok (.bl true) w := hfirst
    have hbelow : cutR w (Fc 199 31 [.ref r, encBs B] w) = .ok (.bl true) v9 := hbelow
    simp? [cF, k30, k31, hfirst, hbelow]
  intro e v' h; obtain ⟨h1, h2⟩ := h; subst h1; subst h2
  rw [sq_nil, turn_nx]
  exact hI _ _ _ _ _ _ _ _ _ _ _ _ _ s9
end K30
end
section
set_option Elab.async false
set_option linter.all false
set_option maxRecDepth 100000
set_option maxHeartbeats 0
open PySem PySem.W PySem.Calls PyProof.Rows
theorem K30.holds_of (L : K30.LawTrue) : PySem.Challenge.rw_axeswright_k30_whole_stores_in_one_memor.Holds := by
  w_on; o_law
  refine HandSHeadRun.head_any (r := OpenLaw.row PySem.Challenge.rw_axeswright_k30_whole_stores_in_one_memor) (q := view (OpenLaw.row PySem.Challenge.rw_axeswright_k30_whole_stores_in_one_memor).prog [38]) (H := K30.hk) (ob := K30.ob) (M := 4000) (loose := K30.loose) (d := HandSHeadRun.topDef (OpenLaw.row PySem.Challenge.rw_axeswright_k30_whole_stores_in_one_memor).prog 38) (kwd := []) K30.ob_eq
    (by kernel_rfl) (fun s => by kernel_rfl) K30.run (by kernel_rfl) (by kernel_rfl) (by kernel_rfl) (by rfl) (by first | assumption | decide +kernel) (by decide +kernel) ⟨rfl, rfl, rfl, rfl, rfl, by decide +kernel⟩ ?hw ?hc
  case hw => w_witness2
  case hc =>
    refine L2.walk_ofE (l := PySem.Challenge.rw_axeswright_k30_whole_stores_in_one_memor) (n := 63) (k := 200) (x := "script") (CX := L2.CX0) rfl (by decide) (by kernel_rfl) ⟨rfl, by decide, by decide⟩ ?F (fun _ _ _ _ z => z)
    intro w mg fa h Y G hmg0
    obtain ⟨K, KX, c⟩ := Y
    have hmg : mg ("law" : PySem.Str) = some (.ref fa) := by
      have e : (HandSHeadRun.topDef (OpenLaw.row PySem.Challenge.rw_axeswright_k30_whole_stores_in_one_memor).prog 38).name = ("law" : PySem.Str) := by kernel_rfl
      rw [← e]
      exact hmg0
    obtain ⟨fd, sp, hb, hsp, hF⟩ := K30.facts (w := w) L KX G c hmg
    exact ⟨K, fd, sp, KX, hb, fun H a ns hl hO hS => hsp H a ns hl hO hS, hF⟩
end
section
set_option Elab.async false
set_option linter.all false
set_option maxRecDepth 100000
set_option maxHeartbeats 4000000
namespace K30
open PySem L3
local macro_rules | `(tactic| simp? [$ls,*]) => `(tactic| simp only [ev_var, ev_int, ev_str, ev_bool, ev_none, ev_glc, ev_bin, ev_neg, ev_not, ev_and, ev_or, ev_and1, ev_and2, ev_or1, ev_or2, ev_ite, ev_cmp, ev_cmp2, ch_bl, ev_tup, ev_lst, ev_idx, ev_slc, pt_none, pt_some, ev_rev, rev_tup, rev_lst, slc_T, slc_L, slc_S, ev_blt, ev_isi, ev_app, ev_yes, ev_frz, ev_comp, ev_comp2, ev_call, neq_self, bne_self_eq_false, evs_nil, evs_cons, te_ev, it_sq, it_r1, it_r2, v0, vS, tr_bl, tr_int, tr_non, and_bl, or_bl, c_lt, c_le, c_gt, c_ge, c_isN, c_isntN, c_isB, c_isntB, b_add, b_sub, mk_f, mk_t, ix_tup, ix_lst, at_0, at_1, at_2, at_3, at_4, bl_lenT, bl_lenL, bl_max2, bl_sumf, bl_allf, bl_maxf, bl_sum, bl_all, bl_maxL, at_p0, set_p0, at_p1, set_p1, bl_tupT, bl_tupL, bl_int, bl_intB, sq_nil, sq_cons, s_set, s_ret, s_expr, s_ifs, s_fr, s_brk, s_cnt, s_aug, s_par2, s_asg, f_nil, ct_nm, ct_tp2, ct_tp3, wp_nil, wp_cons, cs_def, cs2_def, if_som, tg_nm, tg_sub, tg_tp2, tg_tp3, ty_tup, ty_lst, ty_int, ty_bl, ty_str, ty_non, isa_tt, isa_lt, isa_it, isa_bt, isa_st, isa_nt, isa_ti, isa_li, isa_ii, isa_bi, isa_si, isa_ni, isa_tb, isa_lb, isa_ib, isa_bb, isa_sb, isa_nb, nn_tup, nn_lst, nn_int, nn_bl, nn_str, nn_non, er_rt, er_nx, er_xn, Bool.not_true, Bool.not_false, Bool.and_true, Bool.true_and, Bool.and_false, Bool.false_and, Bool.or_true, Bool.true_or, Bool.or_false, Bool.false_or, li0, li1, li2, li3, li4, li5, li6, li7, items_tup, items_lst, items_scr, to_ok, turn1_some, turn_nx, turn_ct, turn_bk, turn_rt, wturn_ok, rb_ok, ro_some, bs_ok, om_some, ob_some, o2_some, seqK_nx, seqK_rt, seqK_bk, seqK_ct, seqK_xn, asgK_some, ptK_int, Nat.reduceAdd, Nat.reduceSub, Nat.reduceEqDiff, nc0, nc1, nc2, nc3, nc4, nc5, nc6, nc7, nc8, nc9, nc10, nc11, Int.reduceEq, Int.reduceNe, Int.reduceLT, Int.reduceLE, Int.reduceAdd, Int.reduceSub, decide_true, decide_false, c_eqI, c_neI, c_eqB, c_neB, reduceIte, Bool.false_eq_true, List.set_cons_zero, List.set_cons_succ, List.length_cons, List.length_nil, List.length_map, List.map_nil, List.map_cons, CT.slots, $ls,*])
/-- ends with True -/
structure RT (r : SRes) : Prop where
  ex : ∃ vh, r = .rt (.bl true) vh
def ten : List Blk := List.replicate 10 ⟨1, 0, 1⟩
def eleven : List Blk := List.replicate 11 ⟨1, 0, 1⟩
abbrev E0 (d0 : D) (r : Nat) (o2 o3 o4 o5 o7 o8 o9 o10 o11 o12 o13 o14 o15 o16 o17 : Option D) : Env3 := [some d0, some (.ref r), o2, o3, o4, o5, none, o7, o8, o9, o10, o11, o12, o13, o14, o15, o16, o17, none, none, none, none]
theorem mul_tup {vh : VH} (m : Bool) (xs : List D) (k : Nat) (h1 : 2 ≤ k) (h2 : k ≤ 1000) (h3 : xs.length ≤ 1000) (h4 : xs ≠ []) : binD m .Mult vh (.tup xs) (.int k) = some (.tup (List.replicate k xs).flatten, vh) := by
  simp only [binD, mulD, Int.toNat_natCast]
  rw [if_pos ⟨by omega, by omega, h3, h4⟩]
/-- more blocks than are let: Great -/
theorem dec_great (vh : VH) : Fc 198 8 [encBs eleven, .int 11] vh = .exn 34 [("limit", .str "blocks")] vh := by
  have key : evalSs (Cc 197) g_decided.body [some (encBs eleven), some (.int 11)] vh = .exn 34 [("limit", .str "blocks")] [some (encBs eleven), some (.int 11)] vh := rfl
  show endR (evalSs (Cc 197) g_decided.body [some (encBs eleven), some (.int 11)] vh) = _
  rw [key]; rfl
theorem cut_xn {vh vh1 : VH} (c : Nat) (fs : List (Str × D)) : cutR vh (.exn c fs vh1) = .exn c fs vh1 := rfl
theorem least_great (vh : VH) : ∃ vh', Fc 199 15 [encBs eleven] vh = .exn 34 [("limit", .str "blocks")] vh' := by
  have hl := f_load famC 197 eleven (by decide) vh
  rw [show loadB eleven = 11 by decide] at hl
  have hl : cutR vh (Fc 198 3 [encBs eleven] vh) = .ok (.int 11) vh := hl
  have key : ∃ e, evalSs (Cc 198) g_least_plan.body [some (encBs eleven), none, none, none] vh = .exn 34 [("limit", .str "blocks")] e vh := by
    simp? [g_least_plan, s_whl, cF, k3, hl]
    rw [whl_s, te_ev, ev_bool]
    simp only [rb_ok, tr_bl, bs_ok, if_true]
    have hb : evalSs (Cc 198) [Sm.set 3 (.call 8 [.var 0, .var 1]), .ifs (.cmp .Eq (.idx (.var 3) (.cst (.int 0))) (.cst (.str "plan"))) [.ret (.tup [.var 1, .idx (.var 3) (.cst (.int 1)), .var 2])] [], .par2 1 2 [.bin .Add false (.var 1) (.cst (.int 1)), .idx (.var 3) (.cst (.int 1))]] [some (encBs eleven), some (.int 11), some .non, none] vh = .exn 34 [("limit", .str "blocks")] [some (encBs eleven), some (.int 11), some .non, none] vh := by
      rw [sq_cons, s_set, ev_call]
      simp? [cF, k8, dec_great, cut_xn]
      rfl
    simp only [hb]
    exact ⟨[some (encBs eleven), some (.int 11), some .non, none], by simp only [seqK_xn]⟩
  obtain ⟨e, he⟩ := key
  refine ⟨vh, ?_⟩
  show endR (evalSs (Cc 198) g_least_plan.body [some (encBs eleven), none, none, none] vh) = _
  rw [he]; rfl
theorem ten_least (vh : VH) : ∃ (P : List Int) (p : Option T), cutR vh (callH env30 (dfOf pdH) 199 15 [encBs ten] vh) = .ok (.tup [.int 10, .tup (P.map .int), encOT p]) vh := by
  have hs : ∀ x ∈ ten, 0 ≤ x.s := by decide
  have hlen : (pairsB ten).length = 45 := by decide +kernel
  have hU : upTo ten ten.length = 10 := by decide +kernel
  obtain ⟨due, P, p, h1, h2⟩ := f_least famH ten (by decide) hs (by rw [hU]; decide) 149 vh
  rw [hlen] at h2
  have hd : due = 10 := by
    have hf := feas_all hs
    rw [hU] at hf
    have a1 := (h1.least hs (by decide)).mp hf
    have a2 : loadB ten ≤ due := by
      rcases h1.2.2 with ⟨_, rfl⟩ | ⟨t, _, h, _⟩ <;> omega
    have a3 : loadB ten = 10 := by decide +kernel
    omega
  rw [hd] at h2
  exact ⟨P, p, h2⟩
theorem plans_ok (vh : VH) : ∀ x ∈ [(D.non, false), (D.tup [], false), (D.tup [.bl true], false), (D.lst [.int 0], false), (D.tup [.int (-1)], false), (D.tup [.int 0], true)], cutR vh (Fc 199 5 [.tup [.tup [.int 1, .int 0, .int 1]], x.1] vh) = .ok (.bl x.2) vh := by
  intro x hx
  simp only [List.mem_cons, List.not_mem_nil, or_false] at hx
  rcases hx with rfl | rfl | rfl | rfl | rfl | rfl
  · exact p_non 196 [⟨1, 0, 1⟩] vh
  · exact p_len 196 [⟨1, 0, 1⟩] [] (by decide) vh
  · exact p_bl 196 vh
  · exact p_lst 196 [⟨1, 0, 1⟩] [.int 0] vh
  · have := f_is_plan 196 [⟨1, 0, 1⟩] [-1] (by decide) rfl vh
    rw [show planB [⟨1, 0, 1⟩] [-1] = false by decide +kernel] at this
    exact this
  · have := f_is_plan 196 [⟨1, 0, 1⟩] [0] (by decide) rfl vh
    rw [show planB [⟨1, 0, 1⟩] [0] = true by decide +kernel] at this
    exact this
theorem e_bb {vh : VH} : cmpD .Eq vh (.str "blocks") (.str "blocks") = some (.bl true, vh) := c_eqS _ _ (by decide +kernel) (by decide +kernel)
theorem s_try {C : Cs} {env : Env3} {vh : VH} (b : List Sm) (c i : Nat) (keep : Bool) (s : List Sm) : evalS C (.tryx b c i keep s) env vh = tryS (evalSs C b) (fun c' => C.sub c' c) (okFld C) i keep (fun fs => evalSs (csX C fs) s) env vh := rfl
theorem try_caught {b : Env3 → VH → SRes} {sub : Nat → Option Bool} {okF : Nat → Str → Bool} {i : Nat} {s : List (Str × D) → Env3 → VH → SRes} {env : Env3} {vh : VH} {c : Nat} {fs : List (Str × D)} {env' : Env3} {vh' : VH} {d : D} {v : VH}
    (hb : b env vh = .exn c fs env' vh') (hs : sub c = some true) (hf : fs.all (fun p => p.2.scal && okF c p.1) = true) (hr : s fs ((env'.map fun _ => none).set i (some (.gl 0))) (vh'.map fun _ => .gone) = .rt d v) (hd : (d.noGl && v.all O.noGl) = true) :
    tryS b sub okF i false s env vh = .rt d v := by
  unfold tryS
  simp only [hb, hs, hf, if_true, Bool.false_eq_true, if_false, hr, hd]
theorem noGl_gone (vh : VH) : (vh.map fun _ => O.gone).all O.noGl = true := by
  rw [List.all_map, List.all_eq_true]
  intro x _
  rfl
theorem law_true : LawTrue := by
  intro ns hl
  have key : RT (evalSs (Cc 199) g_law.body (startD 22 [.scr (ns.map .int)]) []) := by
    show RT (evalSs (Cc 199) (_ :: _) [some (.scr (ns.map .int)), none, none, none, none, none, none, none, none, none, none, none, none, none, none, none, none, none, none, none, none, none] [])
    generalize hd0 : D.scr (ns.map .int) = d0
    obtain ⟨r, c, v1, e1, s1⟩ := f_state 198 ns hl
    rw [hd0] at e1
    refine step_seq (fun e v' => e = E0 d0 r none none none none none none none none none none none none none none none ∧ v' = v1) ⟨_, _, ?_, rfl, rfl⟩ ?_
    · have e1 : cutR [] (Fc 199 18 [d0] []) = .ok (.ref r) v1 := e1
      simp? [cF, k18, e1]
    intro e v2 h; obtain ⟨h1, h2⟩ := h; subst h1; subst h2
    refine step_seq (fun e v' => ∃ o2 o7 o8 o9 o10 o11 o12 o13 o14 o15 o16 o17, e = E0 d0 r o2 none none none o7 o8 o9 o10 o11 o12 o13 o14 o15 o16 o17 ∧ St r c v') ?_ ?_
    · simp? [r1_ok (j := 3) (inR_of (by omega) (by omega))]
      generalize hr : forL _ _ _ _ _ = res
      obtain ⟨e, v6, rfl, o2, o7, o8, o9, o10, o11, o12, o13, o14, o15, o16, o17, q, hv⟩ := for_t hr (fun pre env v6 => ∃ o2 o7 o8 o9 o10 o11 o12 o13 o14 o15 o16 o17, env = LE d0 r o2 o7 o8 o9 o10 o11 o12 o13 o14 o15 o16 o17 ∧ St r c v6) ⟨none, none, none, none, none, none, none, none, none, none, none, none, rfl, s1⟩ (by
        intro pre u suf env v6 hx hI
        obtain ⟨o2, o7, o8, o9, o10, o11, o12, o13, o14, o15, o16, o17, q, hv⟩ := hI
        subst q
        rw [ct_nm, turn1_some]
        exact turn_body d0 r c (some (.int u)) o7 o8 o9 o10 o11 o12 o13 o14 o15 o16 o17 v6 hv _ _ fun o2 o7 o8 o9 o10 o11 o12 o13 o14 o15 o16 o17 v' hv' => ⟨o2, o7, o8, o9, o10, o11, o12, o13, o14, o15, o16, o17, rfl, hv'⟩)
      subst q
      exact ⟨_, _, rfl, o2, o7, o8, o9, o10, o11, o12, o13, o14, o15, o16, o17, rfl, hv⟩
    intro e v3 h
    obtain ⟨o2, o7, o8, o9, o10, o11, o12, o13, o14, o15, o16, o17, q, hv⟩ := h
    subst q
    -- papers of a wrong form
    refine step_seq (fun e v' => e = E0 d0 r o2 (some (.lst odds)) none none o7 o8 o9 o10 o11 o12 o13 o14 o15 o16 o17 ∧ v' = v3) ⟨_, _, ?_, rfl, rfl⟩ ?_
    · simp? [odds]
    intro e w h; obtain ⟨h1, h2⟩ := h; subst h1; subst h2
    refine step_seq (fun e v' => e = E0 d0 r o2 (some (.lst odds)) none none o7 o8 o9 o10 o11 o12 o13 o14 o15 o16 o17 ∧ v' = w) ⟨_, _, ?_, rfl, rfl⟩ ?_
    · have ht := f_accepts_least [] (by decide) 194 0 [] none rfl (fun t h => by cases h) w
      rw [show acceptB [] 0 [] none = true by decide +kernel] at ht
      have ht : cutR w (Fc 199 16 [.tup [], .tup [.int 0, .tup [], .non]] w) = .ok (.bl true) w := ht
      simp? []
      rw [compF_none (ds := odds)]
      · simp? [cF, k16, ht]
      · intro x hx
        have ho := odds_ok 194 x hx w
        have ho : cutR w (Fc 199 16 [.tup [], x] w) = .ok (.bl false) w := ho
        simp? [cF, k16, ho]
    intro e v4 h; obtain ⟨h1, h2⟩ := h; subst h1; subst h2
    refine step_seq (fun e v' => e = E0 d0 r o2 (some (.lst odds)) (some (.lst bads)) none o7 o8 o9 o10 o11 o12 o13 o14 o15 o16 o17 ∧ v' = v4) ⟨_, _, ?_, rfl, rfl⟩ ?_
    · have l10 : ∀ x : D × VH, lineO 10 x = some x := fun x => line_ok (by decide)
      simp? [bads, l10]
    intro e w h; obtain ⟨h1, h2⟩ := h; subst h1; subst h2
    refine step_seq (fun e v' => e = E0 d0 r o2 (some (.lst odds)) (some (.lst bads)) none o7 o8 o9 o10 o11 o12 o13 o14 o15 o16 o17 ∧ v' = w) ⟨_, _, ?_, rfl, rfl⟩ ?_
    · have ht := f_accepts_none [⟨2, 0, 1⟩] 1 (by decide) 195 (.chain [0]) (by decide) (by decide) w
      rw [show showsB [⟨2, 0, 1⟩] 1 (.chain [0]) [] = true by decide +kernel] at ht
      have ht : cutR w (Fc 199 13 [.tup [.tup [.int 2, .int 0, .int 1]], .int 1, .tup [.str "chain", .tup [.int 0]]] w) = .ok (.bl true) w := ht
      simp? []
      rw [compF_none (ds := bads)]
      · simp? [cF, k13, ht]
      · intro x hx
        have ho := bads_ok 195 x hx w
        have ho : cutR w (Fc 199 13 [.tup [.tup [.int 2, .int 0, .int 1], .tup [.int 2, .int 0, .int 1]], .int 1, x] w) = .ok (.bl false) w := ho
        simp? [cF, k13, ho]
    intro e v4 h; obtain ⟨h1, h2⟩ := h; subst h1; subst h2
    refine step_seq (fun e v' => e = E0 d0 r o2 (some (.lst odds)) (some (.lst bads)) (some (.lst wrongs)) o7 o8 o9 o10 o11 o12 o13 o14 o15 o16 o17 ∧ v' = v4) ⟨_, _, ?_, rfl, rfl⟩ ?_
    · have hneg : ∀ vh : VH, negD vh (.int 1) = some (.int (-1), vh) := fun _ => rfl
      simp? [wrongs, hneg]
    intro e w h; obtain ⟨h1, h2⟩ := h; subst h1; subst h2
    refine step_seq (fun e v' => e = E0 d0 r o2 (some (.lst odds)) (some (.lst bads)) (some (.lst wrongs)) o7 o8 o9 o10 o11 o12 o13 o14 o15 o16 o17 ∧ v' = w) ⟨_, _, ?_, rfl, rfl⟩ ?_
    · have hneg : ∀ (vh : VH) (i : Int), negD vh (.int i) = some (.int (-i), vh) := fun _ _ => rfl
      have hb : cutR w (Fc 199 0 [.tup [.int 0, .int (-3), .int 4]] w) = .ok (.bl true) w := block_ok 197 w
      have h1 : cutR w (Fc 199 1 [.bl true] w) = .ok (.bl false) w := i_bl 198 true w
      have h2 : cutR w (Fc 199 1 [.int (-2)] w) = .ok (.bl true) w := i_int 198 (-2) w
      simp? [hneg, cF, k0, k1, hb, h1, h2]
      rw [compF_none (ds := wrongs)]
      · simp? [cF, k0, k1, h1, h2, hneg]
      · intro x hx
        have ho := wrongs_ok 197 x hx w
        have ho : cutR w (Fc 199 0 [x] w) = .ok (.bl false) w := ho
        simp? [cF, k0, ho]
    intro e v4 h; obtain ⟨h1, h2⟩ := h; subst h1; subst h2
    refine step_seq (fun e v' => e = E0 d0 r o2 (some (.lst odds)) (some (.lst bads)) (some (.lst wrongs)) o7 o8 o9 o10 o11 o12 o13 o14 o15 o16 o17 ∧ v' = v4) ⟨_, _, ?_, rfl, rfl⟩ ?_
    · have hneg : ∀ (vh : VH) (i : Int), negD vh (.int i) = some (.int (-i), vh) := fun _ _ => rfl
      have hcmp : cmpD .NotEq v4 (.lst [.bl false, .bl false, .bl false, .bl false, .bl false, .bl true]) (.lst [.bl false, .bl false, .bl false, .bl false, .bl false, .bl true]) = some (.bl false, v4) := by
        have := (ee_lst ee_bl).c_ne (vh := v4) (by decide) [false, false, false, false, false, true] [false, false, false, false, false, true]
        simpa using this
      simp? [hneg]
      rw [show [D.non, D.tup [], D.tup [.bl true], D.lst [.int 0], D.tup [.int (-1)], D.tup [.int 0]] = [(D.non, false), (D.tup [], false), (D.tup [.bl true], false), (D.lst [.int 0], false), (D.tup [.int (-1)], false), (D.tup [.int 0], true)].map Prod.fst from rfl, compF_all Prod.fst (fun x => .bl x.2) ?_ (szl (by simp))]
      · simp? [hcmp]
      · intro x hx
        have ho := plans_ok v4 x hx
        simp? [cF, k5, ho]
    intro e w h; obtain ⟨h1, h2⟩ := h; subst h1; subst h2
    -- Great
    refine ⟨?_⟩
    obtain ⟨w2, hg⟩ := least_great w
    have hm11 : ∀ vh : VH, binD false .Mult vh (.tup [.tup [.int 1, .int 0, .int 1]]) (.int 11) = some (encBs eleven, vh) := fun vh => mul_tup false [.tup [.int 1, .int 0, .int 1]] 11 (by decide) (by decide) (by decide) (by simp)
    have hm10 : ∀ vh : VH, binD false .Mult vh (.tup [.tup [.int 1, .int 0, .int 1]]) (.int 10) = some (encBs ten, vh) := fun vh => mul_tup false [.tup [.int 1, .int 0, .int 1]] 10 (by decide) (by decide) (by decide) (by simp)
    obtain ⟨P, p, ht⟩ := ten_least (w2.map fun _ => O.gone)
    refine ⟨w2.map fun _ => O.gone, ?_⟩
    rw [sq_cons, s_try]
    have hc := try_caught (b := evalSs (Cc 199) [.expr (.call 15 [.bin .Mult false (.tup [.tup [.cst (.int 1), .cst (.int 0), .cst (.int 1)]]) (.cst (.int 11))]), .ret (.cst (.bool false))]) (sub := fun c' => (Cc 199).sub c' 34) (okF := okFld (Cc 199)) (i := 6)
      (s := fun fs => evalSs (csX (Cc 199) fs) [.ret (.and [.cmp .Eq (.xat 6 "limit") (.cst (.str "blocks")), .cmp .Eq (.idx (.call 15 [.bin .Mult false (.tup [.tup [.cst (.int 1), .cst (.int 0), .cst (.int 1)]]) (.cst (.int 10))]) (.cst (.int 0))) (.cst (.int 10))])])
      (env := E0 d0 r o2 (some (.lst odds)) (some (.lst bads)) (some (.lst wrongs)) o7 o8 o9 o10 o11 o12 o13 o14 o15 o16 o17) (vh := w) (c := 34) (fs := [("limit", .str "blocks")]) (env' := E0 d0 r o2 (some (.lst odds)) (some (.lst bads)) (some (.lst wrongs)) o7 o8 o9 o10 o11 o12 o13 o14 o15 o16 o17) (vh' := w2) (d := .bl true) (v := w2.map fun _ => O.gone)
      (by
        rw [sq_cons, s_expr]
        have hn : (Cc 199).n 15 = 1 := rfl
        simp? [hm11, cF, hn, hg, cut_xn, bindS_exn])
      rfl (by decide +kernel) (by
        show evalSs (csX (Cc 199) _) _ [none, none, none, none, none, none, some (.gl 0), none, none, none, none, none, none, none, none, none, none, none, none, none, none, none] _ = _
        have hx : ∀ vh : VH, evalE (csX (Cc 199) [("limit", .str "blocks")]) (.xat 6 "limit") [none, none, none, none, none, none, some (.gl 0), none, none, none, none, none, none, none, none, none, none, none, none, none, none, none] vh = .ok (.str "blocks") vh := fun _ => rfl
        have hn : (csX (Cc 199) [("limit", .str "blocks")]).n 15 = 1 := rfl
        have hF : (csX (Cc 199) [("limit", .str "blocks")]).F = callH env30 (dfOf pdH) 199 := rfl
        simp? [hx, hn, hF, hm10, ht, e_bb]) (by rw [noGl_gone]; rfl)
    rw [hc, seqK_rt]
  obtain ⟨vh, hk⟩ := key.ex
  refine ⟨vh, ?_⟩
  show endR (evalSs (Cc 199) g_law.body (startD 22 [.scr (ns.map .int)]) []) = _
  rw [hk]; rfl
end K30
end
set_option Elab.async false
set_option maxRecDepth 100000
set_option maxHeartbeats 0
theorem PySem.Challenge.cw_axeswright_k30_whole_stores_in_one_memor_holds : PySem.Challenge.rw_axeswright_k30_whole_stores_in_one_memor.Holds := by
  exact _root_.K30.holds_of _root_.K30.law_true
