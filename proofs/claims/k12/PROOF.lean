import PyProof.Rows.All
import Wide.All
import OpenK.AllK
import Wide.FinOn
import HandS.ForMost
import HandS.ForExc
import HandS.CallSlots
import HandS.HeadHook2
import HandS.Zip
import HandS.TupAny
import HandS.Style
import HandS.SortInts
import HandS.Deep
import HandS.IsInst
import HandS.Wide
import HandS.ExcCtx
import HandS.TupMul
import HandS.TupLe
import HandS.Conv
import KE.GoesEnum
import KE.GoesMore
import KE.SortData
import HandS.HeadEnd
import HandS.Head2
import HandS.Defaults
import HandS.Codes
import PySem.Challenge.RW_testedlots_k12_whole_things_called_other
set_option Elab.async false
set_option linter.all false
set_option maxRecDepth 100000
set_option maxHeartbeats 4000000
namespace Ip
open PySem PySem.Spec PyProof.Rows L2

/-! ### plain data, results -/
/-- plain data: lst a list that nobody changes, scr the script, ref n the n-th mutable list of the store, glo x the module's name x -/
inductive D where
  | non | bl (b : Bool) | int (i : Int) | str (x : Str) | tup (xs : List D) | lst (xs : List D) | scr (xs : List D) | ref (n : Nat) | glo (x : Str)
  deriving Inhabited
abbrev Sto := List (List D)
abbrev Sl := List (Option D)
/-- a run's result: a value, an error of the class c, or nothing that is told -/
inductive R (α : Type) where
  | ok (a : α) (s : Sto)
  | exc (c : Str) (s : Sto)
  | bad
def R.bind {α β : Type} : R α → (α → Sto → R β) → R β
  | .ok a s, g => g a s
  | .exc c s, _ => .exc c s
  | .bad, _ => .bad
@[simp] theorem R.bind_ok {α β : Type} (a : α) (s : Sto) (g : α → Sto → R β) : (R.ok a s).bind g = g a s := Eq.trans rfl rfl
@[simp] theorem R.bind_exc {α β : Type} (c : Str) (s : Sto) (g : α → Sto → R β) : (R.exc c s).bind g = .exc c s := Eq.trans rfl rfl
@[simp] theorem R.bind_bad {α β : Type} (g : α → Sto → R β) : (R.bad : R α).bind g = .bad := Eq.trans rfl rfl
def R.lift {α : Type} (o : Option α) (s : Sto) : R α := match o with
  | some a => .ok a s
  | none => .bad
@[simp] theorem R.lift_some {α : Type} (a : α) (s : Sto) : R.lift (some a) s = .ok a s := Eq.trans rfl rfl
@[simp] theorem R.lift_none {α : Type} (s : Sto) : R.lift (none : Option α) s = .bad := Eq.trans rfl rfl

/-! ### how the abstract heap bears data -/
/-- the addresses of the mutable lists (by their number), and of the lists that are being made -/
structure MX where
  l : List Addr
  x : List Addr
def MX.has (m : MX) (a : Addr) : Prop := a ∈ m.l ∨ a ∈ m.x
/-- further mutable lists -/
def MX.add (m : MX) (r : List Addr) : MX := ⟨m.l ++ r, m.x⟩
theorem MX.add_nil (m : MX) : m.add [] = m := by cases m; simp [MX.add]
theorem MX.add_add (m : MX) (r t : List Addr) : (m.add r).add t = m.add (r ++ t) := by simp [MX.add]
mutual
def Rep (K : PySem.W.Frag) (m : MX) (H : Hp) : D → V → Prop
  | .non, v => v = .non
  | .bl b, v => v = .bl b
  | .int i, v => v = .int i
  | .str x, v => v = .str x
  | .tup ds, v => ∃ a vs, v = .ref a ∧ SqT K H a vs ∧ Reps K m H ds vs
  | .lst ds, v => ∃ a vs, v = .ref a ∧ Rd H a (.lst vs) ∧ ¬ m.has a ∧ Reps K m H ds vs
  | .scr ds, v => ∃ a vs, v = .ref a ∧ ((Rd H a (.lst vs) ∧ ¬ m.has a) ∨ ∀ H', SqL K H' a vs) ∧ Reps K m H ds vs
  | .ref n, v => ∃ a, v = .ref a ∧ m.l[n]? = some a
  | .glo x, v => v = .ref (He.ga K x)
def Reps (K : PySem.W.Frag) (m : MX) (H : Hp) : List D → List V → Prop
  | [], vs => vs = []
  | d :: ds, vs => ∃ v r, vs = v :: r ∧ Rep K m H d v ∧ Reps K m H ds r
end

structure Ext (K : PySem.W.Frag) (m : MX) (H : Hp) (m' : MX) (H' : Hp) : Prop where
  pre : ∃ r, m' = m.add r ∧ ∀ a ∈ r, H a = none
  kp : ∀ a o, H a = some o → a ∉ m.l → H' a = some o
  kt : ∀ a xs, H a = some (.tup xs) → H' a = some (.tup xs)
  kz : ∀ a o u, H a = some (.frz o u) → H' a = some (.frz o u)
  th : ∀ a, H' a = none → H a = none
/-- what data need to stand -/
structure Wk (m : MX) (H : Hp) (m' : MX) (H' : Hp) : Prop where
  kp : ∀ a o, H a = some o → ¬ m.has a → H' a = some o ∧ ¬ m'.has a
  kt : ∀ a xs, H a = some (.tup xs) → H' a = some (.tup xs)
  kz : ∀ a o u, H a = some (.frz o u) → H' a = some (.frz o u)
  gt : ∀ (n : Nat) (a : Addr), m.l[n]? = some a → m'.l[n]? = some a
section
variable {K : PySem.W.Frag} {m m' m1 m2 : MX} {H H' H1 H2 : Hp}
theorem Ext.refl : Ext K m H m H := ⟨⟨[], m.add_nil.symm, fun _ z => nomatch z⟩, fun _ _ e _ => e, fun _ _ e => e, fun _ _ _ e => e, fun _ e => e⟩
theorem Ext.trans (a : Ext K m H m1 H1) (b : Ext K m1 H1 m2 H2) : Ext K m H m2 H2 := by
  obtain ⟨r, e1, f1⟩ := a.pre
  obtain ⟨r2, e2, f2⟩ := b.pre
  refine ⟨⟨r ++ r2, by rw [e2, e1, MX.add_add], fun c hc => ?_⟩, fun c o e n => ?_, fun c xs e => b.kt c xs (a.kt c xs e), fun c o u e => b.kz c o u (a.kz c o u e), fun c e => a.th c (b.th c e)⟩
  · rcases List.mem_append.mp hc with z | z
    · exact f1 c z
    · exact a.th c (f2 c z)
  · refine b.kp c o (a.kp c o e n) fun z => ?_
    rw [e1] at z
    rcases List.mem_append.mp z with z | z
    · exact n z
    · have := f1 c z
      rw [e] at this
      cases this
/-- a new object -/
theorem Ext.new {p : Addr} {o : HO} (h : H p = none) : Ext K m H m (upd H p o) := by
  have k : ∀ a u, H a = some u → upd H p o a = some u := fun a u e => by rw [upd_ne (ne_of_none e h)]; exact e
  exact ⟨⟨[], m.add_nil.symm, fun _ z => nomatch z⟩, fun a u e _ => k a u e, fun a xs e => k a _ e, fun a u z e => k a _ e, fun a e => by
    by_cases hb : a = p
    · rw [hb]; exact h
    · rw [upd_ne hb] at e; exact e⟩
/-- a mutable list is written -/
theorem Ext.write {p : Addr} {vs vs' : List V} (hm : p ∈ m.l) (h : H p = some (.lst vs)) : Ext K m H m (upd H p (.lst vs')) := by
  refine ⟨⟨[], m.add_nil.symm, fun _ z => nomatch z⟩, fun a o e n => ?_, fun a xs e => ?_, fun a o u e => ?_, fun a e => ?_⟩
  · rw [upd_ne (fun z => n (by rw [z]; exact hm))]; exact e
  · rw [upd_ne (ne_of e h (by intro z; cases z))]; exact e
  · rw [upd_ne (ne_of e h (by intro z; cases z))]; exact e
  · by_cases hb : a = p
    · rw [hb, upd_same] at e; cases e
    · rw [upd_ne hb] at e; exact e
/-- a list that is new since H joins the mutable ones -/
theorem Ext.grow {p : Addr} (a : Ext K m H m' H') (hn : H p = none) : Ext K m H (m'.add [p]) H' := by
  obtain ⟨r, e1, f1⟩ := a.pre
  refine ⟨⟨r ++ [p], by rw [e1, MX.add_add], fun c hc => ?_⟩, a.kp, a.kt, a.kz, a.th⟩
  rcases List.mem_append.mp hc with z | z
  · exact f1 c z
  · rw [List.mem_singleton.mp z]; exact hn
theorem Ext.nin {a : Addr} {o : HO} (e : Ext K m H m' H') (h : H a = some o) (n : ¬ m.has a) : ¬ m'.has a := fun z => by
  obtain ⟨r, e1, f1⟩ := e.pre
  rw [e1] at z
  rcases z with z | z
  · rcases List.mem_append.mp z with z | z
    · exact n (.inl z)
    · have := f1 a z
      rw [h] at this; cases this
  · exact n (.inr z)
theorem Ext.get {n : Nat} {a : Addr} (e : Ext K m H m' H') (h : m.l[n]? = some a) : m'.l[n]? = some a := by
  obtain ⟨r, e1, _⟩ := e.pre
  rw [e1]
  show (m.l ++ r)[n]? = some a
  rw [List.getElem?_append_left (List.getElem?_eq_some_iff.mp h).1]
  exact h
theorem Ext.xs (e : Ext K m H m' H') : m'.x = m.x := by
  obtain ⟨r, e1, _⟩ := e.pre
  rw [e1]; rfl
theorem Ext.wk (e : Ext K m H m' H') : Wk m H m' H' := ⟨fun a o h n => ⟨e.kp a o h fun z => n (.inl z), e.nin h n⟩, e.kt, e.kz, fun _ _ h => e.get h⟩
theorem Wk.refl : Wk m H m H := ⟨fun _ _ h n => ⟨h, n⟩, fun _ _ h => h, fun _ _ _ h => h, fun _ _ h => h⟩
theorem Wk.trans (a : Wk m H m1 H1) (b : Wk m1 H1 m2 H2) : Wk m H m2 H2 := ⟨fun c o h n => let ⟨h1, n1⟩ := a.kp c o h n; b.kp c o h1 n1, fun c xs h => b.kt c xs (a.kt c xs h), fun c o u h => b.kz c o u (a.kz c o u h), fun n c h => b.gt n c (a.gt n c h)⟩
theorem Wk.sqT {a : Addr} {xs : List V} (e : Wk m H m' H') (h : SqT K H a xs) : SqT K H' a xs := by
  rcases h with (h | ⟨o, h⟩) | h
  · exact .inl (.inl (e.kt _ _ h))
  · exact .inl (.inr ⟨o, e.kz _ _ _ h⟩)
  · exact .inr h
theorem Wk.rd {a : Addr} {xs : List V} (e : Wk m H m' H') (h : Rd H a (.lst xs)) (n : ¬ m.has a) : Rd H' a (.lst xs) ∧ ¬ m'.has a := by
  rcases h with h | ⟨o, h⟩
  · exact ⟨.inl (e.kp _ _ h n).1, (e.kp _ _ h n).2⟩
  · exact ⟨.inr ⟨o, e.kz _ _ _ h⟩, (e.kp _ _ h n).2⟩
mutual
theorem Rep.wk (e : Wk m H m' H') : ∀ {d : D} {v : V}, Rep K m H d v → Rep K m' H' d v
  | .non, _, h => by simpa only [Rep] using h
  | .bl _, _, h => by simpa only [Rep] using h
  | .int _, _, h => by simpa only [Rep] using h
  | .str _, _, h => by simpa only [Rep] using h
  | .glo _, _, h => by simpa only [Rep] using h
  | .tup ds, _, h => by
    simp only [Rep] at h ⊢
    obtain ⟨a, vs, rfl, h1, h2⟩ := h
    exact ⟨a, vs, rfl, e.sqT h1, Reps.wk e h2⟩
  | .lst ds, _, h => by
    simp only [Rep] at h ⊢
    obtain ⟨a, vs, rfl, h1, h3, h2⟩ := h
    exact ⟨a, vs, rfl, (e.rd h1 h3).1, (e.rd h1 h3).2, Reps.wk e h2⟩
  | .scr ds, _, h => by
    simp only [Rep] at h ⊢
    obtain ⟨a, vs, rfl, h1, h2⟩ := h
    exact ⟨a, vs, rfl, h1.imp (fun ⟨x, y⟩ => e.rd x y) id, Reps.wk e h2⟩
  | .ref n, _, h => by
    simp only [Rep] at h ⊢
    obtain ⟨a, rfl, h1⟩ := h
    exact ⟨a, rfl, e.gt _ _ h1⟩
theorem Reps.wk (e : Wk m H m' H') : ∀ {ds : List D} {vs : List V}, Reps K m H ds vs → Reps K m' H' ds vs
  | [], _, h => by simpa only [Reps] using h
  | d :: ds, _, h => by
    simp only [Reps] at h ⊢
    obtain ⟨v, r, rfl, h1, h2⟩ := h
    exact ⟨v, r, rfl, Rep.wk e h1, Reps.wk e h2⟩
end
theorem Rep.mono (e : Ext K m H m' H') {d : D} {v : V} (h : Rep K m H d v) : Rep K m' H' d v := h.wk e.wk
theorem Reps.mono (e : Ext K m H m' H') {ds : List D} {vs : List V} (h : Reps K m H ds vs) : Reps K m' H' ds vs := h.wk e.wk
theorem Reps.nil : Reps K m H [] [] := by simp only [Reps]
theorem Reps.cons {d : D} {ds : List D} {v : V} {vs : List V} (h : Rep K m H d v) (t : Reps K m H ds vs) : Reps K m H (d :: ds) (v :: vs) := by
  simp only [Reps]; exact ⟨v, vs, rfl, h, t⟩
theorem Reps.nil_inv {vs : List V} (h : Reps K m H [] vs) : vs = [] := by simpa only [Reps] using h
theorem Reps.cons_inv {d : D} {ds : List D} {vs : List V} (h : Reps K m H (d :: ds) vs) : ∃ v r, vs = v :: r ∧ Rep K m H d v ∧ Reps K m H ds r := by simpa only [Reps] using h
theorem Reps.len : ∀ {ds : List D} {vs : List V}, Reps K m H ds vs → vs.length = ds.length
  | [], _, h => by rw [h.nil_inv]; rfl
  | d :: ds, _, h => by
    obtain ⟨v, r, rfl, _, h2⟩ := h.cons_inv
    rw [List.length_cons, List.length_cons, Reps.len h2]
theorem Reps.get : ∀ {ds : List D} {vs : List V} {i : Nat} {d : D}, Reps K m H ds vs → ds[i]? = some d → ∃ v, vs[i]? = some v ∧ Rep K m H d v
  | [], _, _, _, _, e => by simp at e
  | d :: ds, _, 0, x, h, e => by
    obtain ⟨v, r, rfl, h1, h2⟩ := h.cons_inv
    simp at e; subst e
    exact ⟨v, rfl, h1⟩
  | d :: ds, _, i + 1, x, h, e => by
    obtain ⟨v, r, rfl, h1, h2⟩ := h.cons_inv
    obtain ⟨w, a, b⟩ := Reps.get (i := i) h2 (by simpa using e)
    exact ⟨w, by simpa using a, b⟩
theorem Reps.getV : ∀ {ds : List D} {vs : List V} {i : Nat} {v : V}, Reps K m H ds vs → vs[i]? = some v → ∃ d, ds[i]? = some d ∧ Rep K m H d v := fun {ds vs i v} h e => by
  have hl : i < ds.length := by rw [← h.len]; exact (List.getElem?_eq_some_iff.mp e).1
  obtain ⟨w, a, b⟩ := h.get (List.getElem?_eq_getElem hl)
  rw [e] at a; cases a
  exact ⟨_, List.getElem?_eq_getElem hl, b⟩
theorem Reps.append : ∀ {ds es : List D} {vs us : List V}, Reps K m H ds vs → Reps K m H es us → Reps K m H (ds ++ es) (vs ++ us)
  | [], _, _, _, h, t => by rw [h.nil_inv]; exact t
  | d :: ds, _, _, _, h, t => by
    obtain ⟨v, r, rfl, h1, h2⟩ := h.cons_inv
    exact .cons h1 (Reps.append h2 t)
theorem Reps.take : ∀ {ds : List D} {vs : List V} (n : Nat), Reps K m H ds vs → Reps K m H (ds.take n) (vs.take n)
  | _, _, 0, _ => by simpa using Reps.nil
  | [], _, n + 1, h => by rw [h.nil_inv]; simpa using Reps.nil
  | d :: ds, _, n + 1, h => by
    obtain ⟨v, r, rfl, h1, h2⟩ := h.cons_inv
    exact .cons h1 (Reps.take n h2)
theorem Reps.drop : ∀ {ds : List D} {vs : List V} (n : Nat), Reps K m H ds vs → Reps K m H (ds.drop n) (vs.drop n)
  | _, _, 0, h => by simpa using h
  | [], _, n + 1, h => by rw [h.nil_inv]; simpa using Reps.nil
  | d :: ds, _, n + 1, h => by
    obtain ⟨v, r, rfl, h1, h2⟩ := h.cons_inv
    simpa using Reps.drop n h2
theorem Reps.reverse : ∀ {ds : List D} {vs : List V}, Reps K m H ds vs → Reps K m H ds.reverse vs.reverse
  | [], _, h => by rw [h.nil_inv]; simpa using Reps.nil
  | d :: ds, _, h => by
    obtain ⟨v, r, rfl, h1, h2⟩ := h.cons_inv
    rw [List.reverse_cons, List.reverse_cons]
    exact (Reps.reverse h2).append (.cons h1 .nil)
theorem Reps.eraseIdx : ∀ {ds : List D} {vs : List V} (n : Nat), Reps K m H ds vs → Reps K m H (ds.eraseIdx n) (vs.eraseIdx n)
  | [], _, n, h => by rw [h.nil_inv]; simpa using Reps.nil
  | d :: ds, _, 0, h => by
    obtain ⟨v, r, rfl, h1, h2⟩ := h.cons_inv
    simpa using h2
  | d :: ds, _, n + 1, h => by
    obtain ⟨v, r, rfl, h1, h2⟩ := h.cons_inv
    simpa using Reps.cons h1 (Reps.eraseIdx n h2)
theorem Reps.ints : ∀ {ns : List Int}, Reps K m H (ns.map D.int) (ns.map V.int)
  | [] => .nil
  | n :: ns => .cons (by simp only [Rep]) Reps.ints
end

theorem ndx {α : Type} {N : List α} (hN : N.Nodup) {i j : Nat} {x : α} (a : N[i]? = some x) (b : N[j]? = some x) : i = j := by
  obtain ⟨h1, e1⟩ := List.getElem?_eq_some_iff.mp a
  obtain ⟨h2, e2⟩ := List.getElem?_eq_some_iff.mp b
  exact (List.getElem_inj hN).mp (e1.trans e2.symm)
/-- the slots -/
def RepSl (K : PySem.W.Frag) (m : MX) (H : Hp) (ρ : Sl) (σ : L2.St) : Prop :=
  ρ.length = σ.length ∧ ∀ (i : Nat) (d : D), ρ[i]? = some (some d) → ∃ v, σ[i]? = some (some v) ∧ Rep K m H d v
/-- the store -/
structure RepSt (K : PySem.W.Frag) (m : MX) (H : Hp) (st : Sto) : Prop where
  len : m.l.length = st.length
  nd : (m.l ++ m.x).Nodup
  at_ : ∀ (n : Nat) (xs : List D), st[n]? = some xs → ∃ a vs, m.l[n]? = some a ∧ H a = some (.lst vs) ∧ Reps K m H xs vs
  bz : ∀ a, a ∈ m.x → ∃ vs, H a = some (.lst vs)
section
variable {K : PySem.W.Frag} {m m' m1 m2 : MX} {H H' H1 H2 : Hp} {ρ : Sl} {σ : L2.St} {st : Sto}
theorem RepSl.wk (e : Wk m H m' H') (h : RepSl K m H ρ σ) : RepSl K m' H' ρ σ := ⟨h.1, fun i d q => let ⟨v, a, b⟩ := h.2 i d q; ⟨v, a, b.wk e⟩⟩
theorem RepSl.mono (e : Ext K m H m' H') (h : RepSl K m H ρ σ) : RepSl K m' H' ρ σ := h.wk e.wk
theorem RepSl.set {i : Nat} {d : D} {v : V} (h : RepSl K m H ρ σ) (r : Rep K m H d v) : RepSl K m H (ρ.set i (some d)) (σ.set i (some v)) := by
  refine ⟨by simp [h.1], fun j x q => ?_⟩
  by_cases hj : i = j
  · subst hj
    rw [List.getElem?_set] at q
    simp only [if_true] at q
    split at q
    · rename_i hl
      cases q
      rw [List.getElem?_set_self (by rw [← h.1]; exact hl)]
      exact ⟨v, rfl, r⟩
    · cases q
  · rw [List.getElem?_set_ne hj] at q ⊢
    exact h.2 j x q
theorem RepSt.there (h : RepSt K m H st) {a : Addr} (ha : m.has a) : ∃ vs, H a = some (.lst vs) := by
  rcases ha with ha | ha
  · obtain ⟨n, hn, e⟩ := List.mem_iff_getElem.mp ha
    have hl : n < st.length := by rw [← h.len]; exact hn
    obtain ⟨b, vs, h1, h2, _⟩ := h.at_ n _ (List.getElem?_eq_getElem hl)
    rw [List.getElem?_eq_getElem hn, e] at h1
    cases h1
    exact ⟨vs, h2⟩
  · exact h.bz a ha
/-- the store stands where its lists stand -/
theorem RepSt.move (h : RepSt K m H st) (e : Ext K m H m H') (k : ∀ a vs, m.has a → H a = some (.lst vs) → H' a = some (.lst vs)) : RepSt K m H' st :=
  ⟨h.len, h.nd, fun n xs q => by
    obtain ⟨a, vs, h1, h2, h3⟩ := h.at_ n xs q
    exact ⟨a, vs, h1, k a vs (.inl (List.mem_of_getElem? h1)) h2, h3.mono e⟩, fun a ha => let ⟨vs, e⟩ := h.bz a ha; ⟨vs, k a vs (.inr ha) e⟩⟩
theorem RepSt.new {p : Addr} {o : HO} (h : RepSt K m H st) (hn : H p = none) : RepSt K m (upd H p o) st :=
  h.move (.new hn) fun a vs _ e => by rw [upd_ne (ne_of_none e hn)]; exact e
theorem RepSt.ndl (h : RepSt K m H st) : m.l.Nodup := (List.nodup_append.mp h.nd).1
theorem RepSt.apart (h : RepSt K m H st) {a : Addr} (ha : a ∈ m.l) (hx : a ∈ m.x) : False := (List.nodup_append.mp h.nd).2.2 a ha a hx rfl
theorem RepSt.write {p : Addr} {n : Nat} {vs vs' : List V} {ds : List D} (h : RepSt K m H st) (hm : m.l[n]? = some p) (hp : H p = some (.lst vs)) (r : Reps K m H ds vs') : RepSt K m (upd H p (.lst vs')) (st.set n ds) := by
  have e : Ext K m H m (upd H p (.lst vs')) := .write (List.mem_of_getElem? hm) hp
  refine ⟨by simp [h.len], h.nd, fun j xs q => ?_, fun a ha => ?_⟩
  · by_cases hj : n = j
    · subst hj
      rw [List.getElem?_set] at q
      simp only [if_true] at q
      split at q
      · cases q
        exact ⟨p, vs', hm, upd_same, r.mono e⟩
      · cases q
    · rw [List.getElem?_set_ne hj] at q
      obtain ⟨a, us, h1, h2, h3⟩ := h.at_ j xs q
      refine ⟨a, us, h1, ?_, h3.mono e⟩
      rw [upd_ne]
      · exact h2
      · intro z
        subst z
        exact hj (ndx h.ndl hm h1)
  · obtain ⟨us, e1⟩ := h.bz a ha
    refine ⟨us, ?_⟩
    rw [upd_ne]
    · exact e1
    · intro z
      subst z
      exact h.apart (List.mem_of_getElem? hm) ha
theorem RepSt.get {n : Nat} {xs : List D} (h : RepSt K m H st) (q : st[n]? = some xs) : ∃ a vs, m.l[n]? = some a ∧ H a = some (.lst vs) ∧ Reps K m H xs vs := h.at_ n xs q
theorem fresh_nin (hst : RepSt K m H st) {p : Addr} (h : H p = none) : ¬ m.has p := fun z => by
  obtain ⟨vs, e⟩ := hst.there z
  rw [h] at e; cases e
/-- a new list joins the mutable ones -/
theorem RepSt.grow {p : Addr} {ds : List D} {vs : List V} (hst : RepSt K m H st) (h : H p = none) (r : Reps K m H ds vs) : RepSt K (m.add [p]) (upd H p (.lst vs)) (st ++ [ds]) := by
  have e : Ext K m H (m.add [p]) (upd H p (.lst vs)) := (Ext.new h).grow h
  have n := fresh_nin hst h
  refine ⟨by show (m.l ++ [p]).length = _; simp [hst.len], ?_, fun j xs q => ?_, fun a ha => ?_⟩
  · show (m.l ++ [p] ++ m.x).Nodup
    have nd := List.nodup_append.mp hst.nd
    rw [List.append_assoc, List.nodup_append]
    refine ⟨nd.1, ?_, fun a ha b hb => ?_⟩
    · rw [List.singleton_append, List.nodup_cons]
      exact ⟨fun z => n (.inr z), nd.2.1⟩
    · rcases List.mem_append.mp hb with hb | hb
      · rw [List.mem_singleton.mp hb]
        exact fun z => n (.inl (z ▸ ha))
      · exact nd.2.2 a ha b hb
  · by_cases hj : j < st.length
    · rw [List.getElem?_append_left hj] at q
      obtain ⟨a, us, h1, h2, h3⟩ := hst.get q
      exact ⟨a, us, e.get h1, by rw [upd_ne (ne_of_none h2 h)]; exact h2, h3.mono e⟩
    · rw [List.getElem?_append_right (by omega)] at q
      have hj2 : j = st.length := by
        have := (List.getElem?_eq_some_iff.mp q).1
        simp at this; omega
      subst hj2
      simp at q
      subst q
      refine ⟨p, vs, ?_, upd_same, r.mono e⟩
      show (m.l ++ [p])[st.length]? = _
      rw [List.getElem?_append_right (by rw [hst.len]; exact Nat.le_refl _), hst.len]
      simp
  · obtain ⟨us, e1⟩ := hst.bz a ha
    exact ⟨us, by rw [upd_ne (ne_of_none e1 h)]; exact e1⟩
end
end Ip
set_option Elab.async false
set_option linter.all false
set_option maxRecDepth 100000
set_option maxHeartbeats 4000000
namespace Ip
open PySem PySem.Spec PyProof.Rows L2

/-! ### what a run is to end in -/
def Post {α : Type} (K : PySem.W.Frag) (W : WX) (σ : L2.St) (m : MX) (H : Hp) (r : R α) (P : α → Sto → MX → Hp → Prop) : Prop := match r with
  | .ok a st => ∀ m' H', Ext K m H m' H' → RepSt K m' H' st → P a st m' H'
  | .exc c st => ∀ m' H', Ext K m H m' H' → RepSt K m' H' st → W (.ref (He.ga K c)) none σ H'
  | .bad => False
section
variable {α β : Type} {K : PySem.W.Frag} {W : WX} {σ : L2.St} {m m1 : MX} {H H1 : Hp} {r : R α} {P P' : α → Sto → MX → Hp → Prop}
theorem Post.ext (e : Ext K m H m1 H1) (h : Post K W σ m H r P) : Post K W σ m1 H1 r P := by
  cases r with
  | ok a st => exact fun m' H' x y => h m' H' (e.trans x) y
  | exc c st => exact fun m' H' x y => h m' H' (e.trans x) y
  | bad => exact h
theorem Post.bind {g : α → Sto → R β} {Pb : β → Sto → MX → Hp → Prop} (h : Post K W σ m H (r.bind g) Pb) : Post K W σ m H r (fun a st m1 H1 => Post K W σ m1 H1 (g a st) Pb) := by
  cases r with
  | ok a st => exact fun m' H' x _ => Post.ext x h
  | exc c st => exact h
  | bad => exact h
theorem Post.imp (h : Post K W σ m H r P) (k : ∀ a st m' H', Ext K m H m' H' → RepSt K m' H' st → P a st m' H' → P' a st m' H') : Post K W σ m H r P' := by
  cases r with
  | ok a st => exact fun m' H' x y => k a st m' H' x y (h m' H' x y)
  | exc c st => exact h
  | bad => exact h
end
abbrev Ev := Sl → Sto → R D
abbrev Eb := Sl → Sto → R Bool
abbrev Ea := Sl → Sto → R (List D)
/-- an expression is run as f -/
def tE (K : PySem.W.Frag) (W : WX) (f : Ev) : TE := fun σ H Q => ∃ m ρ st, RepSl K m H ρ σ ∧ RepSt K m H st ∧ Post K W σ m H (f ρ st) fun d _ m' H' => ∀ v, Rep K m' H' d v → Q v H'
def tT (K : PySem.W.Frag) (W : WX) (f : Eb) : TT := fun σ H Q => ∃ m ρ st, RepSl K m H ρ σ ∧ RepSt K m H st ∧ Post K W σ m H (f ρ st) fun b _ _ H' => Q b H'
def tA (K : PySem.W.Frag) (W : WX) (f : Ea) : TA := fun σ H Q => ∃ m ρ st, RepSl K m H ρ σ ∧ RepSt K m H st ∧ Post K W σ m H (f ρ st) fun ds _ m' H' => ∀ vs, Reps K m' H' ds vs → Q vs H'
/-- an expression makes a new list, last of all -/
def tN (K : PySem.W.Frag) (W : WX) (f : Ea) : TE := fun σ H Q => ∃ m ρ st, RepSl K m H ρ σ ∧ RepSt K m H st ∧ Post K W σ m H (f ρ st) fun ds _ m' H' => ∀ a vs, H' a = none → Reps K m' H' ds vs → vs.length ≤ sizeLine → Q (.ref a) (upd H' a (.lst vs))
section
variable {X : Cx} {W : WX} {pins : List (Addr × Obj)} {σ : L2.St} {H : Hp} {s : Shared} {m : MX} {ρ : Sl} {st : Sto} {α β : Type}
variable {e a b c : Expr} {es : List Expr} {pos : Pos}

theorem seqE {fa : Ev} (ha : PE X e (tE X.K W fa)) (I : Inv X pins σ H s) (hsl : RepSl X.K m H ρ σ) (hst : RepSt X.K m H st) {g : D → Sto → R β} {P : β → Sto → MX → Hp → Prop}
    (hp : Post X.K W σ m H ((fa ρ st).bind g) P) {Q : Value → Shared → Prop}
    (k : ∀ u s1 v H1 m1 d st1, Inv X pins σ H1 s1 → RelV v u → Ext X.K m H m1 H1 → RepSl X.K m1 H1 ρ σ → RepSt X.K m1 H1 st1 → Rep X.K m1 H1 d v → Post X.K W σ m1 H1 (g d st1) P → Q u s1) :
    wpAny (model X.prog X.w) X.A (eval e X.env) Q X.xe s := by
  refine thn (ha.run pins s σ H (fun v H1 => ∃ m1 d st1, Ext X.K m H m1 H1 ∧ RepSl X.K m1 H1 ρ σ ∧ RepSt X.K m1 H1 st1 ∧ Rep X.K m1 H1 d v ∧ Post X.K W σ m1 H1 (g d st1) P) I ⟨m, ρ, st, hsl, hst, hp.bind.imp fun d st1 m1 H1 x y q v rv => ⟨m1, d, st1, x, hsl.mono x, y, rv, q⟩⟩) fun u s1 hu => ?_
  obtain ⟨v, H1, I1, r1, m1, d, st1, x, sl1, y, rv, q⟩ := hu
  exact k u s1 v H1 m1 d st1 I1 r1 x sl1 y rv q
theorem seqA {fa : Ea} (ha : PA X es (tA X.K W fa)) (I : Inv X pins σ H s) (hsl : RepSl X.K m H ρ σ) (hst : RepSt X.K m H st) {g : List D → Sto → R β} {P : β → Sto → MX → Hp → Prop}
    (hp : Post X.K W σ m H ((fa ρ st).bind g) P) {Q : List Value → Shared → Prop}
    (k : ∀ us s1 vs H1 m1 ds st1, Inv X pins σ H1 s1 → Vals vs us → Ext X.K m H m1 H1 → RepSl X.K m1 H1 ρ σ → RepSt X.K m1 H1 st1 → Reps X.K m1 H1 ds vs → Post X.K W σ m1 H1 (g ds st1) P → Q us s1) :
    wpAny (model X.prog X.w) X.A (spliced (backTo pos (starEach es X.env))) Q X.xe s := by
  refine thn (ha.run pos pins s σ H (fun vs H1 => ∃ m1 ds st1, Ext X.K m H m1 H1 ∧ RepSl X.K m1 H1 ρ σ ∧ RepSt X.K m1 H1 st1 ∧ Reps X.K m1 H1 ds vs ∧ Post X.K W σ m1 H1 (g ds st1) P) I ⟨m, ρ, st, hsl, hst, hp.bind.imp fun d st1 m1 H1 x y q v rv => ⟨m1, d, st1, x, hsl.mono x, y, rv, q⟩⟩) fun u s1 hu => ?_
  obtain ⟨vs, H1, I1, r1, m1, ds, st1, x, sl1, y, rv, q⟩ := hu
  exact k u s1 vs H1 m1 ds st1 I1 r1 x sl1 y rv q
theorem seqT {fa : Eb} (ha : PT X e (tT X.K W fa)) (I : Inv X pins σ H s) (hsl : RepSl X.K m H ρ σ) (hst : RepSt X.K m H st) {g : Bool → Sto → R β} {P : β → Sto → MX → Hp → Prop}
    (hp : Post X.K W σ m H ((fa ρ st).bind g) P) {Q : Bool → Shared → Prop}
    (k : ∀ b s1 H1 m1 st1, Inv X pins σ H1 s1 → Ext X.K m H m1 H1 → RepSl X.K m1 H1 ρ σ → RepSt X.K m1 H1 st1 → Post X.K W σ m1 H1 (g b st1) P → Q b s1) :
    wpAny (model X.prog X.w) X.A (isTrue e X.env (eval e X.env)) Q X.xe s := by
  refine thn (ha.run pins s σ H (fun b H1 => ∃ m1 st1, Ext X.K m H m1 H1 ∧ RepSl X.K m1 H1 ρ σ ∧ RepSt X.K m1 H1 st1 ∧ Post X.K W σ m1 H1 (g b st1) P) I ⟨m, ρ, st, hsl, hst, hp.bind.imp fun b st1 m1 H1 x y q => ⟨m1, st1, x, hsl.mono x, y, q⟩⟩) fun u s1 hu => ?_
  obtain ⟨H1, I1, m1, st1, x, sl1, y, q⟩ := hu
  exact k u s1 H1 m1 st1 I1 x sl1 y q
/-- the end of an expression -/
abbrev PQ (K : PySem.W.Frag) (Q : VK) : D → Sto → MX → Hp → Prop := fun d _ m' H' => ∀ v, Rep K m' H' d v → Q v H'
theorem endE {Q : VK} {d : D} {v : V} {u : Value} {m1 : MX} {H1 : Hp} (I : Inv X pins σ H1 s) (r : RelV v u) (x : Ext X.K m H m1 H1) (hst : RepSt X.K m1 H1 st) (rv : Rep X.K m1 H1 d v) (hp : Post X.K W σ m H (.ok d st) (PQ X.K Q)) : EP X pins σ Q u s :=
  ⟨v, H1, I, r, hp m1 H1 x hst v rv⟩

/-! ### names, constants -/
def evVar (i : Nat) : Ev := fun ρ st => match ρ[i]? with
  | some (some d) => .ok d st
  | _ => .bad
def evC (d : D) : Ev := fun _ st => .ok d st
theorem e_var {i : Nat} {x : Str} (hN : X.N[i]? = some x) (hv : Vis X.env.scope x) (hd : (x == ("__debug__" : Str)) = false) (hcd : (x == ("__classdict__" : Str)) = false) : PE X (.Name x pos) (tE X.K W (evVar i)) := by
  refine ⟨fun pins s σ H Q I h => ?_⟩
  obtain ⟨m, ρ, st, hsl, hst, hp⟩ := h
  refine (pe_var (pos := pos) hN hv hd hcd).run pins s σ H Q I ?_
  unfold evVar at hp
  cases e : ρ[i]? with
  | none => rw [e] at hp; exact hp.elim
  | some o =>
    rw [e] at hp
    cases o with
    | none => exact hp.elim
    | some d =>
      obtain ⟨v, h1, h2⟩ := hsl.2 i d e
      exact ⟨v, h1, hp m H .refl hst v h2⟩
theorem e_const {t : V} {d : D} (h : PE X e (tC t)) (r : ∀ m H, Rep X.K m H d t) : PE X e (tE X.K W (evC d)) := by
  refine ⟨fun pins s σ H Q I hw => ?_⟩
  obtain ⟨m, ρ, st, hsl, hst, hp⟩ := hw
  exact h.run pins s σ H Q I (hp m H .refl hst t (r m H))
theorem e_int {i j} : PE X (.Constant (.int i) j pos) (tE X.K W (evC (.int i))) := e_const pe_int fun _ _ => by simp only [Rep]
theorem e_bl {i j} : PE X (.Constant (.bool i) j pos) (tE X.K W (evC (.bl i))) := e_const pe_bl fun _ _ => by simp only [Rep]
theorem e_non {j} : PE X (.Constant .none j pos) (tE X.K W (evC .non)) := e_const pe_non fun _ _ => by simp only [Rep]
theorem e_str {i j} : PE X (.Constant (.str i) j pos) (tE X.K W (evC (.str i))) := e_const pe_str fun _ _ => by simp only [Rep]

/-! ### operators -/
/-- f computes o of data (store, left, right) -/
def OpS (X : Cx) (f : Value → Value → Sem Value) (o : Sto → D → D → Option D) : Prop :=
  ∀ (pins : List (Addr × Obj)) (s : Shared) (σ : L2.St) (H : Hp) (m : MX) (st : Sto) (x y z : D) (v w : V) (u t : Value) (Q : VK), Inv X pins σ H s → RepSt X.K m H st → Rep X.K m H x v → Rep X.K m H y w → RelV v u → RelV w t → o st x y = some z →
    (∀ m' H' v', Ext X.K m H m' H' → RepSt X.K m' H' st → Rep X.K m' H' z v' → Q v' H') → wpAny (model X.prog X.w) X.A (f u t) (EP X pins σ Q) X.xe s
def evOp (o : Sto → D → D → Option D) (a b : Ev) : Ev := fun ρ st => (a ρ st).bind fun x st1 => (b ρ st1).bind fun y st2 => .lift (o st2 x y) st2
theorem e_op {op : Operator} {o : Sto → D → D → Option D} {fa fb : Ev} (ho : OpS X (binaryOp op) o) (ha : PE X a (tE X.K W fa)) (hb : PE X b (tE X.K W fb)) : PE X (.BinOp a op b pos) (tE X.K W (evOp o fa fb)) := by
  refine ⟨fun pins s σ H Q I h => ?_⟩
  obtain ⟨m, ρ, st, hsl, hst, hp⟩ := h
  refine wpAny_BinOp (seqE ha I hsl hst hp fun u s1 v H1 m1 d st1 I1 r1 x1 sl1 y1 rv1 p1 => ?_)
  refine seqE hb I1 sl1 y1 p1 fun t s2 w H2 m2 d2 st2 I2 r2 x2 sl2 y2 rv2 p2 => ?_
  cases e : o st2 d d2 with
  | none => rw [e] at p2; exact p2.elim
  | some z =>
    rw [e] at p2
    exact ho pins s2 σ H2 m2 st2 d d2 z v w u t Q I2 y2 (rv1.mono x2) rv2 r1 r2 e fun m' H' v' x y r => p2 m' H' x y v' r
theorem e_cmp {op : CmpOp} {o : Sto → D → D → Option D} {fa fb : Ev} (ho : OpS X (compareOp op) o) (ha : PE X a (tE X.K W fa)) (hb : PE X b (tE X.K W fb)) (h1 : behindInMarks op b = false) : PE X (.Compare a [op] [b] pos) (tE X.K W (evOp o fa fb)) := by
  refine ⟨fun pins s σ H Q I h => ?_⟩
  obtain ⟨m, ρ, st, hsl, hst, hp⟩ := h
  refine wpAny_Compare1 (seqE ha I hsl hst hp fun u s1 v H1 m1 d st1 I1 r1 x1 sl1 y1 rv1 p1 => ?_) h1
  refine seqE hb I1 sl1 y1 p1 fun t s2 w H2 m2 d2 st2 I2 r2 x2 sl2 y2 rv2 p2 => ?_
  cases e : o st2 d d2 with
  | none => rw [e] at p2; exact p2.elim
  | some z =>
    rw [e] at p2
    exact ho pins s2 σ H2 m2 st2 d d2 z v w u t Q I2 y2 (rv1.mono x2) rv2 r1 r2 e fun m' H' v' x y r => p2 m' H' x y v' r
/-- a value's truth where it is a bool -/
def asB : D → Option Bool
  | .bl b => some b
  | _ => none
def ebOf (f : Ev) : Eb := fun ρ st => (f ρ st).bind fun d st1 => .lift (asB d) st1
theorem asB_rep {K : PySem.W.Frag} {H : Hp} {d : D} {b : Bool} {v : V} (h : asB d = some b) (r : Rep K m H d v) : v = .bl b := by
  cases d with
  | bl c => cases h; simpa only [Rep] using r
  | _ => cases h
theorem t_cmp {op : CmpOp} {o : Sto → D → D → Option D} {fa fb : Ev} (ho : OpS X (compareOp op) o) (ha : PE X a (tE X.K W fa)) (hb : PE X b (tE X.K W fb)) (h1 : behindInMarks op b = false) : PT X (.Compare a [op] [b] pos) (tT X.K W (ebOf (evOp o fa fb))) := by
  refine ⟨fun pins s σ H Q I h => ?_⟩
  obtain ⟨m, ρ, st, hsl, hst, hp⟩ := h
  have hp' : Post X.K W σ m H ((fa ρ st).bind fun x st1 => ((fb ρ st1).bind fun y st2 => (R.lift (o st2 x y) st2).bind fun d st3 => .lift (asB d) st3)) (fun b _ _ H' => Q b H') := by
    have e : (ebOf (evOp o fa fb)) ρ st = ((fa ρ st).bind fun x st1 => ((fb ρ st1).bind fun y st2 => (R.lift (o st2 x y) st2).bind fun d st3 => .lift (asB d) st3)) := by
      unfold ebOf evOp
      cases fa ρ st with
      | ok x st1 =>
        simp only [R.bind_ok]
        cases fb ρ st1 <;> rfl
      | _ => rfl
    rw [← e]; exact hp
  refine wpAny_isTrue_Compare1 (seqE ha I hsl hst hp' fun u s1 v H1 m1 d st1 I1 r1 x1 sl1 y1 rv1 p1 => ?_) h1
  refine seqE hb I1 sl1 y1 p1 fun t s2 w H2 m2 d2 st2 I2 r2 x2 sl2 y2 rv2 p2 => ?_
  cases e : o st2 d d2 with
  | none => rw [e] at p2; exact p2.elim
  | some z =>
    rw [e] at p2
    cases e2 : asB z with
    | none => simp only [R.lift_some, R.bind_ok, e2] at p2; exact p2.elim
    | some b =>
      simp only [R.lift_some, R.bind_ok, e2] at p2
      refine thn (ho pins s2 σ H2 m2 st2 d d2 z v w u t (fun v' H' => v' = .bl b ∧ Q b H') I2 y2 (rv1.mono x2) rv2 r1 r2 e fun m' H' v' x y r => ⟨asB_rep e2 r, p2 m' H' x y⟩) fun c s3 hc => ?_
      obtain ⟨v', H3, I3, r3, rfl, q3⟩ := hc
      cases r3
      exact wpAny_truthy_bool ⟨H3, I3, q3⟩
theorem t_val {f : Ev} (h : PE X e (tE X.K W f)) (he : ∀ whole, isTrue e X.env whole = (do let v ← whole; standAt e.pos; holding [v] (truthy v))) : PT X e (tT X.K W (ebOf f)) := by
  refine ⟨fun pins s σ H Q I hw => ?_⟩
  obtain ⟨m, ρ, st, hsl, hst, hp⟩ := hw
  refine isTrue_plain (seqE h I hsl hst hp fun u s1 v H1 m1 d st1 I1 r1 x1 sl1 y1 rv1 p1 => ?_) (he _)
  cases e2 : asB d with
  | none => rw [e2] at p1; exact p1.elim
  | some b =>
    rw [e2] at p1
    obtain rfl := asB_rep e2 rv1
    cases r1
    exact wpAny_truthy_bool ⟨H1, I1, p1 m1 H1 .refl y1⟩
/-! ### and, or, not, if else -/
def ebAnd (a b : Eb) : Eb := fun ρ st => (a ρ st).bind fun x st1 => if x = true then b ρ st1 else .ok false st1
def ebOr (a b : Eb) : Eb := fun ρ st => (a ρ st).bind fun x st1 => if x = true then .ok true st1 else b ρ st1
def ebNot (a : Eb) : Eb := fun ρ st => (a ρ st).bind fun x st1 => .ok (!x) st1
variable {rest : List Expr} {fa fb : Eb}
theorem t_and1 (ha : PT X a (tT X.K W fa)) : PW X (.BoolOp .And [a] pos) (tT X.K W fa) := pw_and1 ha
theorem t_or1 (ha : PT X a (tT X.K W fa)) : PW X (.BoolOp .Or [a] pos) (tT X.K W fa) := pw_or1 ha
theorem t_and (ha : PT X a (tT X.K W fa)) (hb : PW X (.BoolOp .And (b :: rest) pos) (tT X.K W fb)) : PW X (.BoolOp .And (a :: b :: rest) pos) (tT X.K W (ebAnd fa fb)) := by
  refine ⟨fun wh pins s σ H Q I h => ?_⟩
  obtain ⟨m, ρ, st, hsl, hst, hp⟩ := h
  refine isTrue_and (seqT ha I hsl hst hp fun c s1 H1 m1 st1 I1 x1 sl1 y1 p1 => ?_)
  cases c with
  | true => exact hb.run wh pins s1 σ H1 Q I1 ⟨m1, ρ, st1, sl1, y1, by simpa using p1⟩
  | false => exact ⟨H1, I1, by simpa using (show Post X.K W σ m1 H1 (.ok false st1) _ from by simpa using p1) m1 H1 .refl y1⟩
theorem t_or (ha : PT X a (tT X.K W fa)) (hb : PW X (.BoolOp .Or (b :: rest) pos) (tT X.K W fb)) : PW X (.BoolOp .Or (a :: b :: rest) pos) (tT X.K W (ebOr fa fb)) := by
  refine ⟨fun wh pins s σ H Q I h => ?_⟩
  obtain ⟨m, ρ, st, hsl, hst, hp⟩ := h
  refine isTrue_or (seqT ha I hsl hst hp fun c s1 H1 m1 st1 I1 x1 sl1 y1 p1 => ?_)
  cases c with
  | false => exact hb.run wh pins s1 σ H1 Q I1 ⟨m1, ρ, st1, sl1, y1, by simpa using p1⟩
  | true => exact ⟨H1, I1, by simpa using (show Post X.K W σ m1 H1 (.ok true st1) _ from by simpa using p1) m1 H1 .refl y1⟩
theorem t_not (ha : PT X a (tT X.K W fa)) : PT X (.UnaryOp .Not a pos) (tT X.K W (ebNot fa)) := by
  refine ⟨fun pins s σ H Q I h => ?_⟩
  obtain ⟨m, ρ, st, hsl, hst, hp⟩ := h
  refine isTrue_not (seqT ha I hsl hst hp fun c s1 H1 m1 st1 I1 x1 sl1 y1 p1 => ?_)
  exact ⟨H1, I1, p1 m1 H1 .refl y1⟩
/-- as values: all but the last are bools -/
def evAnd (a b : Ev) : Ev := fun ρ st => (a ρ st).bind fun x st1 => match x with
  | .bl true => b ρ st1
  | .bl false => .ok (.bl false) st1
  | _ => .bad
def evOr (a b : Ev) : Ev := fun ρ st => (a ρ st).bind fun x st1 => match x with
  | .bl false => b ρ st1
  | .bl true => .ok (.bl true) st1
  | _ => .bad
def evNot (a : Ev) : Ev := fun ρ st => (a ρ st).bind fun x st1 => match x with
  | .bl b => .ok (.bl (!b)) st1
  | _ => .bad
variable {va vb : Ev}
theorem e_one {op} (h : PE X a (tE X.K W va)) : PE X (.BoolOp op [a] pos) (tE X.K W va) := pe_one h
theorem e_and (ha : PE X a (tE X.K W va)) (hb : PE X (.BoolOp .And (b :: rest) pos) (tE X.K W vb)) : PE X (.BoolOp .And (a :: b :: rest) pos) (tE X.K W (evAnd va vb)) := by
  refine ⟨fun pins s σ H Q I h => ?_⟩
  obtain ⟨m, ρ, st, hsl, hst, hp⟩ := h
  refine BoolOp_and (seqE ha I hsl hst hp fun u s1 v H1 m1 d st1 I1 r1 x1 sl1 y1 rv1 p1 => ?_)
  cases d with
  | bl k =>
    obtain rfl : v = .bl k := by simpa only [Rep] using rv1
    cases r1
    refine wpAny_truthy_bool ?_
    cases k with
    | true => exact hb.run pins s1 σ H1 Q I1 ⟨m1, ρ, st1, sl1, y1, p1⟩
    | false => exact ⟨.bl false, H1, I1, rfl, p1 m1 H1 .refl y1 _ (by simp only [Rep])⟩
  | _ => exact p1.elim
theorem e_or (ha : PE X a (tE X.K W va)) (hb : PE X (.BoolOp .Or (b :: rest) pos) (tE X.K W vb)) : PE X (.BoolOp .Or (a :: b :: rest) pos) (tE X.K W (evOr va vb)) := by
  refine ⟨fun pins s σ H Q I h => ?_⟩
  obtain ⟨m, ρ, st, hsl, hst, hp⟩ := h
  refine BoolOp_or (seqE ha I hsl hst hp fun u s1 v H1 m1 d st1 I1 r1 x1 sl1 y1 rv1 p1 => ?_)
  cases d with
  | bl k =>
    obtain rfl : v = .bl k := by simpa only [Rep] using rv1
    cases r1
    refine wpAny_truthy_bool ?_
    cases k with
    | false => exact hb.run pins s1 σ H1 Q I1 ⟨m1, ρ, st1, sl1, y1, p1⟩
    | true => exact ⟨.bl true, H1, I1, rfl, p1 m1 H1 .refl y1 _ (by simp only [Rep])⟩
  | _ => exact p1.elim
theorem e_not (ha : PE X a (tE X.K W va)) : PE X (.UnaryOp .Not a pos) (tE X.K W (evNot va)) := by
  refine ⟨fun pins s σ H Q I h => ?_⟩
  obtain ⟨m, ρ, st, hsl, hst, hp⟩ := h
  refine UnaryOp_ (seqE ha I hsl hst hp fun u s1 v H1 m1 d st1 I1 r1 x1 sl1 y1 rv1 p1 => ?_)
  cases d with
  | bl k =>
    obtain rfl : v = .bl k := by simpa only [Rep] using rv1
    cases r1
    exact not_of (wpAny_truthy_bool ⟨.bl (!k), H1, I1, rfl, p1 m1 H1 .refl y1 _ (by simp only [Rep])⟩)
  | _ => exact p1.elim
def evIf (t : Eb) (a b : Ev) : Ev := fun ρ st => (t ρ st).bind fun x st1 => if x = true then a ρ st1 else b ρ st1
theorem e_if {f : Eb} (hc : PT X c (tT X.K W f)) (ha : PE X a (tE X.K W va)) (hb : PE X b (tE X.K W vb)) : PE X (.IfExp c a b pos) (tE X.K W (evIf f va vb)) := by
  refine ⟨fun pins s σ H Q I h => ?_⟩
  obtain ⟨m, ρ, st, hsl, hst, hp⟩ := h
  refine wpAny_IfExp (seqT hc I hsl hst hp fun k s1 H1 m1 st1 I1 x1 sl1 y1 p1 => ?_)
  cases k with
  | true => exact ha.run pins s1 σ H1 Q I1 ⟨m1, ρ, st1, sl1, y1, by simpa using p1⟩
  | false => exact hb.run pins s1 σ H1 Q I1 ⟨m1, ρ, st1, sl1, y1, by simpa using p1⟩
/-! ### arguments, displays -/
def eaNil : Ea := fun _ st => .ok [] st
def eaCons (a : Ev) (r : Ea) : Ea := fun ρ st => (a ρ st).bind fun x st1 => (r ρ st1).bind fun xs st2 => .ok (x :: xs) st2
theorem a_nil : PA X [] (tA X.K W eaNil) := by
  refine ⟨fun pos pins s σ H Q I h => ?_⟩
  obtain ⟨m, ρ, st, hsl, hst, hp⟩ := h
  exact pa_nil.run pos pins s σ H Q I (hp m H .refl hst [] .nil)
theorem a_cons {f : Ev} {g : Ea} (ha : PE X e (tE X.K W f)) (hr : PA X es (tA X.K W g)) (hst : starEach (e :: es) X.env = (false, eval e X.env) :: starEach es X.env) : PA X (e :: es) (tA X.K W (eaCons f g)) := by
  refine ⟨fun pos pins s σ H Q I h => ?_⟩
  obtain ⟨m, ρ, st, hsl, hst', hp⟩ := h
  refine (pa_cons (t := tA X.K W g) ha hr hst).run pos pins s σ H Q I ?_
  refine ⟨m, ρ, st, hsl, hst', hp.bind.imp fun d st1 m1 H1 x1 y1 p1 v rv => ?_⟩
  refine ⟨m1, ρ, st1, hsl.mono x1, y1, p1.bind.imp fun ds st2 m2 H2 x2 y2 p2 vs rvs => ?_⟩
  exact p2 m2 H2 .refl y2 _ (.cons (rv.mono x2) rvs)
/-- a tuple of at most 1,000 items -/
def evTup (g : Ea) : Ev := fun ρ st => (g ρ st).bind fun ds st1 => if ds.length ≤ 1000 then .ok (.tup ds) st1 else .bad
theorem small_line {n : Nat} (h : n ≤ 1000) : n ≤ sizeLine := Nat.le_of_lt (small1000 h)
end
end Ip
set_option Elab.async false
set_option linter.all false
set_option maxRecDepth 100000
set_option maxHeartbeats 4000000
namespace Ip
open PySem PySem.Spec PyProof.Rows L2

theorem PE_imp {X : Cx} {e : Expr} {t t' : TE} (h : PE X e t) (k : ∀ σ H Q, t' σ H Q → t σ H Q) : PE X e t' := ⟨fun pins s σ H Q I q => h.run pins s σ H Q I (k σ H Q q)⟩
theorem PS_imp {X : Cx} {e : Stmt} {t t' : TS} (h : PS X e t) (k : ∀ D σ H, t' D σ H → t D σ H) : PS X e t' := ⟨fun pins s σ H D I q => h.run pins s σ H D I (k D σ H q)⟩
section
variable {K : PySem.W.Frag} {W : WX} {σ : L2.St} {H : Hp} {m : MX} {ρ : Sl} {st : Sto} {α β : Type}
theorem tE_seq {f : Ev} (hsl : RepSl K m H ρ σ) (hst : RepSt K m H st) {g : D → Sto → R β} {P : β → Sto → MX → Hp → Prop} (hp : Post K W σ m H ((f ρ st).bind g) P) {Q : VK}
    (k : ∀ v H1 m1 d st1, Ext K m H m1 H1 → RepSl K m1 H1 ρ σ → RepSt K m1 H1 st1 → Rep K m1 H1 d v → Post K W σ m1 H1 (g d st1) P → Q v H1) : tE K W f σ H Q :=
  ⟨m, ρ, st, hsl, hst, hp.bind.imp fun d st1 m1 H1 x y q v rv => k v H1 m1 d st1 x (hsl.mono x) y rv q⟩
theorem tA_seq {f : Ea} (hsl : RepSl K m H ρ σ) (hst : RepSt K m H st) {g : List D → Sto → R β} {P : β → Sto → MX → Hp → Prop} (hp : Post K W σ m H ((f ρ st).bind g) P) {Q : List V → Hp → Prop}
    (k : ∀ vs H1 m1 ds st1, Ext K m H m1 H1 → RepSl K m1 H1 ρ σ → RepSt K m1 H1 st1 → Reps K m1 H1 ds vs → Post K W σ m1 H1 (g ds st1) P → Q vs H1) : tA K W f σ H Q :=
  ⟨m, ρ, st, hsl, hst, hp.bind.imp fun ds st1 m1 H1 x y q v rv => k v H1 m1 ds st1 x (hsl.mono x) y rv q⟩
theorem tT_seq {f : Eb} (hsl : RepSl K m H ρ σ) (hst : RepSt K m H st) {g : Bool → Sto → R β} {P : β → Sto → MX → Hp → Prop} (hp : Post K W σ m H ((f ρ st).bind g) P) {Q : Bool → Hp → Prop}
    (k : ∀ b H1 m1 st1, Ext K m H m1 H1 → RepSl K m1 H1 ρ σ → RepSt K m1 H1 st1 → Post K W σ m1 H1 (g b st1) P → Q b H1) : tT K W f σ H Q :=
  ⟨m, ρ, st, hsl, hst, hp.bind.imp fun b st1 m1 H1 x y q => k b H1 m1 st1 x (hsl.mono x) y q⟩
theorem Rep.lst_new {p : Addr} {ds : List D} {vs : List V} (hst : RepSt K m H st) (hn : H p = none) (r : Reps K m H ds vs) : Rep K m (upd H p (.lst vs)) (.lst ds) (.ref p) := by
  simp only [Rep]
  exact ⟨p, vs, rfl, .inl upd_same, fresh_nin hst hn, r.mono (.new hn)⟩
theorem Rep.tup_new {p : Addr} {ds : List D} {vs : List V} (hn : H p = none) (r : Reps K m H ds vs) : Rep K m (upd H p (.tup vs)) (.tup ds) (.ref p) := by
  simp only [Rep]
  exact ⟨p, vs, rfl, .inl (.inl upd_same), r.mono (.new hn)⟩
end
/-- the items of a sequence: of a list that may be joined, of any list, of a list or tuple -/
def itemsR (st : Sto) : D → Option (List D)
  | .lst xs => some xs
  | .ref n => st[n]?
  | _ => none
def itemsL (st : Sto) : D → Option (List D)
  | .lst xs => some xs
  | .scr xs => some xs
  | .ref n => st[n]?
  | _ => none
def items (st : Sto) : D → Option (List D)
  | .tup xs => some xs
  | .lst xs => some xs
  | .scr xs => some xs
  | .ref n => st[n]?
  | _ => none
section
variable {K : PySem.W.Frag} {W : WX} {σ : L2.St} {H : Hp} {m : MX} {ρ : Sl} {st : Sto} {d : D} {xs : List D} {v : V}
theorem ref_rep {n : Nat} (hst : RepSt K m H st) (h : st[n]? = some xs) (r : Rep K m H (.ref n) v) : ∃ a vs, v = .ref a ∧ H a = some (.lst vs) ∧ m.l[n]? = some a ∧ Reps K m H xs vs := by
  simp only [Rep] at r
  obtain ⟨a, rfl, h1⟩ := r
  obtain ⟨b, vs, e1, e2, e3⟩ := hst.get h
  rw [h1] at e1; cases e1
  exact ⟨a, vs, rfl, e2, h1, e3⟩
theorem itemsR_rep (hst : RepSt K m H st) (h : itemsR st d = some xs) (r : Rep K m H d v) : ∃ a vs, v = .ref a ∧ Rd H a (.lst vs) ∧ Reps K m H xs vs := by
  cases d with
  | lst ys =>
    cases h
    simp only [Rep] at r
    obtain ⟨a, vs, rfl, h1, _, h2⟩ := r
    exact ⟨a, vs, rfl, h1, h2⟩
  | ref n =>
    obtain ⟨a, vs, rfl, e2, _, e3⟩ := ref_rep hst h r
    exact ⟨a, vs, rfl, .inl e2, e3⟩
  | _ => cases h
theorem itemsL_rep (hst : RepSt K m H st) (h : itemsL st d = some xs) (r : Rep K m H d v) : ∃ a vs, v = .ref a ∧ SqL K H a vs ∧ Reps K m H xs vs := by
  cases d with
  | scr ys =>
    cases h
    simp only [Rep] at r
    obtain ⟨a, vs, rfl, h1, h2⟩ := r
    exact ⟨a, vs, rfl, h1.elim (fun z => .inl z.1) fun z => z H, h2⟩
  | lst ys =>
    obtain ⟨a, vs, e, h1, h2⟩ := itemsR_rep (d := .lst ys) hst h r
    exact ⟨a, vs, e, .inl h1, h2⟩
  | ref n =>
    obtain ⟨a, vs, e, h1, h2⟩ := itemsR_rep (d := .ref n) hst h r
    exact ⟨a, vs, e, .inl h1, h2⟩
  | _ => cases h
theorem items_rep (hst : RepSt K m H st) (h : items st d = some xs) (r : Rep K m H d v) : ∃ a vs, v = .ref a ∧ (SqL K H a vs ∨ SqT K H a vs) ∧ Reps K m H xs vs := by
  have go : itemsL st d = some xs → ∃ a vs, v = .ref a ∧ (SqL K H a vs ∨ SqT K H a vs) ∧ Reps K m H xs vs := fun h => by
    obtain ⟨a, vs, e, h1, h2⟩ := itemsL_rep hst h r
    exact ⟨a, vs, e, .inl h1, h2⟩
  cases d with
  | tup ys =>
    cases h
    simp only [Rep] at r
    obtain ⟨a, vs, rfl, h1, h2⟩ := r
    exact ⟨a, vs, rfl, .inr h1, h2⟩
  | lst _ => exact go h
  | scr _ => exact go h
  | ref _ => exact go h
  | _ => cases h
theorem tup_rep (r : Rep K m H (.tup xs) v) : ∃ a vs, v = .ref a ∧ SqT K H a vs ∧ Reps K m H xs vs := by simpa only [Rep] using r
end
section
variable {X : Cx} {W : WX} {pins : List (Addr × Obj)} {σ : L2.St} {H : Hp} {s : Shared} {m : MX} {ρ : Sl} {st : Sto} {α β : Type}
variable {e a b c : Expr} {es : List Expr} {pos p2 : Pos}
/-! ### displays -/
theorem e_tup {g : Ea} {k : Nat} (h : PA X es (tA X.K W g)) : PE X (.Tuple es k pos) (tE X.K W (evTup g)) := by
  refine PE_imp (pe_tup h) fun σ H Q hw => ?_
  obtain ⟨m, ρ, st, hsl, hst, hp⟩ := hw
  refine tA_seq hsl hst hp fun vs H1 m1 ds st1 x sl1 y rv p => ?_
  by_cases hl : ds.length ≤ 1000
  · rw [if_pos hl] at p
    refine ⟨by rw [rv.len]; exact small_line hl, fun t ht => ?_⟩
    exact p m1 _ (.new ht) (y.new ht) _ (.tup_new ht rv)
  · rw [if_neg hl] at p; exact p.elim
def elDisp (g : Ea) : Ea := fun ρ st => (g ρ st).bind fun ds st1 => if ds.length ≤ 1000 then .ok ds st1 else .bad
theorem n_disp {g : Ea} (h : PA X es (tA X.K W g)) : PE X (.List es pos) (tN X.K W (elDisp g)) := by
  refine PE_imp (pe_lst h) fun σ H Q hw => ?_
  obtain ⟨m, ρ, st, hsl, hst, hp⟩ := hw
  refine tA_seq hsl hst hp fun vs H1 m1 ds st1 x sl1 y rv p => ?_
  by_cases hl : ds.length ≤ 1000
  · rw [if_pos hl] at p
    have hz : vs.length ≤ sizeLine := by rw [rv.len]; exact small_line hl
    exact ⟨hz, fun t ht => p m1 H1 .refl y t vs ht rv hz⟩
  · rw [if_neg hl] at p; exact p.elim
/-- a new list as a value; as a mutable list -/
def evL (g : Ea) : Ev := fun ρ st => (g ρ st).bind fun ds st1 => .ok (.lst ds) st1
def evM (g : Ea) : Ev := fun ρ st => (g ρ st).bind fun ds st1 => .ok (.ref st1.length) (st1 ++ [ds])
theorem e_ofN {g : Ea} (h : PE X e (tN X.K W g)) : PE X e (tE X.K W (evL g)) := by
  refine PE_imp h fun σ H Q hw => ?_
  obtain ⟨m, ρ, st, hsl, hst, hp⟩ := hw
  exact ⟨m, ρ, st, hsl, hst, hp.bind.imp fun ds st1 m1 H1 x y q a vs ha rv hz => q m1 _ (.new ha) (y.new ha) _ (.lst_new y ha rv)⟩
theorem e_ofM {g : Ea} (h : PE X e (tN X.K W g)) : PE X e (tE X.K W (evM g)) := by
  refine PE_imp h fun σ H Q hw => ?_
  obtain ⟨m, ρ, st, hsl, hst, hp⟩ := hw
  refine ⟨m, ρ, st, hsl, hst, hp.bind.imp fun ds st1 m1 H1 x y q p vs ha rv hz => q (m1.add [p]) _ ((Ext.new ha).grow ha) (y.grow ha rv) _ ?_⟩
  simp only [Rep]
  refine ⟨p, rfl, ?_⟩
  show (m1.l ++ [p])[st1.length]? = _
  rw [List.getElem?_append_right (by rw [y.len]; exact Nat.le_refl _), y.len]
  simp

/-! ### subscripts -/
def oIx (st : Sto) (x i : D) : Option D := match i with
  | .int k => (items st x).bind fun xs => atI xs k
  | _ => none
theorem atI_reps {K : PySem.W.Frag} {m : MX} {H : Hp} {xs : List D} {vs : List V} {k : Int} {d : D} (r : Reps K m H xs vs) (h : atI xs k = some d) : ∃ v, atI vs k = some v ∧ Rep K m H d v := by
  unfold atI at h ⊢
  rw [r.len]
  cases e : ixN xs.length k with
  | none => rw [e] at h; cases h
  | some j =>
    rw [e] at h
    exact r.get h
theorem e_ix {fa fb : Ev} (ha : PE X a (tE X.K W fa)) (hb : PE X b (tE X.K W fb)) (hs : PlainIx b) : PE X (.Subscript a b pos) (tE X.K W (evOp oIx fa fb)) := by
  refine PE_imp (pe_ix ix_seq ha hb hs) fun σ H Q hw => ?_
  obtain ⟨m, ρ, st, hsl, hst, hp⟩ := hw
  refine tE_seq hsl hst hp fun v H1 m1 d st1 x1 sl1 y1 rv1 p1 => ?_
  refine tE_seq sl1 y1 p1 fun w H2 m2 d2 st2 x2 sl2 y2 rv2 p2 => ?_
  have hp2 := p2
  cases d2 with
  | int k =>
    obtain rfl : w = .int k := by simpa only [Rep] using rv2
    cases e : items st2 d with
    | none => simp only [oIx, e] at hp2; exact hp2.elim
    | some xs =>
      simp only [oIx, e, Option.bind_some] at hp2
      cases e2 : atI xs k with
      | none => rw [e2] at hp2; exact hp2.elim
      | some z =>
        rw [e2] at hp2
        obtain ⟨a, vs, rfl, h1, h2⟩ := items_rep y2 e (rv1.mono x2)
        obtain ⟨z', e3, r3⟩ := atI_reps h2 e2
        have fin := hp2 m2 H2 .refl y2 z' r3
        rcases h1 with h1 | h1
        · exact .inl ⟨a, vs, k, z', rfl, rfl, h1, e3, fin⟩
        · exact .inr (.inl ⟨a, vs, k, z', rfl, rfl, h1, e3, fin⟩)
  | _ => exact hp2.elim
/-- bounds of a slice -/
abbrev Eo := Sl → Sto → R (Option Int)
def eoNone : Eo := fun _ st => .ok none st
def eoSome (f : Ev) : Eo := fun ρ st => (f ρ st).bind fun d st1 => match d with
  | .int i => .ok (some i) st1
  | _ => .bad
def tO (K : PySem.W.Frag) (W : WX) (f : Eo) : TO := fun σ H Q => ∃ m ρ st, RepSl K m H ρ σ ∧ RepSt K m H st ∧ Post K W σ m H (f ρ st) fun o _ _ H' => Q o H'
theorem tO_seq {K : PySem.W.Frag} {f : Eo} (hsl : RepSl K m H ρ σ) (hst : RepSt K m H st) {g : Option Int → Sto → R β} {P : β → Sto → MX → Hp → Prop} (hp : Post K W σ m H ((f ρ st).bind g) P) {Q : Option Int → Hp → Prop}
    (k : ∀ o H1 m1 st1, Ext K m H m1 H1 → RepSl K m1 H1 ρ σ → RepSt K m1 H1 st1 → Post K W σ m1 H1 (g o st1) P → Q o H1) : tO K W f σ H Q :=
  ⟨m, ρ, st, hsl, hst, hp.bind.imp fun b st1 m1 H1 x y q => k b H1 m1 st1 x (hsl.mono x) y q⟩
theorem PO_imp {X : Cx} {e : Option Expr} {t t' : TO} (h : PO X e t) (k : ∀ σ H Q, t' σ H Q → t σ H Q) : PO X e t' := ⟨fun pins s σ H Q I q => h.run pins s σ H Q I (k σ H Q q)⟩
theorem o_none : PO X none (tO X.K W eoNone) := PO_imp po_none fun σ H Q ⟨m, ρ, st, hsl, hst, hp⟩ => hp m H .refl hst
theorem o_some {f : Ev} (h : PE X e (tE X.K W f)) : PO X (some e) (tO X.K W (eoSome f)) := by
  refine PO_imp (po_some h) fun σ H Q hw => ?_
  obtain ⟨m, ρ, st, hsl, hst, hp⟩ := hw
  refine tE_seq hsl hst hp fun v H1 m1 d st1 x1 sl1 y1 rv1 p1 => ?_
  cases d with
  | int k =>
    obtain rfl : v = .int k := by simpa only [Rep] using rv1
    exact ⟨k, rfl, p1 m1 H1 .refl y1⟩
  | _ => exact p1.elim
def cutD {α : Type} (xs : List α) (lo hi : Option Int) : List α := (xs.drop (HT.sIx xs.length 0 lo)).take (HT.sIx xs.length xs.length hi - HT.sIx xs.length 0 lo)
def oSl (st : Sto) (x : D) (lo hi : Option Int) : Option D := match x with
  | .tup xs => some (.tup (cutD xs lo hi))
  | .lst xs => some (.lst (cutD xs lo hi))
  | .scr xs => some (.lst (cutD xs lo hi))
  | .ref n => (st[n]?).map fun xs => .lst (cutD xs lo hi)
  | .str z => if z.length ≤ 1000000 then some (.str (cutS z lo hi)) else none
  | _ => none
def evSl (f : Ev) (l h : Eo) : Ev := fun ρ st => (f ρ st).bind fun x st1 => (l ρ st1).bind fun lo st2 => (h ρ st2).bind fun hi st3 => .lift (oSl st3 x lo hi) st3
theorem cut_reps {K : PySem.W.Frag} {m : MX} {H : Hp} {xs : List D} {vs : List V} {lo hi : Option Int} (r : Reps K m H xs vs) : Reps K m H (cutD xs lo hi) (cutV vs lo hi) := by
  unfold cutD cutV
  rw [r.len]
  exact (r.drop _).take _
theorem cutD_whole {α : Type} {xs : List α} {lo hi : Option Int} (h : HT.sIx xs.length 0 lo = 0 ∧ HT.sIx xs.length xs.length hi = xs.length) : cutD xs lo hi = xs := by
  unfold cutD
  rw [h.1, h.2]
  simp
theorem e_slice {f : Ev} {l h : Eo} {lo hi : Option Expr} (he : PE X e (tE X.K W f)) (hl : PO X lo (tO X.K W l)) (hu : PO X hi (tO X.K W h)) : PE X (.Subscript e (.Slice lo hi none p2) pos) (tE X.K W (evSl f l h)) := by
  refine PE_imp (pe_slice (sl_tupA.or (sl_list.or sl_str)) he hl hu) fun σ H Q hw => ?_
  obtain ⟨m, ρ, st, hsl, hst, hp⟩ := hw
  refine tE_seq hsl hst hp fun v H1 m1 d st1 x1 sl1 y1 rv1 p1 => ?_
  refine tO_seq sl1 y1 p1 fun lo H2 m2 st2 x2 sl2 y2 p2 => ?_
  refine tO_seq sl2 y2 p2 fun hi H3 m3 st3 x3 sl3 y3 p3 => ?_
  have rv := (rv1.mono x2).mono x3
  have lst : ∀ xs, itemsL st3 d = some xs → oSl st3 d lo hi = some (.lst (cutD xs lo hi)) → rSlL X.K v lo hi H3 Q := fun xs e eo => by
    rw [eo] at p3
    obtain ⟨a, vs, rfl, h1, h2⟩ := itemsL_rep y3 e rv
    exact ⟨a, vs, rfl, h1, fun p hp => p3 m3 _ (.new hp) (y3.new hp) _ (.lst_new y3 hp (cut_reps h2))⟩
  cases d with
  | tup xs =>
    obtain ⟨a, vs, rfl, h1, h2⟩ := tup_rep rv
    have p3 : Post X.K W σ m3 H3 (.ok (.tup (cutD xs lo hi)) st3) (PQ X.K Q) := p3
    refine .inl ⟨a, vs, rfl, h1, fun hw => ?_, fun hw p hp => ?_⟩
    · rw [h2.len] at hw
      have e := cutD_whole (xs := xs) hw
      rw [e] at p3
      exact p3 m3 H3 .refl y3 _ rv
    · exact p3 m3 _ (.new hp) (y3.new hp) _ (.tup_new hp (cut_reps h2))
  | lst xs => exact .inr (.inl (lst xs rfl rfl))
  | scr xs => exact .inr (.inl (lst xs rfl rfl))
  | ref n =>
    cases e : st3[n]? with
    | none =>
      have p3 : Post X.K W σ m3 H3 (R.lift ((st3[n]?).map fun xs => D.lst (cutD xs lo hi)) st3) (PQ X.K Q) := p3
      rw [e] at p3; exact p3.elim
    | some xs => exact .inr (.inl (lst xs e (by show (st3[n]?).map _ = _; rw [e]; rfl)))
  | str z =>
    obtain rfl : v = .str z := by simpa only [Rep] using rv
    have p3 : Post X.K W σ m3 H3 (R.lift (if z.length ≤ 1000000 then some (.str (cutS z lo hi)) else none) st3) (PQ X.K Q) := p3
    by_cases hz : z.length ≤ 1000000
    · rw [if_pos hz] at p3
      exact .inr (.inr ⟨z, rfl, Nat.le_trans hz (by decide), p3 m3 H3 .refl y3 _ (by simp only [Rep])⟩)
    · rw [if_neg hz] at p3; exact p3.elim
  | _ => exact p3.elim
/-- xs[::-1] of a list -/
def evRevL (f : Ev) : Ev := fun ρ st => (f ρ st).bind fun x st1 => .lift ((itemsL st1 x).map fun xs => .lst xs.reverse) st1
theorem e_revL {f : Ev} {k : Nat} {p1 p2 p3 : Pos} (he : PE X e (tE X.K W f)) : PE X (.Subscript e (.Slice none none (some (.UnaryOp .USub (.Constant (.int 1) k p1) p2)) p3) pos) (tE X.K W (evRevL f)) := by
  refine PE_imp (pe_revL he) fun σ H Q hw => ?_
  obtain ⟨m, ρ, st, hsl, hst, hp⟩ := hw
  refine tE_seq hsl hst hp fun v H1 m1 d st1 x1 sl1 y1 rv1 p1 => ?_
  cases e : itemsL st1 d with
  | none => rw [e] at p1; exact p1.elim
  | some xs =>
    rw [e] at p1
    obtain ⟨a, vs, rfl, h1, h2⟩ := itemsL_rep y1 e rv1
    exact ⟨a, vs, rfl, h1, fun p hp => p1 m1 _ (.new hp) (y1.new hp) _ (.lst_new y1 hp h2.reverse)⟩
/-! ### a chain of two comparisons -/
def evChain (o o' : Sto → D → D → Option D) (a b c : Ev) : Ev := fun ρ st => (a ρ st).bind fun x st1 => (b ρ st1).bind fun y st2 => (R.lift (o st2 x y) st2).bind fun z st3 => match z with
  | .bl true => (c ρ st3).bind fun w st4 => .lift (o' st4 y w) st4
  | .bl false => .ok (.bl false) st3
  | _ => .bad
theorem e_chain {op op' : CmpOp} {o o' : Sto → D → D → Option D} {fa fb fc : Ev} (ho : OpS X (compareOp op) o) (ho' : OpS X (compareOp op') o') (ha : PE X a (tE X.K W fa)) (hb : PE X b (tE X.K W fb)) (hc : PE X c (tE X.K W fc))
    (hm : lastMarks [op, op'] [b, c] = false) : PE X (.Compare a [op, op'] [b, c] pos) (tE X.K W (evChain o o' fa fb fc)) := by
  refine ⟨fun pins s σ H Q I h => ?_⟩
  obtain ⟨m, ρ, st, hsl, hst, hp⟩ := h
  refine Compare_chain (seqE ha I hsl hst hp fun u s1 v H1 m1 d st1 I1 r1 x1 sl1 y1 rv1 p1 => ?_) hm
  refine chain_link (seqE hb I1 sl1 y1 p1 fun t s2 w H2 m2 d2 st2 I2 r2 x2 sl2 y2 rv2 p2 => ?_)
  cases e : o st2 d d2 with
  | none => rw [e] at p2; exact p2.elim
  | some z =>
    rw [e] at p2
    refine thn (ho pins s2 σ H2 m2 st2 d d2 z v w u t (fun v' H' => ∃ m', Ext X.K m2 H2 m' H' ∧ RepSt X.K m' H' st2 ∧ Rep X.K m' H' z v') I2 y2 (rv1.mono x2) rv2 r1 r2 e fun m' H' v' x y r => ⟨m', x, y, r⟩) fun c' s3 hc3 => ?_
    obtain ⟨v', H3, I3, r3, m3, x3, y3, rv3⟩ := hc3
    have p3 := Post.ext x3 p2
    cases z with
    | bl k =>
      obtain rfl : v' = .bl k := by simpa only [Rep] using rv3
      cases r3
      refine wpAny_truthy_bool ?_
      cases k with
      | false => exact ite_ff ⟨.bl false, H3, I3, rfl, p3 m3 H3 .refl y3 _ (by simp only [Rep])⟩
      | true =>
        refine ite_tt (chain_last (seqE hc I3 (sl2.mono x3) y3 p3 fun w' s4 z' H4 m4 d4 st4 I4 r4 x4 sl4 y4 rv4 p4 => ?_))
        cases e2 : o' st4 d2 d4 with
        | none => rw [e2] at p4; exact p4.elim
        | some q =>
          rw [e2] at p4
          exact ho' pins s4 σ H4 m4 st4 d2 d4 q w z' t w' Q I4 y4 ((rv2.mono x3).mono x4) rv4 r2 r4 e2 fun m' H' v' x y r => p4 m' H' x y v' r
    | _ => exact p3.elim
end
end Ip
set_option Elab.async false
set_option linter.all false
set_option maxRecDepth 100000
set_option maxHeartbeats 4000000
namespace Ip
open PySem PySem.Spec PyProof.Rows L2

/-! ### data as the library's data, for == and in -/
mutual
def py : D → PyData
  | .non => .none
  | .bl b => .bool b
  | .int i => .int i
  | .str x => .str x
  | .tup xs => .tuple (pys xs)
  | .lst xs => .list (pys xs)
  | .scr xs => .list (pys xs)
  | .ref _ => .none
  | .glo _ => .none
def pys : List D → List PyData
  | [] => []
  | x :: xs => py x :: pys xs
end
mutual
def okS : D → Bool
  | .non | .bl _ | .int _ => true
  | .str x => PyData.strOk x
  | .tup xs => okSs xs
  | .lst xs => okSs xs
  | .scr xs => okSs xs
  | .ref _ | .glo _ => false
def okSs : List D → Bool
  | [] => true
  | x :: xs => okS x && okSs xs
end
mutual
theorem okS_lay : ∀ {d : D}, okS d = true → (py d).canLay0 = true
  | .non, _ => rfl
  | .bl _, _ => rfl
  | .int _, _ => rfl
  | .str _, h => h
  | .tup xs, h => okSs_lay (xs := xs) h
  | .lst xs, h => okSs_lay (xs := xs) h
  | .scr xs, h => okSs_lay (xs := xs) h
  | .ref _, h => by cases h
  | .glo _, h => by cases h
theorem okSs_lay : ∀ {xs : List D}, okSs xs = true → PyData.canLayAll0 (pys xs) = true
  | [], _ => rfl
  | x :: xs, h => by
    have h' : (okS x && okSs xs) = true := h
    rw [Bool.and_eq_true] at h'
    show ((py x).canLay0 && PyData.canLayAll0 (pys xs)) = true
    rw [okS_lay h'.1, okSs_lay h'.2]; rfl
end
mutual
theorem Rep.dp {K : PySem.W.Frag} {m : MX} {H : Hp} : ∀ {d : D} {v : V}, okS d = true → Rep K m H d v → Dp K H v (py d)
  | .non, _, _, r => by simp only [Rep] at r; subst r; exact .non
  | .bl _, _, _, r => by simp only [Rep] at r; subst r; exact .bl _
  | .int _, _, _, r => by simp only [Rep] at r; subst r; exact .int _
  | .str _, _, _, r => by simp only [Rep] at r; subst r; exact .str _
  | .tup xs, _, h, r => by
    simp only [Rep] at r
    obtain ⟨a, vs, rfl, h1, h2⟩ := r
    exact .tup h1 (Reps.dp (xs := xs) h h2)
  | .lst xs, _, h, r => by
    simp only [Rep] at r
    obtain ⟨a, vs, rfl, h1, _, h2⟩ := r
    exact .lst (.inl h1) (Reps.dp (xs := xs) h h2)
  | .scr xs, _, h, r => by
    simp only [Rep] at r
    obtain ⟨a, vs, rfl, h1, h2⟩ := r
    exact .lst (h1.elim (fun z => .inl z.1) fun z => z H) (Reps.dp (xs := xs) h h2)
  | .ref _, _, h, _ => by cases h
  | .glo _, _, h, _ => by cases h
theorem Reps.dp {K : PySem.W.Frag} {m : MX} {H : Hp} : ∀ {xs : List D} {vs : List V}, okSs xs = true → Reps K m H xs vs → DpAll K H vs (pys xs)
  | [], _, _, r => by rw [r.nil_inv]; exact .nil
  | x :: xs, _, h, r => by
    have h' : (okS x && okSs xs) = true := h
    rw [Bool.and_eq_true] at h'
    obtain ⟨v, t, rfl, h1, h2⟩ := r.cons_inv
    exact .cons (Rep.dp h'.1 h1) (Reps.dp h'.2 h2)
end
/-- a mutable list as it stands -/
def deref (st : Sto) : D → D
  | .ref n => match st[n]? with
    | some xs => .lst xs
    | none => .ref n
  | d => d
theorem deref_rep {K : PySem.W.Frag} {m : MX} {H : Hp} {st : Sto} {d : D} {v : V} (hst : RepSt K m H st) (h : okS (deref st d) = true) (r : Rep K m H d v) : Dp K H v (py (deref st d)) := by
  cases d with
  | ref n =>
    unfold deref at h ⊢
    dsimp only at h ⊢
    cases e : st[n]? with
    | none => rw [e] at h; cases h
    | some xs =>
      rw [e] at h
      obtain ⟨a, vs, rfl, h1, _, h2⟩ := ref_rep hst e r
      exact .lst (.inl (.inl h1)) (Reps.dp (xs := xs) h h2)
  | _ => exact Rep.dp h r
def okD (d : D) : Bool := okS d && decide ((py d).depth ≤ 64)
theorem okD_shaped {d : D} (h : okD d = true) : SeqAt.shaped (py d) = true := by
  unfold okD at h
  rw [Bool.and_eq_true] at h
  unfold SeqAt.shaped
  rw [okS_lay h.1, h.2]; rfl
theorem okD_s {d : D} (h : okD d = true) : okS d = true := by
  unfold okD at h
  rw [Bool.and_eq_true] at h
  exact h.1
def eqD (x y : D) : Bool := PyData.eqv (py x) (py y)

section
variable {X : Cx} {W : WX}
theorem rBl {K : PySem.W.Frag} {m : MX} {H : Hp} {b : Bool} : Rep K m H (.bl b) (.bl b) := by simp only [Rep]
theorem rInt {K : PySem.W.Frag} {m : MX} {H : Hp} {i : Int} : Rep K m H (.int i) (.int i) := by simp only [Rep]
theorem rStr {K : PySem.W.Frag} {m : MX} {H : Hp} {x : Str} : Rep K m H (.str x) (.str x) := by simp only [Rep]
theorem rNon {K : PySem.W.Frag} {m : MX} {H : Hp} : Rep K m H .non .non := by simp only [Rep]
theorem iBl {K : PySem.W.Frag} {m : MX} {H : Hp} {b : Bool} {v : V} (r : Rep K m H (.bl b) v) : v = .bl b := by simpa only [Rep] using r
theorem iInt {K : PySem.W.Frag} {m : MX} {H : Hp} {i : Int} {v : V} (r : Rep K m H (.int i) v) : v = .int i := by simpa only [Rep] using r
theorem iStr {K : PySem.W.Frag} {m : MX} {H : Hp} {x : Str} {v : V} (r : Rep K m H (.str x) v) : v = .str x := by simpa only [Rep] using r
theorem iNon {K : PySem.W.Frag} {m : MX} {H : Hp} {v : V} (r : Rep K m H .non v) : v = .non := by simpa only [Rep] using r

/-! ### ==, != -/
def oEq (st : Sto) (x y : D) : Option D := if okD (deref st x) = true ∧ okD (deref st y) = true then some (.bl (eqD (deref st x) (deref st y))) else none
def oNe (st : Sto) (x y : D) : Option D := if okD (deref st x) = true ∧ okD (deref st y) = true then some (.bl (!eqD (deref st x) (deref st y))) else none
theorem opEq (hu : X.A.units + 64 < cLine) : OpS X (compareOp .Eq) oEq := by
  intro pins s σ H m st x y z v w u t Q I hst rx ry ru rt ho q
  unfold oEq at ho
  split at ho
  · rename_i hc
    cases ho
    exact op_eqD hu pins s σ H v w u t Q I ru rt ⟨_, _, deref_rep hst (okD_s hc.1) rx, deref_rep hst (okD_s hc.2) ry, okD_shaped hc.1, okD_shaped hc.2, q m H _ .refl hst rBl⟩
  · cases ho
theorem opNe (hu : X.A.units + 64 < cLine) : OpS X (compareOp .NotEq) oNe := by
  intro pins s σ H m st x y z v w u t Q I hst rx ry ru rt ho q
  unfold oNe at ho
  split at ho
  · rename_i hc
    cases ho
    exact op_neD hu pins s σ H v w u t Q I ru rt ⟨_, _, deref_rep hst (okD_s hc.1) rx, deref_rep hst (okD_s hc.2) ry, okD_shaped hc.1, okD_shaped hc.2, q m H _ .refl hst rBl⟩
  · cases ho
/-! ### in, not in: lists and tuples -/
def inD (xs : List D) (x : D) : Bool := xs.any fun z => eqD z x
theorem pys_any (f : PyData → Bool) : ∀ xs : List D, (pys xs).any f = xs.any fun z => f (py z)
  | [] => rfl
  | x :: xs => by
    show (py x :: pys xs).any f = _
    rw [List.any_cons, List.any_cons, pys_any f xs]
def oIn (st : Sto) (x y : D) : Option D := match items st y with
  | some xs => if okD x = true ∧ okSs xs = true then some (.bl (inD xs x)) else none
  | none => none
def oNotIn (st : Sto) (x y : D) : Option D := match items st y with
  | some xs => if okD x = true ∧ okSs xs = true then some (.bl (!inD xs x)) else none
  | none => none
theorem in_any (hu : X.A.units + 65 < cLine) {pins : List (Addr × Obj)} {s : Shared} {σ : L2.St} {H : Hp} {m : MX} {st : Sto} {x y : D} {v w : V} {u t : Value} {Q : VK} {xs : List D} (I : Inv X pins σ H s) (hst : RepSt X.K m H st) (rx : Rep X.K m H x v) (ry : Rep X.K m H y w) (ru : RelV v u) (rt : RelV w t)
    (e : items st y = some xs) (hx : okD x = true) (hs : okSs xs = true) : (Q (.bl (inD xs x)) H → wpAny (model X.prog X.w) X.A (compareOp .In u t) (EP X pins σ Q) X.xe s) ∧ (Q (.bl (!inD xs x)) H → wpAny (model X.prog X.w) X.A (compareOp .NotIn u t) (EP X pins σ Q) X.xe s) := by
  obtain ⟨a, vs, rfl, h1, h2⟩ := items_rep hst e ry
  obtain ⟨as, r1⟩ := Dp.reads I _ v u (Rep.dp (okD_s hx) rx) ru
  have ea : inD xs x = (pys xs).any (fun z => PyData.eqv z (py x)) := by rw [pys_any]; rfl
  have hd := Reps.dp hs h2
  have hl := okSs_lay hs
  have hr := room_in_shaped (A := X.A) (xs := pys xs) (okD_shaped hx) hu
  rcases h1 with h1 | h1
  · obtain ⟨bs, r2⟩ := Dp.reads I (.list (pys xs)) (.ref a) t (.lst h1 hd) rt
    refine ⟨fun q => SeqAt.in_list_reads r2 r1 hl (okS_lay (okD_s hx)) hr ⟨.bl _, H, I, rfl, ?_⟩, fun q => SeqAt.notIn_list_reads r2 r1 hl (okS_lay (okD_s hx)) hr ⟨.bl _, H, I, rfl, ?_⟩⟩
    · rw [ea] at q; exact q
    · rw [ea] at q; exact q
  · obtain ⟨bs, r2⟩ := Dp.reads I (.tuple (pys xs)) (.ref a) t (.tup h1 hd) rt
    refine ⟨fun q => SeqAt.in_tuple_reads r2 r1 hl (okS_lay (okD_s hx)) hr ⟨.bl _, H, I, rfl, ?_⟩, fun q => SeqAt.notIn_tuple_reads r2 r1 hl (okS_lay (okD_s hx)) hr ⟨.bl _, H, I, rfl, ?_⟩⟩
    · rw [ea] at q; exact q
    · rw [ea] at q; exact q
theorem opIn (hu : X.A.units + 65 < cLine) : OpS X (compareOp .In) oIn := by
  intro pins s σ H m st x y z v w u t Q I hst rx ry ru rt ho q
  unfold oIn at ho
  split at ho
  · rename_i xs e
    split at ho
    · rename_i hc
      cases ho
      exact (in_any hu I hst rx ry ru rt e hc.1 hc.2).1 (q m H _ .refl hst rBl)
    · cases ho
  · cases ho
theorem opNotIn (hu : X.A.units + 65 < cLine) : OpS X (compareOp .NotIn) oNotIn := by
  intro pins s σ H m st x y z v w u t Q I hst rx ry ru rt ho q
  unfold oNotIn at ho
  split at ho
  · rename_i xs e
    split at ho
    · rename_i hc
      cases ho
      exact (in_any hu I hst rx ry ru rt e hc.1 hc.2).2 (q m H _ .refl hst rBl)
    · cases ho
  · cases ho
/-! ### is, is not: None; two bools -/
def oIs (_ : Sto) (x y : D) : Option D := match x, y with
  | .bl a, .bl b => some (.bl (decide (a = b)))
  | .non, .non => some (.bl true)
  | .ref _, .non => some (.bl false)
  | .glo _, .non => some (.bl false)
  | .bl _, .non => some (.bl false)
  | .int _, .non => some (.bl false)
  | .str _, .non => some (.bl false)
  | .tup _, .non => some (.bl false)
  | .lst _, .non => some (.bl false)
  | .scr _, .non => some (.bl false)
  | _, _ => none
def oIsNot (st : Sto) (x y : D) : Option D := match oIs st x y with
  | some (.bl b) => some (.bl (!b))
  | _ => none
theorem is_none_rep {K : PySem.W.Frag} {m : MX} {H : Hp} {x : D} {v : V} (r : Rep K m H x v) : (∃ b, x = .bl b) ∨ oIs [] x .non = some (.bl (decide (v = .non))) := by
  cases x with
  | non => rw [iNon r]; exact .inr rfl
  | bl b => exact .inl ⟨b, rfl⟩
  | int i => rw [iInt r]; exact .inr rfl
  | str i => rw [iStr r]; exact .inr rfl
  | tup xs => obtain ⟨a, vs, rfl, _⟩ := tup_rep r; exact .inr rfl
  | lst xs => simp only [Rep] at r; obtain ⟨a, vs, rfl, _⟩ := r; exact .inr rfl
  | scr xs => simp only [Rep] at r; obtain ⟨a, vs, rfl, _⟩ := r; exact .inr rfl
  | ref xs => simp only [Rep] at r; obtain ⟨a, rfl, _⟩ := r; exact .inr rfl
  | glo xs => simp only [Rep] at r; rw [r]; exact .inr rfl
theorem is_case {K : PySem.W.Frag} {m : MX} {H : Hp} {st : Sto} {x y z : D} {v w : V} (rx : Rep K m H x v) (ry : Rep K m H y w) (h : oIs st x y = some z) : (∃ a b, v = .bl a ∧ w = .bl b ∧ z = .bl (decide (a = b))) ∨ (w = .non ∧ z = .bl (decide (v = .non))) := by
  cases y with
  | non =>
    right
    refine ⟨iNon ry, ?_⟩
    rcases is_none_rep rx with ⟨b, rfl⟩ | e
    · rw [iBl rx]; cases h; rfl
    · have e' : oIs st x .non = some (.bl (decide (v = .non))) := by cases x <;> exact e
      rw [e'] at h; cases h; rfl
  | bl b =>
    left
    cases x with
    | bl a => cases h; exact ⟨a, b, iBl rx, iBl ry, rfl⟩
    | _ => cases h
  | _ => cases x <;> cases h
theorem opIs : OpS X (compareOp .Is) oIs := by
  intro pins s σ H m st x y z v w u t Q I hst rx ry ru rt ho q
  rcases is_case rx ry ho with ⟨a, b, rfl, rfl, rfl⟩ | ⟨rfl, rfl⟩
  · exact op_is_bl pins s σ H _ _ u t Q I ru rt ⟨a, b, rfl, rfl, q m H _ .refl hst rBl⟩
  · exact op_isN pins s σ H _ _ u t Q I ru rt ⟨rfl, q m H _ .refl hst rBl⟩
theorem opIsNot : OpS X (compareOp .IsNot) oIsNot := by
  intro pins s σ H m st x y z v w u t Q I hst rx ry ru rt ho q
  unfold oIsNot at ho
  split at ho
  · rename_i b e
    cases ho
    rcases is_case rx ry e with ⟨a, c, rfl, rfl, e1⟩ | ⟨rfl, e1⟩
    · cases e1
      exact op_isnot_bl pins s σ H _ _ u t Q I ru rt ⟨a, c, rfl, rfl, q m H _ .refl hst rBl⟩
    · cases e1
      exact op_notN pins s σ H _ _ u t Q I ru rt ⟨rfl, q m H _ .refl hst rBl⟩
  · cases ho
/-! ### order of ints -/
def oLt (_ : Sto) (x y : D) : Option D := match x, y with
  | .int i, .int j => some (.bl (decide (i < j)))
  | _, _ => none
def oLe (_ : Sto) (x y : D) : Option D := match x, y with
  | .int i, .int j => some (.bl (decide (i ≤ j)))
  | _, _ => none
def oGt (_ : Sto) (x y : D) : Option D := match x, y with
  | .int i, .int j => some (.bl (decide (j < i)))
  | _, _ => none
def oGe (_ : Sto) (x y : D) : Option D := match x, y with
  | .int i, .int j => some (.bl (decide (j ≤ i)))
  | _, _ => none
theorem ints2 {α : Type} {x y : D} {z : α} {f : Int → Int → Option α} (h : (match x, y with | .int i, .int j => f i j | _, _ => none) = some z) : ∃ i j, x = .int i ∧ y = .int j ∧ f i j = some z := by
  cases x with
  | int i =>
    cases y with
    | int j => exact ⟨i, j, rfl, rfl, h⟩
    | _ => cases h
  | _ => cases h
theorem opLt : OpS X (compareOp .Lt) oLt := by
  intro pins s σ H m st x y z v w u t Q I hst rx ry ru rt ho q
  obtain ⟨i, j, rfl, rfl, e⟩ := ints2 ho
  cases e
  exact op_lt pins s σ H v w u t Q I ru rt ⟨i, j, iInt rx, iInt ry, q m H _ .refl hst rBl⟩
theorem opLe : OpS X (compareOp .LtE) oLe := by
  intro pins s σ H m st x y z v w u t Q I hst rx ry ru rt ho q
  obtain ⟨i, j, rfl, rfl, e⟩ := ints2 ho
  cases e
  exact op_le pins s σ H v w u t Q I ru rt ⟨i, j, iInt rx, iInt ry, q m H _ .refl hst rBl⟩
theorem opGt : OpS X (compareOp .Gt) oGt := by
  intro pins s σ H m st x y z v w u t Q I hst rx ry ru rt ho q
  obtain ⟨i, j, rfl, rfl, e⟩ := ints2 ho
  cases e
  exact op_gt pins s σ H v w u t Q I ru rt ⟨i, j, iInt rx, iInt ry, q m H _ .refl hst rBl⟩
theorem opGe : OpS X (compareOp .GtE) oGe := by
  intro pins s σ H m st x y z v w u t Q I hst rx ry ru rt ho q
  obtain ⟨i, j, rfl, rfl, e⟩ := ints2 ho
  cases e
  exact op_ge pins s σ H v w u t Q I ru rt ⟨i, j, iInt rx, iInt ry, q m H _ .refl hst rBl⟩
/-! ### arithmetic -/
def lim : Nat := 100000
def oAdd (st : Sto) (x y : D) : Option D := match x, y with
  | .int i, .int j => some (.int (i + j))
  | .tup a, .tup b => if a.length + b.length ≤ 1000000 then some (.tup (a ++ b)) else none
  | .str a, .str b => if a.length + b.length ≤ 1000000 then some (.str (a ++ b)) else none
  | x, y => match itemsR st x, itemsR st y with
    | some a, some b => if a.length + b.length ≤ 1000000 then some (.lst (a ++ b)) else none
    | _, _ => none
def oSub (_ : Sto) (x y : D) : Option D := match x, y with
  | .int i, .int j => some (.int (i - j))
  | _, _ => none
def oMul (_ : Sto) (x y : D) : Option D := match x, y with
  | .int i, .int j => if i.natAbs < 2 ^ 4000 ∧ j.natAbs < 2 ^ 4000 then some (.int (i * j)) else none
  | _, _ => none
def oDiv (_ : Sto) (x y : D) : Option D := match x, y with
  | .int i, .int j => if 0 < j ∧ j.natAbs < 2 ^ 4000 then some (.int (i / j)) else none
  | _, _ => none
def oMod (_ : Sto) (x y : D) : Option D := match x, y with
  | .int i, .int j => if 0 < j then some (.int (i % j)) else none
  | _, _ => none
def oPow (_ : Sto) (x y : D) : Option D := match x, y with
  | .int i, .int j => if 0 ≤ j ∧ j ≤ 1000000 ∧ i.natAbs < 2 ^ 64 then some (.int (i ^ j.toNat)) else none
  | _, _ => none
theorem opSub : OpS X (binaryOp .Sub) oSub := by
  intro pins s σ H m st x y z v w u t Q I hst rx ry ru rt ho q
  obtain ⟨i, j, rfl, rfl, e⟩ := ints2 ho
  cases e
  exact op_sub pins s σ H v w u t Q I ru rt ⟨i, j, iInt rx, iInt ry, q m H _ .refl hst rInt⟩
theorem opMul : OpS X (binaryOp .Mult) oMul := by
  intro pins s σ H m st x y z v w u t Q I hst rx ry ru rt ho q
  obtain ⟨i, j, rfl, rfl, e⟩ := ints2 ho
  split at e
  · rename_i hc
    cases e
    exact op_mulW pins s σ H v w u t Q I ru rt ⟨i, j, iInt rx, iInt ry, wide_mul hc.1 hc.2 (by decide) (by decide) (by decide), q m H _ .refl hst rInt⟩
  · cases e
theorem opDiv : OpS X (binaryOp .FloorDiv) oDiv := by
  intro pins s σ H m st x y z v w u t Q I hst rx ry ru rt ho q
  obtain ⟨i, j, rfl, rfl, e⟩ := ints2 ho
  split at e
  · rename_i hc
    cases e
    exact op_fdivW pins s σ H v w u t Q I ru rt ⟨i, j, iInt rx, iInt ry, wide_div hc.1 hc.2 (by decide) (by decide), q m H _ .refl hst rInt⟩
  · cases e
theorem opMod : OpS X (binaryOp .Mod) oMod := by
  intro pins s σ H m st x y z v w u t Q I hst rx ry ru rt ho q
  obtain ⟨i, j, rfl, rfl, e⟩ := ints2 ho
  split at e
  · rename_i hc
    cases e
    exact op_mod pins s σ H v w u t Q I ru rt ⟨i, j, iInt rx, iInt ry, hc, q m H _ .refl hst rInt⟩
  · cases e
theorem opPow : OpS X (binaryOp .Pow) oPow := by
  intro pins s σ H m st x y z v w u t Q I hst rx ry ru rt ho q
  obtain ⟨i, j, rfl, rfl, e⟩ := ints2 ho
  split at e
  · rename_i hc
    cases e
    exact op_pow pins s σ H v w u t Q I ru rt ⟨i, j, iInt rx, iInt ry, hc, q m H _ .refl hst rInt⟩
  · cases e
theorem Inv.rdL {pins : List (Addr × Obj)} {s : Shared} {σ : L2.St} {H : Hp} {l : Addr} {xs : List V} (I : Inv X pins σ H s) (h : Rd H l (.lst xs)) :
    xs.length ≤ sizeLine ∧ ∃ (its : List Value) (n : Nat), Vals xs its ∧ xs.length = its.length ∧ s.heap.get? l = some { cls := .type "list", data := .seq its.toArray n } := by
  obtain ⟨z, its, n, r, e⟩ := h.ok I.hok
  exact ⟨z, its, n, r, r.length, e⟩
theorem mil_line {n : Nat} (h : n ≤ 1000000) : n ≤ sizeLine := Nat.le_trans h (by decide)
theorem opAdd : OpS X (binaryOp .Add) oAdd := by
  intro pins s σ H m st x y z v w u t Q I hst rx ry ru rt ho q
  have go : (match itemsR st x, itemsR st y with
    | some a, some b => if a.length + b.length ≤ 1000000 then some (D.lst (a ++ b)) else none
    | _, _ => none) = some z → wpAny (model X.prog X.w) X.A (binaryOp .Add u t) (EP X pins σ Q) X.xe s := fun ho => by
    cases ea : itemsR st x with
    | none => rw [ea] at ho; cases ho
    | some a =>
      cases eb : itemsR st y with
      | none => rw [ea, eb] at ho; cases ho
      | some b =>
        rw [ea, eb] at ho
        dsimp only at ho
        split at ho
        · rename_i hz
          cases ho
          obtain ⟨p, vs, rfl, h1, h2⟩ := itemsR_rep hst ea rx
          obtain ⟨p', ws, rfl, h1', h2'⟩ := itemsR_rep hst eb ry
          cases ru
          cases rt
          obtain ⟨_, its, n, r, hl, e⟩ := Inv.rdL I h1
          obtain ⟨_, its2, n2, r2, hl2, e2⟩ := Inv.rdL I h1'
          have hz' : vs.length + ws.length ≤ sizeLine := by rw [h2.len, h2'.len]; exact mil_line hz
          refine PySem.P.add_list e e2 ?_ (by rw [List.size_toArray, List.size_toArray]; omega)
          have ea : its.toArray ++ its2.toArray = (its ++ its2).toArray := by simp
          rw [ea]
          exact ⟨.ref _, _, I.lnew (t' := s.toks) (r.append r2) (by rw [List.length_append]; omega), rfl, q m _ _ (.new I.fresh) (hst.new I.fresh) (.lst_new hst I.fresh (h2.append h2'))⟩
        · cases ho
  cases x with
  | int i =>
    cases y with
    | int j =>
      cases ho
      exact op_add pins s σ H v w u t Q I ru rt ⟨i, j, iInt rx, iInt ry, q m H _ .refl hst rInt⟩
    | _ => exact go ho
  | tup a =>
    cases y with
    | tup b =>
      have ho : (if a.length + b.length ≤ 1000000 then some (D.tup (a ++ b)) else none) = some z := ho
      split at ho
      · rename_i hz
        cases ho
        obtain ⟨p, vs, rfl, h1, h2⟩ := tup_rep rx
        obtain ⟨p', ws, rfl, h1', h2'⟩ := tup_rep ry
        refine op_catA pins s σ H _ _ u t Q I ru rt ⟨p, p', vs, ws, rfl, rfl, h1, h1', by rw [h2.len, h2'.len]; exact mil_line hz, fun e => ?_, fun e e' => ?_, fun e e' p hp => ?_⟩
        · subst e
          have ea : a = [] := by
            have := h2.len
            cases a with
            | nil => rfl
            | cons _ _ => simp at this
          rw [ea, List.nil_append] at q
          exact q m H _ .refl hst ry
        · subst e'
          have ea : b = [] := by
            have := h2'.len
            cases b with
            | nil => rfl
            | cons _ _ => simp at this
          rw [ea, List.append_nil] at q
          exact q m H _ .refl hst rx
        · exact q m _ _ (.new hp) (hst.new hp) (.tup_new hp (h2.append h2'))
      · cases ho
    | _ => exact go ho
  | str a =>
    cases y with
    | str b =>
      have ho : (if a.length + b.length ≤ 1000000 then some (D.str (a ++ b)) else none) = some z := ho
      split at ho
      · rename_i hz
        cases ho
        exact op_add_str pins s σ H v w u t Q I ru rt ⟨a, b, iStr rx, iStr ry, mil_line hz, q m H _ .refl hst rStr⟩
      · cases ho
    | _ => exact go ho
  | lst a => exact go (by cases y <;> exact ho)
  | ref a => exact go (by cases y <;> exact ho)
  | non => exact go ho
  | bl _ => exact go ho
  | scr _ => exact go ho
  | glo _ => exact go ho
end
end Ip
set_option Elab.async false
set_option linter.all false
set_option maxRecDepth 100000
set_option maxHeartbeats 4000000
namespace Ip
open PySem PySem.Spec PyProof.Rows L2

/-! ### a def's promise: its run -/
abbrev Fn := List D → Sto → R D
/-- the promise of a def of n parameters that is run as f -/
def spF (K : PySem.W.Frag) (n : Nat) (f : Fn) : Sp := fun vs H Q E => ∃ m ds st, Reps K m H ds vs ∧ ds.length = n ∧ RepSt K m H st ∧ Post K (fun c d _ H' => E c d H') [] m H (f ds st) (PQ K Q)
theorem Post.wish {α : Type} {K : PySem.W.Frag} {W : WX} {σ : L2.St} {m : MX} {H : Hp} {r : R α} {P : α → Sto → MX → Hp → Prop} (h : Post K W σ m H r P) : Post K (fun c d _ H' => W c d σ H') [] m H r P := by
  cases r with
  | ok a st => exact h
  | exc c st => exact h
  | bad => exact h
/-- the module's name x holds a def of n parameters that is run as f -/
def FnHas (X : Cx) (x : Str) (n lv : Nat) (f : Fn) : Prop := ∃ (a : Addr) (fd : FuncData) (ps : List Str), X.mg x = some (.ref a) ∧ PySem.W.keepIn X.K (.ref a) = true ∧ Binds X.K fd ps [] ∧ FnOk X.prog X.w X.K X.mg X.base (L2N.CX X.prog X.w) lv a fd ps (spF X.K n f)
def evCall (n : Nat) (f : Fn) (g : Ea) : Ev := fun ρ st => (g ρ st).bind fun ds st1 => if ds.length = n then f ds st1 else .bad
section
variable {X : Cx} {W : WX} {pins : List (Addr × Obj)} {σ : L2.St} {H : Hp} {s : Shared} {m : MX} {ρ : Sl} {st : Sto} {α β : Type}
variable {e a b c : Expr} {es : List Expr} {pos p p2 : Pos} {x : Str} {n lv : Nat} {f : Fn}
theorem e_call {g : Ea} (F : FnHas X x n lv f) (hr : Room lv X.A) (hg : Gl X x) (hdb : (x == ("__debug__" : Str)) = false) (tk : L2N.Takes X W) (ha : PA X (e :: es) (tA X.K W g))
    (he : starEach (e :: es) X.env = (false, eval e X.env) :: starEach es X.env) (hpl : (backTo pos (starEach es X.env)).any (·.1) = false) : PE X (.Call (.Name x p) (e :: es) [] pos) (tE X.K W (evCall n f g)) := by
  obtain ⟨a, fd, ps, hm, hk, hb, G⟩ := F
  refine PE_imp (pe_callSD G hr hg hm hk hb .nil (fun σ => L2N.passAt tk σ) ha hdb he hpl) fun σ H Q hw => ?_
  obtain ⟨m, ρ, st, hsl, hst, hp⟩ := hw
  refine tA_seq hsl hst hp fun vs H1 m1 ds st1 x1 sl1 y1 rv p1 => ?_
  by_cases hn : ds.length = n
  · rw [if_pos hn] at p1
    rw [List.append_nil]
    exact ⟨m1, ds, st1, rv, hn, y1, p1.wish⟩
  · rw [if_neg hn] at p1; exact p1.elim
theorem e_call0 (F : FnHas X x n lv f) (hr : Room lv X.A) (hg : Gl X x) (hdb : (x == ("__debug__" : Str)) = false) (tk : L2N.Takes X W) : PE X (.Call (.Name x p) [] [] pos) (tE X.K W (evCall n f eaNil)) := by
  obtain ⟨a, fd, ps, hm, hk, hb, G⟩ := F
  refine ⟨fun pins s σ H Q I hw => ?_⟩
  obtain ⟨m, ρ, st, hsl, hst, hp⟩ := hw
  refine wpAny_Call_Name_kw (ld_glob I hg hm ?_ hdb)
  refine PySem.W.callWith_K0 I.kIn hk (run_fnSD (us := []) (dvs := []) G hr hb .nil (L2N.passAt tk σ) I .nil ?_)
  have hp : Post X.K W σ m H (if ([] : List D).length = n then f [] st else .bad) (PQ X.K Q) := hp
  by_cases hn : ([] : List D).length = n
  · rw [if_pos hn] at hp
    exact ⟨m, [], st, .nil, hn, hst, hp.wish⟩
  · rw [if_neg hn] at hp; exact hp.elim

/-! ### built-in functions and types, by values -/
def CallS (X : Cx) (f : Value) (o : Sto → List D → Option D) : Prop :=
  ∀ (pins : List (Addr × Obj)) (s : Shared) (σ : L2.St) (H : Hp) (m : MX) (st : Sto) (ds : List D) (z : D) (vs : List V) (us : List Value) (Q : VK), Inv X pins σ H s → RepSt X.K m H st → Reps X.K m H ds vs → Vals vs us → o st ds = some z →
    (∀ m' H' v', Ext X.K m H m' H' → RepSt X.K m' H' st → Rep X.K m' H' z v' → Q v' H') → wpAny (model X.prog X.w) X.A (call f us) (EP X pins σ Q) X.xe s
def evB (o : Sto → List D → Option D) (g : Ea) : Ev := fun ρ st => (g ρ st).bind fun ds st1 => .lift (o st1 ds) st1
theorem e_callB {id : String} {o : Sto → List D → Option D} {g : Ea} (hc : CallS X (.builtin id) o) (hg : Gl X x) (hm : X.mg x = none) (hv : bootBuiltins x = some (.builtin id)) (ha : PA X (e :: es) (tA X.K W g)) (hn : x ≠ "__name__") (hdb : (x == ("__debug__" : Str)) = false)
    (he : starEach (e :: es) X.env = (false, eval e X.env) :: starEach es X.env) (hpl : (backTo pos (starEach es X.env)).any (·.1) = false) : PE X (.Call (.Name x p) (e :: es) [] pos) (tE X.K W (evB o g)) := by
  refine ⟨fun pins s σ H Q I hw => ?_⟩
  obtain ⟨m, ρ, st, hsl, hst, hp⟩ := hw
  refine wpAny_Call_Name_kw (ld_blt I hg hm hv ?_ hn hdb)
  refine PyProof.Rows.callWith_builtin1 (seqA ha I hsl hst hp fun us s1 vs H1 m1 ds st1 I1 r1 x1 sl1 y1 rv p1 => ?_) he hpl
  cases ez : o st1 ds with
  | none => rw [ez] at p1; exact p1.elim
  | some z =>
    rw [ez] at p1
    exact hc pins s1 σ H1 m1 st1 ds z vs us Q I1 y1 rv r1 ez fun m' H' v' x y r => p1 m' H' x y v' r
theorem e_callTy {T : String} {o : Sto → List D → Option D} {g : Ea} (hc : CallS X (.type T) o) (hg : Gl X x) (hm : X.mg x = none) (hv : bootBuiltins x = some (.type T)) (ha : PA X (e :: es) (tA X.K W g)) (hn : x ≠ "__name__") (hdb : (x == ("__debug__" : Str)) = false)
    (he : starEach (e :: es) X.env = (false, eval e X.env) :: starEach es X.env) (hpl : (backTo pos (starEach es X.env)).any (·.1) = false) : PE X (.Call (.Name x p) (e :: es) [] pos) (tE X.K W (evB o g)) := by
  refine ⟨fun pins s σ H Q I hw => ?_⟩
  obtain ⟨m, ρ, st, hsl, hst, hp⟩ := hw
  refine wpAny_Call_Name_kw (ld_blt I hg hm hv ?_ hn hdb)
  refine PyProof.Rows.callWith_type1 (seqA ha I hsl hst hp fun us s1 vs H1 m1 ds st1 I1 r1 x1 sl1 y1 rv p1 => ?_) he hpl
  cases ez : o st1 ds with
  | none => rw [ez] at p1; exact p1.elim
  | some z =>
    rw [ez] at p1
    exact hc pins s1 σ H1 m1 st1 ds z vs us Q I1 y1 rv r1 ez fun m' H' v' x y r => p1 m' H' x y v' r

/-- lists of ints, of bools -/
def intsOf : List D → Option (List Int)
  | [] => some []
  | .int i :: r => (intsOf r).map (i :: ·)
  | _ => none
def blsOf : List D → Option (List Bool)
  | [] => some []
  | .bl b :: r => (blsOf r).map (b :: ·)
  | _ => none
theorem intsOf_map : ∀ ns : List Int, intsOf (ns.map D.int) = some ns
  | [] => rfl
  | n :: ns => by rw [List.map_cons, intsOf, intsOf_map ns]; rfl
theorem blsOf_map : ∀ ns : List Bool, blsOf (ns.map D.bl) = some ns
  | [] => rfl
  | n :: ns => by rw [List.map_cons, blsOf, blsOf_map ns]; rfl
theorem intsOf_inv : ∀ {xs : List D} {ns : List Int}, intsOf xs = some ns → xs = ns.map D.int
  | [], _, h => by cases h; rfl
  | d :: r, ns, h => by
    cases d with
    | int i =>
      rw [intsOf] at h
      cases e : intsOf r with
      | none => rw [e] at h; cases h
      | some ms => rw [e] at h; cases h; rw [intsOf_inv e]; rfl
    | _ => cases h
theorem blsOf_inv : ∀ {xs : List D} {ns : List Bool}, blsOf xs = some ns → xs = ns.map D.bl
  | [], _, h => by cases h; rfl
  | d :: r, ns, h => by
    cases d with
    | bl i =>
      rw [blsOf] at h
      cases e : blsOf r with
      | none => rw [e] at h; cases h
      | some ms => rw [e] at h; cases h; rw [blsOf_inv e]; rfl
    | _ => cases h
theorem reps_ints {K : PySem.W.Frag} {H : Hp} : ∀ {ns : List Int} {vs : List V}, Reps K m H (ns.map D.int) vs → vs = ns.map V.int
  | [], _, h => h.nil_inv
  | n :: ns, _, h => by
    obtain ⟨v, r, rfl, h1, h2⟩ := h.cons_inv
    rw [iInt h1, reps_ints h2]; rfl
theorem reps_bls {K : PySem.W.Frag} {H : Hp} : ∀ {ns : List Bool} {vs : List V}, Reps K m H (ns.map D.bl) vs → vs = ns.map V.bl
  | [], _, h => h.nil_inv
  | n :: ns, _, h => by
    obtain ⟨v, r, rfl, h1, h2⟩ := h.cons_inv
    rw [iBl h1, reps_bls h2]; rfl
theorem reps1 {K : PySem.W.Frag} {H : Hp} {d : D} {vs : List V} (h : Reps K m H [d] vs) : ∃ v, vs = [v] ∧ Rep K m H d v := by
  obtain ⟨v, r, rfl, h1, h2⟩ := h.cons_inv
  rw [h2.nil_inv]; exact ⟨v, rfl, h1⟩
theorem reps2 {K : PySem.W.Frag} {H : Hp} {d d' : D} {vs : List V} (h : Reps K m H [d, d'] vs) : ∃ v v', vs = [v, v'] ∧ Rep K m H d v ∧ Rep K m H d' v' := by
  obtain ⟨v, r, rfl, h1, h2⟩ := h.cons_inv
  obtain ⟨w, rfl, h3⟩ := reps1 h2
  exact ⟨v, w, rfl, h1, h3⟩

def one1 {α : Type} (f : D → Option α) : List D → Option α
  | [d] => f d
  | _ => none
theorem one1_inv {α : Type} {f : D → Option α} {ds : List D} {z : α} (h : one1 f ds = some z) : ∃ d, ds = [d] ∧ f d = some z := by
  match ds, h with
  | [d], h => exact ⟨d, rfl, h⟩
/-- len -/
def bLen (st : Sto) : List D → Option D := one1 fun d => match d with
  | .str z => if z.length ≤ 1000000 then some (.int z.length) else none
  | d => (items st d).map fun xs => .int xs.length
theorem cLen : CallS X (.builtin "len") bLen := by
  intro pins s σ H m st ds z vs us Q I hst rv ru ho q
  obtain ⟨d, rfl, ho⟩ := one1_inv ho
  obtain ⟨v, rfl, r⟩ := reps1 rv
  have go : (items st d).map (fun xs => D.int xs.length) = some z → wpAny (model X.prog X.w) X.A (call (.builtin "len") us) (EP X pins σ Q) X.xe s := fun ho => by
    obtain ⟨xs, e, rfl⟩ := Option.map_eq_some_iff.mp ho
    obtain ⟨a, vs, rfl, h1, h2⟩ := items_rep hst e r
    exact call_len_seq pins s σ H _ us Q I ru ⟨a, vs, rfl, h1, q m H _ .refl hst (by rw [h2.len]; exact rInt)⟩
  cases d with
  | str y =>
    have ho : (if y.length ≤ 1000000 then some (D.int y.length) else none) = some z := ho
    split at ho
    · rename_i hz
      cases ho
      rw [iStr r] at ru
      exact call_len_str pins s σ H _ us Q I ru ⟨_, rfl, mil_line hz, q m H _ .refl hst rInt⟩
    · cases ho
  | _ => exact go ho
def bAll (st : Sto) : List D → Option D := one1 fun d => ((itemsL st d).bind blsOf).map fun bs => .bl (bs.all id)
def bAny (st : Sto) : List D → Option D := one1 fun d => ((itemsL st d).bind blsOf).map fun bs => .bl (bs.any id)
def bSum (st : Sto) : List D → Option D := one1 fun d => ((itemsL st d).bind intsOf).map fun ns => .int ns.sum
theorem bls_rep {K : PySem.W.Frag} {H : Hp} {d : D} {v : V} {bs : List Bool} (hst : RepSt K m H st) (h : (itemsL st d).bind blsOf = some bs) (r : Rep K m H d v) : ∃ a, v = .ref a ∧ SqL K H a (bs.map V.bl) := by
  obtain ⟨xs, e, e2⟩ := Option.bind_eq_some_iff.mp h
  obtain ⟨a, vs, rfl, h1, h2⟩ := itemsL_rep hst e r
  rw [blsOf_inv e2] at h2
  rw [reps_bls h2] at h1
  exact ⟨a, rfl, h1⟩
theorem ints_rep {K : PySem.W.Frag} {H : Hp} {d : D} {v : V} {bs : List Int} (hst : RepSt K m H st) (h : (itemsL st d).bind intsOf = some bs) (r : Rep K m H d v) : ∃ a, v = .ref a ∧ SqL K H a (bs.map V.int) := by
  obtain ⟨xs, e, e2⟩ := Option.bind_eq_some_iff.mp h
  obtain ⟨a, vs, rfl, h1, h2⟩ := itemsL_rep hst e r
  rw [intsOf_inv e2] at h2
  rw [reps_ints h2] at h1
  exact ⟨a, rfl, h1⟩
theorem cAll (hc : X.calm = true) : CallS X (.builtin "all") bAll := by
  intro pins s σ H m st ds z vs us Q I hst rv ru ho q
  obtain ⟨d, rfl, ho⟩ := one1_inv ho
  obtain ⟨v, rfl, r⟩ := reps1 rv
  obtain ⟨bs, e, rfl⟩ := Option.map_eq_some_iff.mp ho
  obtain ⟨a, rfl, h1⟩ := bls_rep hst e r
  exact cr_all hc pins s σ H _ us Q I ru ⟨a, bs, rfl, h1, q m H _ .refl hst rBl⟩
theorem cAny (hc : X.calm = true) : CallS X (.builtin "any") bAny := by
  intro pins s σ H m st ds z vs us Q I hst rv ru ho q
  obtain ⟨d, rfl, ho⟩ := one1_inv ho
  obtain ⟨v, rfl, r⟩ := reps1 rv
  obtain ⟨bs, e, rfl⟩ := Option.map_eq_some_iff.mp ho
  obtain ⟨a, rfl, h1⟩ := bls_rep hst e r
  exact cr_any hc pins s σ H _ us Q I ru ⟨a, bs, rfl, h1, q m H _ .refl hst rBl⟩
theorem cSum (hc : X.calm = true) : CallS X (.builtin "sum") bSum := by
  intro pins s σ H m st ds z vs us Q I hst rv ru ho q
  obtain ⟨d, rfl, ho⟩ := one1_inv ho
  obtain ⟨v, rfl, r⟩ := reps1 rv
  obtain ⟨bs, e, rfl⟩ := Option.map_eq_some_iff.mp ho
  obtain ⟨a, rfl, h1⟩ := ints_rep hst e r
  exact cr_sum hc pins s σ H _ us Q I ru ⟨a, bs, rfl, h1, q m H _ .refl hst rInt⟩
def maxI : List Int → Option Int
  | [] => none
  | x :: r => some (r.foldl max x)
def minI : List Int → Option Int
  | [] => none
  | x :: r => some (r.foldl min x)
theorem foldl_max : ∀ (r : List Int) (x : Int), (r.foldl max x = x ∨ r.foldl max x ∈ r) ∧ x ≤ r.foldl max x ∧ ∀ y ∈ r, y ≤ r.foldl max x
  | [], x => ⟨.inl rfl, Int.le_refl _, fun _ h => nomatch h⟩
  | z :: r, x => by
    obtain ⟨h1, h2, h3⟩ := foldl_max r (max x z)
    rw [List.foldl_cons]
    refine ⟨?_, by omega, fun y hy => ?_⟩
    · rcases h1 with h1 | h1
      · rw [h1]
        by_cases hz : x ≤ z
        · exact .inr (by rw [Int.max_eq_right hz]; exact List.mem_cons_self)
        · exact .inl (Int.max_eq_left (by omega))
      · exact .inr (List.mem_cons_of_mem _ h1)
    · rcases List.mem_cons.mp hy with rfl | hy
      · omega
      · exact h3 y hy
theorem foldl_min : ∀ (r : List Int) (x : Int), (r.foldl min x = x ∨ r.foldl min x ∈ r) ∧ r.foldl min x ≤ x ∧ ∀ y ∈ r, r.foldl min x ≤ y
  | [], x => ⟨.inl rfl, Int.le_refl _, fun _ h => nomatch h⟩
  | z :: r, x => by
    obtain ⟨h1, h2, h3⟩ := foldl_min r (min x z)
    rw [List.foldl_cons]
    refine ⟨?_, by omega, fun y hy => ?_⟩
    · rcases h1 with h1 | h1
      · rw [h1]
        by_cases hz : z ≤ x
        · exact .inr (by rw [Int.min_eq_right hz]; exact List.mem_cons_self)
        · exact .inl (Int.min_eq_left (by omega))
      · exact .inr (List.mem_cons_of_mem _ h1)
    · rcases List.mem_cons.mp hy with rfl | hy
      · omega
      · exact h3 y hy
theorem maxI_is {ns : List Int} {k : Int} (h : maxI ns = some k) : k ∈ ns ∧ ∀ y ∈ ns, y ≤ k := by
  cases ns with
  | nil => cases h
  | cons x r =>
    cases h
    obtain ⟨h1, h2, h3⟩ := foldl_max r x
    refine ⟨?_, fun y hy => ?_⟩
    · rcases h1 with h1 | h1
      · rw [h1]; exact List.mem_cons_self
      · exact List.mem_cons_of_mem _ h1
    · rcases List.mem_cons.mp hy with rfl | hy
      · exact h2
      · exact h3 y hy
theorem minI_is {ns : List Int} {k : Int} (h : minI ns = some k) : k ∈ ns ∧ ∀ y ∈ ns, k ≤ y := by
  cases ns with
  | nil => cases h
  | cons x r =>
    cases h
    obtain ⟨h1, h2, h3⟩ := foldl_min r x
    refine ⟨?_, fun y hy => ?_⟩
    · rcases h1 with h1 | h1
      · rw [h1]; exact List.mem_cons_self
      · exact List.mem_cons_of_mem _ h1
    · rcases List.mem_cons.mp hy with rfl | hy
      · exact h2
      · exact h3 y hy
def bMax (st : Sto) : List D → Option D
  | [.int i, .int j] => some (.int (if j > i then j else i))
  | [d] => (((itemsL st d).bind intsOf).bind maxI).map .int
  | _ => none
def bMin (st : Sto) : List D → Option D
  | [.int i, .int j] => some (.int (if j < i then j else i))
  | [d] => (((itemsL st d).bind intsOf).bind minI).map .int
  | _ => none
theorem cMax (hc : X.calm = true) : CallS X (.builtin "max") bMax := by
  intro pins s σ H m st ds z vs us Q I hst rv ru ho q
  unfold bMax at ho
  split at ho
  · rename_i i j
    cases ho
    obtain ⟨v, w, rfl, r1, r2⟩ := reps2 rv
    rw [iInt r1, iInt r2] at ru
    exact call_max2 hc pins s σ H _ us Q I ru ⟨i, j, rfl, q m H _ .refl hst rInt⟩
  · rename_i d
    obtain ⟨v, rfl, r⟩ := reps1 rv
    obtain ⟨k, e, rfl⟩ := Option.map_eq_some_iff.mp ho
    obtain ⟨ns, e1, e2⟩ := Option.bind_eq_some_iff.mp e
    obtain ⟨a, rfl, h1⟩ := ints_rep hst e1 r
    obtain ⟨k1, k2⟩ := maxI_is e2
    refine cr_max hc pins s σ H _ us Q I ru ⟨a, ns, rfl, h1, List.length_pos_of_mem k1, fun k' h1 h2 => ?_⟩
    have ek : k' = k := Int.le_antisymm (k2 k' h1) (h2 k k1)
    rw [ek]
    exact q m H _ .refl hst rInt
  · cases ho
theorem cMin (hc : X.calm = true) : CallS X (.builtin "min") bMin := by
  intro pins s σ H m st ds z vs us Q I hst rv ru ho q
  unfold bMin at ho
  split at ho
  · rename_i i j
    cases ho
    obtain ⟨v, w, rfl, r1, r2⟩ := reps2 rv
    rw [iInt r1, iInt r2] at ru
    exact call_min2 hc pins s σ H _ us Q I ru ⟨i, j, rfl, q m H _ .refl hst rInt⟩
  · rename_i d
    obtain ⟨v, rfl, r⟩ := reps1 rv
    obtain ⟨k, e, rfl⟩ := Option.map_eq_some_iff.mp ho
    obtain ⟨ns, e1, e2⟩ := Option.bind_eq_some_iff.mp e
    obtain ⟨a, rfl, h1⟩ := ints_rep hst e1 r
    obtain ⟨k1, k2⟩ := minI_is e2
    refine cr_min hc pins s σ H _ us Q I ru ⟨a, ns, rfl, h1, List.length_pos_of_mem k1, fun k' h1 h2 => ?_⟩
    have ek : k' = k := Int.le_antisymm (h2 k k1) (k2 k' h1)
    rw [ek]
    exact q m H _ .refl hst rInt
  · cases ho
/-- tuple(xs), list(xs), int(n), bool(b) -/
def bTuple (st : Sto) : List D → Option D := one1 fun d => match d with
  | .tup xs => some (.tup xs)
  | d => (itemsL st d).map .tup
def bList (st : Sto) : List D → Option D := one1 fun d => (items st d).map .lst
def bInt (_ : Sto) : List D → Option D := one1 fun d => match d with
  | .int i => some (.int i)
  | .bl b => some (.int (if b then 1 else 0))
  | _ => none
def bBool (_ : Sto) : List D → Option D := one1 fun d => match d with
  | .bl b => some (.bl b)
  | _ => none
theorem cTuple : CallS X (.type "tuple") bTuple := by
  intro pins s σ H m st ds z vs us Q I hst rv ru ho q
  obtain ⟨d, rfl, ho⟩ := one1_inv ho
  obtain ⟨v, rfl, r⟩ := reps1 rv
  have go : (itemsL st d).map D.tup = some z → wpAny (model X.prog X.w) X.A (call (.type "tuple") us) (EP X pins σ Q) X.xe s := fun ho => by
    obtain ⟨xs, e, rfl⟩ := Option.map_eq_some_iff.mp ho
    obtain ⟨a, vs, rfl, h1, h2⟩ := itemsL_rep hst e r
    exact call_tuple_of pins s σ H _ us Q I ru ⟨a, vs, rfl, .inl ⟨h1, fun l hl => q m _ _ (.new hl) (hst.new hl) (.tup_new hl h2)⟩⟩
  cases d with
  | tup xs =>
    cases ho
    obtain ⟨a, vs, rfl, h1, h2⟩ := tup_rep r
    exact call_tupleT pins s σ H _ us Q I ru ⟨a, vs, rfl, h1, q m H _ .refl hst r⟩
  | _ => exact go ho
theorem cList : CallS X (.type "list") bList := by
  intro pins s σ H m st ds z vs us Q I hst rv ru ho q
  obtain ⟨d, rfl, ho⟩ := one1_inv ho
  obtain ⟨v, rfl, r⟩ := reps1 rv
  obtain ⟨xs, e, rfl⟩ := Option.map_eq_some_iff.mp ho
  obtain ⟨a, vs, rfl, h1, h2⟩ := items_rep hst e r
  exact call_list_of pins s σ H _ us Q I ru ⟨a, vs, rfl, h1, fun l hl => q m _ _ (.new hl) (hst.new hl) (.lst_new hst hl h2)⟩
theorem cInt : CallS X (.type "int") bInt := by
  intro pins s σ H m st ds z vs us Q I hst rv ru ho q
  obtain ⟨d, rfl, ho⟩ := one1_inv ho
  obtain ⟨v, rfl, r⟩ := reps1 rv
  cases d with
  | int i =>
    cases ho
    rw [iInt r] at ru
    exact call_int1 pins s σ H _ us Q I ru (.inl ⟨i, rfl, q m H _ .refl hst rInt⟩)
  | bl b =>
    cases ho
    rw [iBl r] at ru
    exact call_int1 pins s σ H _ us Q I ru (.inr ⟨b, rfl, q m H _ .refl hst rInt⟩)
  | _ => cases ho
theorem cBool : CallS X (.type "bool") bBool := by
  intro pins s σ H m st ds z vs us Q I hst rv ru ho q
  obtain ⟨d, rfl, ho⟩ := one1_inv ho
  obtain ⟨v, rfl, r⟩ := reps1 rv
  cases d with
  | bl b =>
    cases ho
    rw [iBl r] at ru
    exact call_bool1 pins s σ H _ us Q I ru (.inr ⟨b, rfl, q m H _ .refl hst rBl⟩)
  | _ => cases ho
/-! ### isinstance(e, T), T a built-in type by its name -/
def tyName : D → Option String
  | .non => some "NoneType"
  | .bl _ => some "bool"
  | .int _ => some "int"
  | .str _ => some "str"
  | .tup _ => some "tuple"
  | .lst _ => some "list"
  | .scr _ => some "list"
  | .ref _ => some "list"
  | .glo _ => none
theorem tyX_of {K : PySem.W.Frag} {H : Hp} {d : D} {v : V} {n : String} (hst : RepSt K m H st) (h : tyName d = some n) (r : Rep K m H d v) : TyX K H v (.type n) := by
  have lst : ∀ {a xs}, SqL K H a xs → TyX K H (.ref a) (.type "list") := fun {a xs} h => by
    rcases h with (h | ⟨o, h⟩) | ⟨o, its, n, h, hc, _⟩
    · exact .base (.lst h)
    · exact .base (.frz h)
    · exact .kList h hc
  cases d with
  | non => cases h; rw [iNon r]; exact .base .non
  | bl _ => cases h; rw [iBl r]; exact .base (.bl _)
  | int _ => cases h; rw [iInt r]; exact .base (.int _)
  | str _ => cases h; rw [iStr r]; exact .base (.str _)
  | tup xs =>
    cases h
    obtain ⟨a, vs, rfl, h1, _⟩ := tup_rep r
    rcases h1 with (h1 | ⟨o, h1⟩) | ⟨o, its, n, h1, hc, _⟩
    · exact .base (.tup h1)
    · exact .fTuple h1
    · exact .kTuple h1 hc
  | lst xs =>
    cases h
    obtain ⟨a, vs, rfl, h1, _⟩ := itemsL_rep (d := .lst xs) hst rfl r
    exact lst h1
  | scr xs =>
    cases h
    obtain ⟨a, vs, rfl, h1, _⟩ := itemsL_rep (d := .scr xs) hst rfl r
    exact lst h1
  | ref n =>
    cases h
    simp only [Rep] at r
    obtain ⟨a, rfl, h1⟩ := r
    obtain ⟨vs, h2⟩ := hst.there (.inl (List.mem_of_getElem? h1))
    exact .base (.lst h2)
  | glo _ => cases h
/-- the answers -/
def isTab (T : String) : D → Option Bool
  | .non => kitB "NoneType" T
  | .bl _ => kitB "bool" T
  | .int _ => kitB "int" T
  | .str _ => kitB "str" T
  | .tup _ => kitB "tuple" T
  | .lst _ => kitB "list" T
  | .scr _ => kitB "list" T
  | .ref _ => kitB "list" T
  | .glo _ => none
inductive Ty where
  | int | bool | tuple | list | str
  deriving DecidableEq
def Ty.name : Ty → String
  | .int => "int"
  | .bool => "bool"
  | .tuple => "tuple"
  | .list => "list"
  | .str => "str"
/-- what isinstance tells -/
def isD (T : Ty) : D → Option Bool
  | .non => some false
  | .bl _ => some (T == .bool || T == .int)
  | .int _ => some (T == .int)
  | .str _ => some (T == .str)
  | .tup _ => some (T == .tuple)
  | .lst _ => some (T == .list)
  | .scr _ => some (T == .list)
  | .ref _ => some (T == .list)
  | .glo _ => none
theorem kit_tab : ∀ T : Ty, kitB "NoneType" T.name = some false ∧ kitB "bool" T.name = some (T == .bool || T == .int) ∧ kitB "int" T.name = some (T == .int) ∧ kitB "str" T.name = some (T == .str) ∧ kitB "tuple" T.name = some (T == .tuple) ∧ kitB "list" T.name = some (T == .list) := fun T => by
  cases T <;> decide +kernel
theorem isD_kit {T : Ty} {d : D} {b : Bool} (h : isD T d = some b) : ∃ n, tyName d = some n ∧ kitB n T.name = some b := by
  obtain ⟨k1, k2, k3, k4, k5, k6⟩ := kit_tab T
  cases d with
  | non => cases h; exact ⟨_, rfl, k1⟩
  | bl _ => cases h; exact ⟨_, rfl, k2⟩
  | int _ => cases h; exact ⟨_, rfl, k3⟩
  | str _ => cases h; exact ⟨_, rfl, k4⟩
  | tup _ => cases h; exact ⟨_, rfl, k5⟩
  | lst _ => cases h; exact ⟨_, rfl, k6⟩
  | scr _ => cases h; exact ⟨_, rfl, k6⟩
  | ref _ => cases h; exact ⟨_, rfl, k6⟩
  | glo _ => cases h
def evIs (T : Ty) (f : Ev) : Ev := fun ρ st => (f ρ st).bind fun d st1 => .lift ((isD T d).map .bl) st1
theorem e_isinst {T : Ty} {y : Str} {fa : Ev} {p3 : Pos} (hg : Gl X "isinstance") (hm : X.mg "isinstance" = none) (ha : PE X a (tE X.K W fa)) (hgT : Gl X y) (hmT : X.mg y = none) (hv : bootBuiltins y = some (.type T.name)) (hn : y ≠ "__name__") (hdb : (y == ("__debug__" : Str)) = false)
    (h1 : starEach (a :: [.Name y p3]) X.env = (false, eval a X.env) :: starEach [.Name y p3] X.env) :
    PE X (.Call (.Name "isinstance" p) [a, .Name y p3] [] pos) (tE X.K W (evIs T fa)) := by
  refine PE_imp (pe_callB call_isi hg hm boot_isinstance (pa_cons ha (pa_cons (pe_bltn (v := .ty T.name) hgT hmT hv rfl hn hdb) pa_nil) h1) (he := h1)) fun σ H Q hw => ?_
  obtain ⟨m, ρ, st, hsl, hst, hp⟩ := hw
  refine tE_seq hsl hst hp fun v H1 m1 d st1 x1 sl1 y1 rv1 p1 => ?_
  cases e : isD T d with
  | none => rw [e] at p1; exact p1.elim
  | some k =>
    rw [e] at p1
    obtain ⟨n, e1, e2⟩ := isD_kit e
    exact ⟨v, .ty T.name, .type n, .type T.name, k, rfl, .ty _, tyX_of y1 e1 rv1, kit_ty e2, p1 m1 H1 .refl y1 _ rBl⟩
end
end Ip
set_option Elab.async false
set_option linter.all false
set_option maxRecDepth 100000
set_option maxHeartbeats 4000000
namespace Ip
open PySem PySem.Spec PyProof.Rows L2

/-! ### enumerate of a tuple (one argument) -/
theorem mk_enum1 {v : Value} {ob : Obj} {P : Heap → Prop} (B : Begins v ob P) :
    Meets (Builtin.«enumerate.__new__» ⟨[.type "enumerate", v], []⟩) (fun _ R s => P s.heap ∧
      R (.ok (.ret (.ref (s.heap.push ob).objs.size))) { s with heap := (s.heap.push ob).push { cls := .type "enumerate", data := .fields #[.none, .bool false, .ref s.heap.objs.size, rawInt 0, .none, .none] } }) :=
  .of_wp fun prog w A R s hyp => by
    obtain ⟨hp0, g0, d0, t0, o0⟩ := s
    obtain ⟨hyp1, hyp2⟩ := hyp
    have hsub := sub_enumerate
    have gone : ∀ {A2 : Around} {E2 Q2 : Value → Shared → Prop}, Q2 (.ref hp0.objs.size) ⟨hp0.push ob, g0, d0, t0, o0⟩ → wpAny (model prog w) A2 (pyIter v) Q2 E2 ⟨hp0, g0, d0, t0, o0⟩ := fun q => B.iter prog w _ _ ⟨hp0, g0, d0, t0, o0⟩ _ hyp1 q
    wp_walk using gone
    refine wpAny_stack_any fun stk => wpAny_pure ?_
    split
    · rename_i c _ _ _ _ _
      cases (c == Value.type "enumerate")
      · wp_walk using gone
        exact ⟨_, rfl, hyp2⟩
      · wp_walk using gone
        exact ⟨_, rfl, hyp2⟩
    · wp_walk using gone
      exact ⟨_, rfl, hyp2⟩
theorem call_enum1 {prog : Program} {w : World} {A : Around} {E : Value → Shared → Prop} {s : Shared} {v : Value} {ob : Obj} {P : Heap → Prop} {Q : Value → Shared → Prop} (B : Begins v ob P) (hP : P s.heap)
    (k : ∀ h2, IsEnum h2 (s.heap.objs.size + 1) s.heap.objs.size 0 .none → h2.get? s.heap.objs.size = some ob → (∀ b u, s.heap.get? b = some u → h2.get? b = some u) → Q (.ref (s.heap.objs.size + 1)) { s with heap := h2 }) :
    wpAny (model prog w) A (call (.type "enumerate") [v]) Q E s := by
  refine callType_new F.called_enumerate (by decide) (F.typeCall_enumerate_1 _) (F.newCall_enumerate_1 _) (fun z => F.args_object_init_2 z _) F.entry_enumerate_new (mk_enum1 B) ⟨hP, ?_⟩
  have sz : (s.heap.push ob).objs.size = s.heap.objs.size + 1 := Heap.size_push ..
  show _ ∧ _
  rw [sz]
  have en : IsEnum ((s.heap.push ob).push { cls := .type "enumerate", data := .fields #[.none, .bool false, .ref s.heap.objs.size, rawInt 0, .none, .none] }) (s.heap.objs.size + 1) s.heap.objs.size 0 .none := by
    have z := Heap.get?_push_size (s.heap.push ob) (o := { cls := .type "enumerate", data := .fields #[.none, .bool false, .ref s.heap.objs.size, rawInt 0, .none, .none] }) rfl
    rw [sz] at z
    exact z
  exact ⟨⟨_, en, rfl⟩, k _ en (Heap.get?_push_of_some _ (Heap.get?_push_size _ B.free)) fun b u x => Heap.get?_push_of_some _ (Heap.get?_push_of_some _ x)⟩
/-- the tuple at a, each item in a new pair -/
def ItE (K : PySem.W.Frag) (a : Addr) : It :=
  ⟨fun i H => ∃ (xs : List V) (x : V), SqT K H a xs ∧ xs[i]? = some x, fun i H v H' => ∃ T x, v = .ref T ∧ H T = none ∧ H' = upd H T (.tup [.int (i : Nat), x]) ∧ ∀ xs, SqT K H a xs → xs[i]? = some x, fun i H => ∃ xs : List V, SqT K H a xs ∧ i = xs.length⟩
theorem turn_enT {P : Program} {w : World} {K : PySem.W.Frag} {elts : List Expr} {kk : Nat} {tpos : Pos} (a e it : Addr) (ae : a ≠ e) (ai : a ≠ it) (hne : e ≠ it) :
    Turn P w K (.Tuple elts kk tpos) (ItE K a) [e, it] e (fun i h => (∃ old, IsEnum h e it ((i : Nat) : Int) old) ∧ h.IsTupleIter it a i) where
  mem := by simp
  obj := fun i h st b hb => by
    obtain ⟨⟨old, he⟩, o, ho, hc, hd⟩ := st
    simp only [List.mem_cons, List.not_mem_nil, or_false] at hb
    rcases hb with z | z
    · rw [z]; exact ⟨_, he, fun v q => nomatch q⟩
    · rw [z]; exact ⟨o, ho, fun v q => by rw [hd] at q; cases q⟩
  keep := fun i h h' st k => by
    obtain ⟨⟨old, he⟩, hi⟩ := st
    exact ⟨⟨old, k e (by simp) _ he⟩, hi.at fun o q => k it (by simp) o q⟩
  item := by
    intro X eP ew eK hc i pins s σ H E I hf st hg
    subst eP ew eK
    obtain ⟨⟨old, he⟩, hit⟩ := st
    obtain ⟨xs, x, hq, hx⟩ := hg
    obtain ⟨its, rv, p, _⟩ := I.tuple hq
    obtain ⟨u, hu, ru⟩ := rv.get hx
    have el : e < s.heap.objs.size := Heap.lt_size he
    have il : it < s.heap.objs.size := by obtain ⟨_, q, _⟩ := id hit; exact Heap.lt_size q
    have dr := Draws.tuple (prog := X.prog) (w := X.w) (A := X.A.in1) (I.ok.hd hc) it a ai its.toArray
    have lt : i < its.toArray.size := by
      rw [List.size_toArray]
      exact (List.getElem?_eq_some_iff.mp hu).1
    refine wpAny_pyNext_enum_itemD dr he ⟨hit, p⟩ lt hne (by simp only [List.mem_cons, List.not_mem_nil, or_false]; exact fun z => z.elim hne fun q => ae q.symm) fun u' h1 tk e1 ho st1 hT _ hk => ?_
    obtain rfl : u' = u := by
      rw [List.getElem?_toArray, hu] at e1
      exact (Option.some.inj e1).symm
    refine ⟨_, rfl, wpAny_letOwnedTupleGo_enum (s := { s with heap := h1, toks := tk + 1 }) ho fun h2 he2 sb => ?_⟩
    have hT2 : h2.get? s.heap.objs.size = some { cls := .type "tuple", data := .seq #[.int i tk, u'] } := (sb.2 _ (Nat.ne_of_gt el)).trans hT
    have made : ObjOk X.prog X.w (upd H s.heap.objs.size (.tup [.int (i : Nat), x])) h2 s.heap.objs.size (.tup [.int (i : Nat), x]) := ⟨by show 2 ≤ sizeLine; decide, [.int i tk, u'], .cons ⟨_, rfl⟩ (.cons ru .nil), ⟨_, hT2, rfl, _, rfl⟩⟩
    have I1 : Inv X pins σ (upd H s.heap.objs.size (.tup [.int (i : Nat), x])) { s with heap := h2, toks := tk + 1 } := by
      refine I.turnedNew (ch := [e, it]) (fun b ob hb q => ?_) hf (Nat.le_refl _) made
      simp only [List.mem_cons, List.not_mem_nil, or_false, not_or] at hb
      exact (sb.2 b hb.1).trans (hk b ob hb.1 hb.2 q)
    refine ⟨.ref s.heap.objs.size, _, I1, rfl, ⟨_, x, rfl, I.hok.fresh (Nat.le_refl _), rfl, fun ys hy => by rw [I.tuple_inj hy hq]; exact hx⟩, ⟨⟨u', ?_⟩, st1.1.at fun o q => (sb.2 it (Ne.symm hne)).trans q⟩, fun b hb => ?_⟩
    · rw [show ((i + 1 : Nat) : Int) = (i : Int) + 1 by omega]
      exact he2
    · have lt' : b < s.heap.objs.size := by
        simp only [List.mem_cons, List.not_mem_nil, or_false] at hb
        rcases hb with z | z
        · rw [z]; exact el
        · rw [z]; exact il
      rw [upd_ne (Nat.ne_of_lt lt')]
      exact (hf b hb).1
  done := by
    intro X eP ew eK hc i pins s σ H E I hf st hg
    subst eP ew eK
    obtain ⟨⟨old, he⟩, hit⟩ := st
    obtain ⟨xs, hq, hx⟩ := hg
    obtain ⟨its, rv, p, _⟩ := I.tuple hq
    obtain ⟨f0, f1, f2, f3, f4, f5⟩ := hf it (by simp)
    have dr := Draws.tuple (prog := X.prog) (w := X.w) (A := X.A.in1) (I.ok.hd hc) it a ai its.toArray
    have es : i = its.toArray.size := by rw [List.size_toArray, ← rv.length]; exact hx
    refine wpAny_pyNext_enum_endD dr he ⟨es ▸ hit, p⟩ fun h1 eb => ⟨rfl, I.turned (t' := s.toks) (fun b o hb q => eb b o hb q) f0 f1 f3 f4 f5⟩
  self := fun A i s Q E st h => by
    obtain ⟨⟨_, he⟩, _⟩ := st
    exact wpAny_pyIter_enum he h
def iEnT (K : PySem.W.Frag) (ta : TA) : TI := fun σ H R => ta σ H fun vs H1 => ∃ a xs, vs = [.ref a] ∧ SqT K H1 a xs ∧ R (ItE K a) H1
theorem pi_enT {X : Cx} {e : Expr} {ta : TA} {p pos tpos : Pos} {elts : List Expr} {kk : Nat} (hg : Gl X "enumerate") (hm : X.mg "enumerate" = none) (ha : PA X [e] ta) (hs : starEach [e] X.env = [(false, eval e X.env)]) :
    PI X (.Tuple elts kk tpos) (.Call (.Name "enumerate" p) [e] [] pos) (iEnT X.K ta) := by
  refine ⟨fun pins s σ H R I h => ?_⟩
  refine Call_ (ld_blt I hg hm boot_enumerate (PyProof.Rows.callWith_type1 (thn (ha.run pos pins s σ H _ I h) fun us s1 ⟨vs, H1, I1, r1, q1⟩ => ?_) hs rfl))
  obtain ⟨a, xs, rfl, hq, q⟩ := q1
  obtain ⟨u, rfl, r⟩ := vals1 r1
  cases r
  obtain ⟨its, rv, p', _⟩ := I1.tuple hq
  have al : a < s1.heap.objs.size := by obtain ⟨_, z, _⟩ := id p'; exact Heap.lt_size z
  refine call_enum1 (begins_tuple a its.toArray) p' fun h2 he ho hk => wpAny_pyIter_enum he ?_
  have I2 : Inv X pins σ H1 { s1 with heap := h2 } := I1.kept (t' := s1.toks) hk
  refine ⟨s1.heap.objs.size + 1, [s1.heap.objs.size + 1, s1.heap.objs.size], _, _, H1, rfl, I2, turn_enT a (s1.heap.objs.size + 1) s1.heap.objs.size (Nat.ne_of_lt (Nat.lt_succ_of_lt al)) (Nat.ne_of_lt al) (Nat.succ_ne_self _), ⟨⟨.none, he⟩, ⟨_, ho, rfl, rfl⟩⟩, fun b hb => ?_, q⟩
  have le : s1.heap.objs.size ≤ b := by
    simp only [List.mem_cons, List.not_mem_nil, or_false] at hb
    rcases hb with z | z
    · rw [z]; exact Nat.le_add_right _ _
    · rw [z]; exact Nat.le_refl _
  exact I1.fpOk le (I1.hok.fresh le)
end Ip
set_option Elab.async false
set_option linter.all false
set_option maxRecDepth 100000
set_option maxHeartbeats 4000000
namespace Ip
open PySem PySem.Spec PyProof.Rows L2

/-! ### forgotten slots -/
def wipeS (ρ : Sl) : List Nat → Sl
  | [] => ρ
  | v :: vs => (wipeS ρ vs).set v none
theorem wipe_self {σ : L2.St} {j : Nat} : ∀ {vs : List Nat}, j ∈ vs → (wipe σ vs)[j]? = if j < σ.length then some none else none
  | [], h => nomatch h
  | v :: vs, h => by
    show ((wipe σ vs).set v none)[j]? = _
    rw [List.getElem?_set]
    by_cases hv : v = j
    · rw [if_pos hv, wipe_length, hv]
    · rw [if_neg hv]
      exact wipe_self ((List.mem_cons.mp h).resolve_left fun z => hv z.symm)
theorem wipe_get (σ : L2.St) (vs : List Nat) (j : Nat) : (wipe σ vs)[j]? = if j ∈ vs then (if j < σ.length then some none else none) else σ[j]? := by
  by_cases h : j ∈ vs
  · rw [if_pos h, wipe_self h]
  · rw [if_neg h, wipe_out h]
/-- the slots but those of vs are the same -/
def Same (ts : List Nat) (σ σ' : L2.St) : Prop := σ'.length = σ.length ∧ ∀ j, j ∉ ts → σ'[j]? = σ[j]?
theorem Same.rfl' {ts : List Nat} {σ : L2.St} : Same ts σ σ := ⟨rfl, fun _ _ => rfl⟩
theorem Same.trans {ts us : List Nat} {σ σ1 σ2 : L2.St} (a : Same ts σ σ1) (b : Same us σ1 σ2) : Same (ts ++ us) σ σ2 :=
  ⟨b.1.trans a.1, fun j h => by rw [List.mem_append, not_or] at h; exact (b.2 j h.2).trans (a.2 j h.1)⟩
theorem Same.set {i : Nat} {σ : L2.St} {v : Option V} : Same [i] σ (σ.set i v) := ⟨List.length_set, fun j h => by
  rw [List.getElem?_set_ne fun z => h (by rw [z]; exact List.mem_singleton.mpr rfl)]⟩
theorem Same.wipe {ts vs : List Nat} {σ σ' : L2.St} (h : Same ts (L2.wipe σ vs) σ') (hs : ∀ i ∈ ts, i ∈ vs) : L2.wipe σ' vs = L2.wipe σ vs := by
  have hl : σ'.length = σ.length := h.1.trans (wipe_length _ _)
  apply List.ext_getElem?
  intro j
  rw [wipe_get, wipe_get, hl]
  by_cases hj : j ∈ vs
  · rw [if_pos hj, if_pos hj]
  · rw [if_neg hj, if_neg hj, h.2 j fun z => hj (hs j z), wipe_get, if_neg hj]
theorem wipeS_length (ρ : Sl) : ∀ vs : List Nat, (wipeS ρ vs).length = ρ.length
  | [] => rfl
  | v :: vs => by unfold wipeS; rw [List.length_set, wipeS_length ρ vs]
theorem RepSl.wipe {K : PySem.W.Frag} {m : MX} {H : Hp} {ρ : Sl} {σ : L2.St} (h : RepSl K m H ρ σ) : ∀ vs : List Nat, RepSl K m H (wipeS ρ vs) (L2.wipe σ vs)
  | [] => h
  | v :: vs => by
    have ih := RepSl.wipe h vs
    refine ⟨by rw [wipeS_length, wipe_length, h.1], fun i d q => ?_⟩
    have q : ((wipeS ρ vs).set v none)[i]? = some (some d) := q
    show ∃ w, ((L2.wipe σ vs).set v none)[i]? = some (some w) ∧ _
    by_cases hv : v = i
    · rw [List.getElem?_set, if_pos hv] at q
      split at q <;> cases q
    · rw [List.getElem?_set_ne hv] at q ⊢
      exact ih.2 i d q

/-! ### targets -/
abbrev Tg := D → Sl → Option Sl
abbrev Tgs := List D → Sl → Option Sl
def tG (K : PySem.W.Frag) (ts : List Nat) (f : Tg) : TG := fun v σ H Q => ∃ m d ρ ρ', RepSl K m H ρ σ ∧ Rep K m H d v ∧ f d ρ = some ρ' ∧ ∀ σ', RepSl K m H ρ' σ' → Same ts σ σ' → Q σ' H
def tGs (K : PySem.W.Frag) (ts : List Nat) (f : Tgs) : TGs := fun vs σ H Q => ∃ m ds ρ ρ', RepSl K m H ρ σ ∧ Reps K m H ds vs ∧ f ds ρ = some ρ' ∧ ∀ σ', RepSl K m H ρ' σ' → Same ts σ σ' → Q σ' H
def gN (i : Nat) : Tg := fun d ρ => some (ρ.set i (some d))
def gsNil : Tgs := fun ds ρ => match ds with
  | [] => some ρ
  | _ => none
def gsCons (f : Tg) (g : Tgs) : Tgs := fun ds ρ => match ds with
  | d :: r => (f d ρ).bind (g r)
  | _ => none
def gT (n : Nat) (f : Tgs) : Tg := fun d ρ => match d with
  | .tup ds => if ds.length = n then f ds ρ else none
  | _ => none
section
variable {X : Cx} {pos : Pos} {e : Expr} {es : List Expr} {ts us : List Nat} {f : Tg} {g : Tgs}
theorem PG_imp {t t' : TG} (h : PG X e t) (k : ∀ v σ H Q, t' v σ H Q → t v σ H Q) : PG X e t' := ⟨fun pins s σ H v u Q I r q => h.run pins s σ H v u Q I r (k v σ H Q q)⟩
theorem PGs_imp {t t' : TGs} (h : PGs X es t) (k : ∀ v σ H Q, t' v σ H Q → t v σ H Q) : PGs X es t' := ⟨fun pins s σ H v u Q I r q => h.run pins s σ H v u Q I r (k v σ H Q q)⟩
theorem g_name {i : Nat} {x : Str} (hN : X.N.Nodup) (hi : X.N[i]? = some x) (hx : Loc X.env.scope x) (hf : X.fn x = true ∨ X.env.scope.names.lookup x = some .local) : PG X (.Name x pos) (tG X.K [i] (gN i)) := by
  refine PG_imp (pg_name hN hi hx hf) fun v σ H Q hw => ?_
  obtain ⟨m, d, ρ, ρ', hsl, r, e, k⟩ := hw
  cases e
  exact k _ (hsl.set r) .set
theorem gs_nil : PGs X [] (tGs X.K [] gsNil) := by
  refine PGs_imp pgs_nil fun vs σ H Q hw => ?_
  obtain ⟨m, ds, ρ, ρ', hsl, r, e, k⟩ := hw
  cases ds with
  | nil => cases e; exact ⟨r.nil_inv, k _ hsl .rfl'⟩
  | cons _ _ => cases e
theorem gs_cons (h1 : PG X e (tG X.K ts f)) (h2 : PGs X es (tGs X.K us g)) (hs : (assignEach (e :: es) X.env).map (·.2) = assign e X.env :: (assignEach es X.env).map (·.2)) : PGs X (e :: es) (tGs X.K (ts ++ us) (gsCons f g)) := by
  refine PGs_imp (pgs_cons h1 h2 hs) fun vs σ H Q hw => ?_
  obtain ⟨m, ds, ρ, ρ', hsl, r, e, k⟩ := hw
  cases ds with
  | nil => cases e
  | cons d ds =>
    obtain ⟨v, vr, rfl, r1, r2⟩ := r.cons_inv
    obtain ⟨ρ1, e1, e2⟩ := Option.bind_eq_some_iff.mp e
    refine ⟨v, vr, rfl, m, d, ρ, ρ1, hsl, r1, e1, fun σ1 hsl1 s1 => ?_⟩
    exact ⟨m, ds, ρ1, ρ', hsl1, r2, e2, fun σ2 hsl2 s2 => k σ2 hsl2 (s1.trans s2)⟩
theorem g_tup {n k : Nat} (hc : X.calm = true) (h : PGs X es (tGs X.K ts g)) (hn : (assignEach es X.env).length = n) (hst : (assignEach es X.env).findIdx? (·.1) = none) : PG X (.Tuple es k pos) (tG X.K ts (gT n g)) := by
  refine PG_imp (pg_tup hc h hn hst) fun v σ H Q hw => ?_
  obtain ⟨m, d, ρ, ρ', hsl, r, e, k⟩ := hw
  cases d with
  | tup ds =>
    have e : (if ds.length = n then g ds ρ else none) = some ρ' := e
    split at e
    · rename_i hl
      obtain ⟨a, vs, rfl, h1, h2⟩ := tup_rep r
      exact ⟨a, vs, rfl, h1, by rw [h2.len]; exact hl, m, ds, ρ, ρ', hsl, h2, e, k⟩
    · cases e
  | _ => cases e
end

/-! ### what is walked -/
structure Yields (K : PySem.W.Frag) (m : MX) (H : Hp) (J : It) (ds : List D) : Prop where
  go : ∀ m' H' i, Wk m H m' H' → i < ds.length → J.go i H'
  yl : ∀ m' H' i v H'' d, Wk m H m' H' → ds[i]? = some d → J.yld i H' v H'' → (H'' = H' ∨ ∃ T xs, H' T = none ∧ H'' = upd H' T (.tup xs)) ∧ Rep K m' H'' d v
  st : ∀ m' H', Wk m H m' H' → J.stop ds.length H'
def tI (K : PySem.W.Frag) (W : WX) (f : Ea) : TI := fun σ H R => ∃ m ρ st, RepSl K m H ρ σ ∧ RepSt K m H st ∧ Post K W σ m H (f ρ st) fun ds _ m' H' => ∀ J, Yields K m' H' J ds → R J H'
theorem PI_imp {X : Cx} {tg e : Expr} {t t' : TI} (h : PI X tg e t) (k : ∀ σ H R, t' σ H R → t σ H R) : PI X tg e t' := ⟨fun pins s σ H R I q => h.run pins s σ H R I (k σ H R q)⟩
/-- items that nobody changes -/
def fixed : D → Option (List D)
  | .tup xs => some xs
  | .lst xs => some xs
  | .scr xs => some xs
  | _ => none
section
variable {K : PySem.W.Frag} {m m' : MX} {H H' : Hp} {a : Addr} {xs ys : List D} {vs us : List V}
/-- a list that nobody changes -/
def Fix (K : PySem.W.Frag) (m : MX) (H : Hp) (a : Addr) (vs : List V) : Prop := (Rd H a (.lst vs) ∧ ¬ m.has a) ∨ ∀ H', SqL K H' a vs
theorem Fix.sq (h : Fix K m H a vs) : SqL K H a vs := h.elim (fun z => .inl z.1) fun z => z H
theorem Fix.wk (e : Wk m H m' H') (h : Fix K m H a vs) : Fix K m' H' a vs := h.imp (fun ⟨x, y⟩ => e.rd x y) id
theorem yl_list (h : Fix K m H a vs) (r : Reps K m H xs vs) : Yields K m H (Itl K a) xs where
  go := fun m' H' i e hi => by
    rw [← r.len] at hi
    exact ⟨vs, vs[i], (h.wk e).sq, List.getElem?_eq_getElem hi⟩
  yl := fun m' H' i v H'' d e hd y => by
    obtain ⟨rfl, y⟩ := y
    obtain ⟨w, hw, rw'⟩ := (r.wk e).get hd
    have := y vs (h.wk e).sq
    rw [hw] at this; cases this
    exact ⟨.inl rfl, rw'⟩
  st := fun m' H' e => ⟨vs, (h.wk e).sq, Nat.le_of_eq r.len⟩
theorem yl_tup (h : SqT K H a vs) (r : Reps K m H xs vs) : Yields K m H (Itt K a) xs where
  go := fun m' H' i e hi => by
    rw [← r.len] at hi
    exact ⟨vs, vs[i], e.sqT h, List.getElem?_eq_getElem hi⟩
  yl := fun m' H' i v H'' d e hd y => by
    obtain ⟨rfl, y⟩ := y
    obtain ⟨w, hw, rw'⟩ := (r.wk e).get hd
    have := y vs (e.sqT h)
    rw [hw] at this; cases this
    exact ⟨.inl rfl, rw'⟩
  st := fun m' H' e => ⟨vs, e.sqT h, Nat.le_of_eq r.len⟩
def rng (lo : Int) (n : Nat) : List D := (List.range n).map fun (i : Nat) => D.int (lo + i)
theorem yl_range {lo : Int} {n : Nat} : Yields K m H (Itr lo n) (rng lo n) where
  go := fun m' H' i e hi => by
    show i < n
    simpa [rng] using hi
  yl := fun m' H' i v H'' d e hd y => by
    obtain ⟨rfl, rfl⟩ := y
    simp only [rng, List.getElem?_map] at hd
    obtain ⟨j, hj, rfl⟩ := Option.map_eq_some_iff.mp hd
    rw [List.getElem?_range (by
      have := (List.getElem?_eq_some_iff.mp hj).1
      simpa using this)] at hj
    cases hj
    exact ⟨.inl rfl, rInt⟩
  st := fun m' H' e => by show n ≤ _; simp [rng]
/-- pairs of a number and an item -/
def pairN (xs : List D) : List D := xs.zipIdx.map fun p => .tup [.int (p.2 : Nat), p.1]
theorem pairN_len : (pairN xs).length = xs.length := by simp [pairN]
theorem pairN_get {i : Nat} {d : D} (h : (pairN xs)[i]? = some d) : ∃ x, xs[i]? = some x ∧ d = .tup [.int (i : Nat), x] := by
  simp only [pairN, List.getElem?_map, List.getElem?_zipIdx] at h
  obtain ⟨p, hp, rfl⟩ := Option.map_eq_some_iff.mp h
  obtain ⟨x, hx, rfl⟩ := Option.map_eq_some_iff.mp hp
  exact ⟨x, hx, by simp⟩
theorem tup2_new {T : Addr} {H' : Hp} {x y : D} {v w : V} (hn : H' T = none) (r1 : Rep K m H' x v) (r2 : Rep K m H' y w) : Rep K m (upd H' T (.tup [v, w])) (.tup [x, y]) (.ref T) := by
  simp only [Rep]
  exact ⟨T, [v, w], rfl, .inl (.inl upd_same), .cons (r1.mono (.new hn)) (.cons (r2.mono (.new hn)) .nil)⟩
theorem yl_enL (h : Fix K m H a vs) (r : Reps K m H xs vs) : Yields K m H (Ite K a) (pairN xs) where
  go := fun m' H' i e hi => by
    rw [pairN_len, ← r.len] at hi
    exact ⟨vs, vs[i], (h.wk e).sq, List.getElem?_eq_getElem hi⟩
  yl := fun m' H' i v H'' d e hd y => by
    obtain ⟨T, x, rfl, hn, rfl, y⟩ := y
    obtain ⟨z, hz, rfl⟩ := pairN_get hd
    obtain ⟨w, hw, rw'⟩ := (r.wk e).get hz
    have := y vs (h.wk e).sq
    rw [hw] at this; cases this
    exact ⟨.inr ⟨T, _, hn, rfl⟩, tup2_new hn rInt rw'⟩
  st := fun m' H' e => ⟨vs, (h.wk e).sq, by rw [pairN_len, r.len]; exact Nat.le_refl _⟩
theorem yl_enT (h : SqT K H a vs) (r : Reps K m H xs vs) : Yields K m H (ItE K a) (pairN xs) where
  go := fun m' H' i e hi => by
    rw [pairN_len, ← r.len] at hi
    exact ⟨vs, vs[i], e.sqT h, List.getElem?_eq_getElem hi⟩
  yl := fun m' H' i v H'' d e hd y => by
    obtain ⟨T, x, rfl, hn, rfl, y⟩ := y
    obtain ⟨z, hz, rfl⟩ := pairN_get hd
    obtain ⟨w, hw, rw'⟩ := (r.wk e).get hz
    have := y vs (e.sqT h)
    rw [hw] at this; cases this
    exact ⟨.inr ⟨T, _, hn, rfl⟩, tup2_new hn rInt rw'⟩
  st := fun m' H' e => ⟨vs, e.sqT h, by rw [pairN_len, r.len]⟩
def pairZ (xs ys : List D) : List D := (xs.zip ys).map fun p => .tup [p.1, p.2]
theorem pairZ_get {i : Nat} {d : D} (h : (pairZ xs ys)[i]? = some d) : ∃ x y, xs[i]? = some x ∧ ys[i]? = some y ∧ d = .tup [x, y] := by
  simp only [pairZ, List.getElem?_map] at h
  obtain ⟨p, hp, rfl⟩ := Option.map_eq_some_iff.mp h
  rw [List.getElem?_zip_eq_some] at hp
  exact ⟨p.1, p.2, hp.1, hp.2, rfl⟩
theorem pairZ_len : (pairZ xs ys).length = min xs.length ys.length := by simp [pairZ]
theorem yl_zipL {b : Addr} (h : Fix K m H a vs) (r : Reps K m H xs vs) (h' : Fix K m H b us) (r' : Reps K m H ys us) : Yields K m H (Itz K a b) (pairZ xs ys) where
  go := fun m' H' i e hi => by
    rw [pairZ_len, ← r.len, ← r'.len] at hi
    exact ⟨vs, us, vs[i]'(by omega), us[i]'(by omega), (h.wk e).sq, (h'.wk e).sq, List.getElem?_eq_getElem _, List.getElem?_eq_getElem _⟩
  yl := fun m' H' i v H'' d e hd y => by
    obtain ⟨T, x, z, rfl, hn, rfl, y1, y2⟩ := y
    obtain ⟨x', z', hx, hz, rfl⟩ := pairZ_get hd
    obtain ⟨w, hw, rw'⟩ := (r.wk e).get hx
    obtain ⟨w2, hw2, rw2⟩ := (r'.wk e).get hz
    have a1 := y1 vs (h.wk e).sq
    have a2 := y2 us (h'.wk e).sq
    rw [hw] at a1; cases a1
    rw [hw2] at a2; cases a2
    exact ⟨.inr ⟨T, _, hn, rfl⟩, tup2_new hn rw' rw2⟩
  st := fun m' H' e => ⟨vs, us, (h.wk e).sq, (h'.wk e).sq, by rw [pairZ_len, r.len, r'.len]; omega⟩
theorem yl_zipT {b : Addr} (h : SqT K H a vs) (r : Reps K m H xs vs) (h' : SqT K H b us) (r' : Reps K m H ys us) : Yields K m H (RZ.ItzT K a b) (pairZ xs ys) where
  go := fun m' H' i e hi => by
    rw [pairZ_len, ← r.len, ← r'.len] at hi
    exact ⟨vs, us, vs[i]'(by omega), us[i]'(by omega), e.sqT h, e.sqT h', List.getElem?_eq_getElem _, List.getElem?_eq_getElem _⟩
  yl := fun m' H' i v H'' d e hd y => by
    obtain ⟨T, x, z, rfl, hn, rfl, y1, y2⟩ := y
    obtain ⟨x', z', hx, hz, rfl⟩ := pairZ_get hd
    obtain ⟨w, hw, rw'⟩ := (r.wk e).get hx
    obtain ⟨w2, hw2, rw2⟩ := (r'.wk e).get hz
    have a1 := y1 vs (e.sqT h)
    have a2 := y2 us (e.sqT h')
    rw [hw] at a1; cases a1
    rw [hw2] at a2; cases a2
    exact ⟨.inr ⟨T, _, hn, rfl⟩, tup2_new hn rw' rw2⟩
  st := fun m' H' e => ⟨vs, us, e.sqT h, e.sqT h', by rw [pairZ_len, r.len, r'.len]; omega⟩
end
section
variable {X : Cx} {W : WX} {tg e a b : Expr} {p pos tpos : Pos} {elts : List Expr} {kk : Nat}
theorem lst_rep {K : PySem.W.Frag} {m : MX} {H : Hp} {xs : List D} {v : V} (r : Rep K m H (.lst xs) v) : ∃ a vs, v = .ref a ∧ Fix K m H a vs ∧ Reps K m H xs vs := by
  simp only [Rep] at r
  obtain ⟨a, vs, rfl, h1, h2, h3⟩ := r
  exact ⟨a, vs, rfl, .inl ⟨h1, h2⟩, h3⟩
theorem scr_rep {K : PySem.W.Frag} {m : MX} {H : Hp} {xs : List D} {v : V} (r : Rep K m H (.scr xs) v) : ∃ a vs, v = .ref a ∧ Fix K m H a vs ∧ Reps K m H xs vs := by
  simp only [Rep] at r
  obtain ⟨a, vs, rfl, h1, h3⟩ := r
  exact ⟨a, vs, rfl, h1, h3⟩
/-- a list or a tuple -/
def itVal (f : Ev) : Ea := fun ρ st => (f ρ st).bind fun d st1 => .lift (fixed d) st1
theorem i_val {f : Ev} (h : PE X e (tE X.K W f)) : PI X tg e (tI X.K W (itVal f)) := by
  refine ⟨fun pins s σ H R I hw => ?_⟩
  obtain ⟨m, ρ, st, hsl, hst, hp⟩ := hw
  have viaL : (∀ d st1, f ρ st = .ok d st1 → (∃ xs, d = .lst xs) ∨ ∃ xs, d = .scr xs) → wpAny (model X.prog X.w) X.A (eval e X.env) (fun v s1 => wpAny (model X.prog X.w) X.A (pyIter v) (PIE X pins σ tg R) X.xe s1) X.xe s := fun hd => by
    refine (pi_list h).run pins s σ H R I ?_
    refine ⟨m, ρ, st, hsl, hst, ?_⟩
    unfold itVal at hp
    cases e1 : f ρ st with
    | ok d st1 =>
      rw [e1] at hp
      intro m1 H1 x y v rv
      rcases hd d st1 e1 with ⟨xs, rfl⟩ | ⟨xs, rfl⟩
      · obtain ⟨a, vs, rfl, h1, h2⟩ := lst_rep rv
        exact ⟨a, rfl, ⟨vs, h1.sq⟩, hp m1 H1 x y _ (yl_list h1 h2)⟩
      · obtain ⟨a, vs, rfl, h1, h2⟩ := scr_rep rv
        exact ⟨a, rfl, ⟨vs, h1.sq⟩, hp m1 H1 x y _ (yl_list h1 h2)⟩
    | exc c st1 => rw [e1] at hp; exact hp
    | bad => rw [e1] at hp; exact hp
  cases e1 : f ρ st with
  | ok d st1 =>
    cases d with
    | lst xs => exact viaL fun d' st' z => by rw [e1] at z; cases z; exact .inl ⟨_, rfl⟩
    | scr xs => exact viaL fun d' st' z => by rw [e1] at z; cases z; exact .inr ⟨_, rfl⟩
    | tup xs =>
      refine (pi_tup h).run pins s σ H R I ?_
      refine ⟨m, ρ, st, hsl, hst, ?_⟩
      unfold itVal at hp
      rw [e1] at hp ⊢
      intro m1 H1 x y v rv
      obtain ⟨a, vs, rfl, h1, h2⟩ := tup_rep rv
      exact ⟨a, rfl, ⟨vs, h1⟩, hp m1 H1 x y _ (yl_tup h1 h2)⟩
    | _ => unfold itVal at hp; rw [e1] at hp; exact hp.elim
  | exc c st1 => exact viaL fun d' st' z => by rw [e1] at z; cases z
  | bad => exact viaL fun d' st' z => by rw [e1] at z; cases z
def itR1 (g : Ea) : Ea := fun ρ st => (g ρ st).bind fun ds st1 => match ds with
  | [.int j] => if -(2 ^ 62) ≤ j ∧ j < 2 ^ 62 then .ok (rng 0 j.toNat) st1 else .bad
  | _ => .bad
def itR2 (g : Ea) : Ea := fun ρ st => (g ρ st).bind fun ds st1 => match ds with
  | [.int i, .int j] => if (-(2 ^ 62) ≤ i ∧ i < 2 ^ 62) ∧ -(2 ^ 62) ≤ j ∧ j < 2 ^ 62 then .ok (rng i (j - i).toNat) st1 else .bad
  | _ => .bad
theorem i_range1 {g : Ea} (hg : Gl X "range") (hm : X.mg "range" = none) (ha : PA X [a] (tA X.K W g)) (hs : starEach [a] X.env = [(false, eval a X.env)]) : PI X tg (.Call (.Name "range" p) [a] [] pos) (tI X.K W (itR1 g)) := by
  refine PI_imp (pi_range1 hg hm ha hs) fun σ H R hw => ?_
  obtain ⟨m, ρ, st, hsl, hst, hp⟩ := hw
  refine tA_seq hsl hst hp fun vs H1 m1 ds st1 x sl1 y rv p1 => ?_
  split at p1
  · rename_i j
    obtain ⟨v, rfl, r⟩ := reps1 rv
    obtain rfl := iInt r
    split at p1
    · rename_i hj
      exact ⟨j, rfl, hj.1, hj.2, p1 m1 H1 .refl y _ yl_range⟩
    · exact p1.elim
  · exact p1.elim
theorem i_range2 {g : Ea} (hg : Gl X "range") (hm : X.mg "range" = none) (ha : PA X [a, b] (tA X.K W g)) (hs : starEach [a, b] X.env = [(false, eval a X.env), (false, eval b X.env)]) (hs2 : starEach [b] X.env = [(false, eval b X.env)]) : PI X tg (.Call (.Name "range" p) [a, b] [] pos) (tI X.K W (itR2 g)) := by
  refine PI_imp (pi_range2 hg hm ha hs hs2) fun σ H R hw => ?_
  obtain ⟨m, ρ, st, hsl, hst, hp⟩ := hw
  refine tA_seq hsl hst hp fun vs H1 m1 ds st1 x sl1 y rv p1 => ?_
  split at p1
  · rename_i i j
    obtain ⟨v, w, rfl, r, r'⟩ := reps2 rv
    obtain rfl := iInt r
    obtain rfl := iInt r'
    split at p1
    · rename_i hj
      exact ⟨i, j, rfl, ⟨hj.1.1, hj.1.2, hj.2.1, hj.2.2⟩, p1 m1 H1 .refl y _ yl_range⟩
    · exact p1.elim
  · exact p1.elim
def itEn (g : Ea) : Ea := fun ρ st => (g ρ st).bind fun ds st1 => .lift (one1 (fun d => (fixed d).map pairN) ds) st1
theorem i_enum {g : Ea} (hg : Gl X "enumerate") (hm : X.mg "enumerate" = none) (ha : PA X [a] (tA X.K W g)) (hs : starEach [a] X.env = [(false, eval a X.env)]) : PI X (.Tuple elts kk tpos) (.Call (.Name "enumerate" p) [a] [] pos) (tI X.K W (itEn g)) := by
  refine ⟨fun pins s σ H R I hw => ?_⟩
  obtain ⟨m, ρ, st, hsl, hst, hp⟩ := hw
  unfold itEn at hp
  have viaL : (∀ ds st1, g ρ st = .ok ds st1 → (∃ xs, ds = [.lst xs]) ∨ ∃ xs, ds = [.scr xs]) → wpAny (model X.prog X.w) X.A (eval (.Call (.Name "enumerate" p) [a] [] pos) X.env) (fun v s1 => wpAny (model X.prog X.w) X.A (pyIter v) (PIE X pins σ (.Tuple elts kk tpos) R) X.xe s1) X.xe s := fun hd => by
    refine (pi_enum hg hm ha hs).run pins s σ H R I ?_
    refine ⟨m, ρ, st, hsl, hst, ?_⟩
    cases e1 : g ρ st with
    | ok d st1 =>
      rw [e1] at hp
      intro m1 H1 x y v rv
      rcases hd d st1 e1 with ⟨xs, rfl⟩ | ⟨xs, rfl⟩
      · obtain ⟨v, rfl, r⟩ := reps1 rv
        obtain ⟨a, vs, rfl, h1, h2⟩ := lst_rep r
        exact ⟨a, vs, rfl, h1.sq, hp m1 H1 x y _ (yl_enL h1 h2)⟩
      · obtain ⟨v, rfl, r⟩ := reps1 rv
        obtain ⟨a, vs, rfl, h1, h2⟩ := scr_rep r
        exact ⟨a, vs, rfl, h1.sq, hp m1 H1 x y _ (yl_enL h1 h2)⟩
    | exc c st1 => rw [e1] at hp; exact hp
    | bad => rw [e1] at hp; exact hp
  cases e1 : g ρ st with
  | ok ds st1 =>
    rw [e1] at hp
    cases e2 : one1 (fun d => (fixed d).map pairN) ds with
    | none => simp only [Ip.R.bind_ok, e2] at hp; exact hp.elim
    | some zs =>
      simp only [Ip.R.bind_ok, e2] at hp
      obtain ⟨d, rfl, e3⟩ := one1_inv e2
      obtain ⟨xs, e4, rfl⟩ := Option.map_eq_some_iff.mp e3
      cases d with
      | lst ys => exact viaL fun d' st' z => by rw [e1] at z; cases z; exact .inl ⟨_, rfl⟩
      | scr ys => exact viaL fun d' st' z => by rw [e1] at z; cases z; exact .inr ⟨_, rfl⟩
      | tup ys =>
        cases e4
        refine (pi_enT hg hm ha hs).run pins s σ H R I ?_
        refine ⟨m, ρ, st, hsl, hst, ?_⟩
        rw [e1]
        intro m1 H1 x y v rv
        obtain ⟨v, rfl, r⟩ := reps1 rv
        obtain ⟨a, vs, rfl, h1, h2⟩ := tup_rep r
        exact ⟨a, vs, rfl, h1, hp m1 H1 x y _ (yl_enT h1 h2)⟩
      | _ => cases e4
  | exc c st1 => exact viaL fun d' st' z => by rw [e1] at z; cases z
  | bad => exact viaL fun d' st' z => by rw [e1] at z; cases z
def zipD : List D → Option (List D)
  | [.tup xs, .tup ys] => some (pairZ xs ys)
  | [x, y] => match x, y with
    | .tup _, _ => none
    | _, .tup _ => none
    | x, y => match fixed x, fixed y with
      | some xs, some ys => some (pairZ xs ys)
      | _, _ => none
  | _ => none
def itZip (g : Ea) : Ea := fun ρ st => (g ρ st).bind fun ds st1 => .lift (zipD ds) st1
theorem fix_rep {K : PySem.W.Frag} {m : MX} {H : Hp} {d : D} {xs : List D} {v : V} (h : fixed d = some xs) (nt : ∀ ys, d ≠ .tup ys) (r : Rep K m H d v) : ∃ a vs, v = .ref a ∧ Fix K m H a vs ∧ Reps K m H xs vs := by
  cases d with
  | tup ys => exact absurd rfl (nt ys)
  | lst ys => cases h; exact lst_rep r
  | scr ys => cases h; exact scr_rep r
  | _ => cases h
theorem i_zip {g : Ea} (hg : Gl X "zip") (hm : X.mg "zip" = none) (ha : PA X [a, b] (tA X.K W g)) (hs : starEach [a, b] X.env = (false, eval a X.env) :: starEach [b] X.env) (hpl : (backTo pos (starEach [b] X.env)).any (·.1) = false) : PI X (.Tuple elts kk tpos) (.Call (.Name "zip" p) [a, b] [] pos) (tI X.K W (itZip g)) := by
  refine PI_imp (RZ.pi_zipA hg hm ha hs hpl) fun σ H R hw => ?_
  obtain ⟨m, ρ, st, hsl, hst, hp⟩ := hw
  refine tA_seq hsl hst hp fun vs H1 m1 ds st1 x sl1 y rv p1 => ?_
  cases e : zipD ds with
  | none => rw [e] at p1; exact p1.elim
  | some zs =>
    rw [e] at p1
    unfold zipD at e
    split at e
    · rename_i xs ys
      cases e
      obtain ⟨v, w, rfl, r, r'⟩ := reps2 rv
      obtain ⟨a, vs, rfl, h1, h2⟩ := tup_rep r
      obtain ⟨b, us, rfl, h1', h2'⟩ := tup_rep r'
      exact ⟨a, b, vs, us, rfl, .inr ⟨h1, h1', p1 m1 H1 .refl y _ (yl_zipT h1 h2 h1' h2')⟩⟩
    · rename_i d d' _
      split at e
      · cases e
      · cases e
      · rename_i n1 n2
        split at e
        · rename_i xs ys e1 e2
          cases e
          obtain ⟨v, w, rfl, r, r'⟩ := reps2 rv
          obtain ⟨a, vs, rfl, h1, h2⟩ := fix_rep e1 (fun ys z => n1 ys z) r
          obtain ⟨b, us, rfl, h1', h2'⟩ := fix_rep e2 (fun ys z => n2 ys z) r'
          exact ⟨a, b, vs, us, rfl, .inl ⟨h1.sq, h1'.sq, p1 m1 H1 .refl y _ (yl_zipL h1 h2 h1' h2')⟩⟩
        · cases e
    · cases e
end
end Ip
set_option Elab.async false
set_option linter.all false
set_option maxRecDepth 100000
set_option maxHeartbeats 4000000
namespace Ip
open PySem PySem.Spec PyProof.Rows L2

/-! ### a list that is being made -/
section
variable {K : PySem.W.Frag} {m m' m1 m2 m3 : MX} {H H' H1 H2 H3 : Hp} {st st' : Sto} {D : Addr} {acc : List Ip.D}
theorem Ext.chx {y : List Addr} (e : Ext K m H m' H') : Ext K ⟨m.l, y⟩ H ⟨m'.l, y⟩ H' := by
  obtain ⟨r, e1, f1⟩ := e.pre
  exact ⟨⟨r, by rw [e1]; rfl, f1⟩, e.kp, e.kt, e.kz, e.th⟩
theorem Ext.put {u : HO} (e : Ext K m1 H1 m H) (hD : H1 D = none) : Ext K m1 H1 m (upd H D u) :=
  ⟨e.pre, fun a o h n => by rw [upd_ne (ne_of_none h hD)]; exact e.kp a o h n, fun a xs h => by rw [upd_ne (ne_of_none h hD)]; exact e.kt a xs h, fun a o z h => by rw [upd_ne (ne_of_none h hD)]; exact e.kz a o z h, fun a h => by
    by_cases hb : a = D
    · rw [hb]; exact hD
    · rw [upd_ne hb] at h; exact e.th a h⟩
theorem Wk.put {vs vs' : List V} (hD : D ∈ m.x) (h : H D = some (.lst vs)) : Wk m H m (upd H D (.lst vs')) := by
  refine ⟨fun a o e n => ⟨?_, n⟩, fun a xs e => ?_, fun a o u e => ?_, fun _ _ e => e⟩
  · rw [upd_ne (fun z => n (.inr (by rw [z]; exact hD)))]; exact e
  · rw [upd_ne (ne_of e h (by intro z; cases z))]; exact e
  · rw [upd_ne (ne_of e h (by intro z; cases z))]; exact e
theorem RepSt.put {vs vs' : List V} (hst : RepSt K m H st) (hD : D ∈ m.x) (h : H D = some (.lst vs)) : RepSt K m (upd H D (.lst vs')) st := by
  refine ⟨hst.len, hst.nd, fun n xs q => ?_, fun a ha => ?_⟩
  · obtain ⟨a, us, h1, h2, h3⟩ := hst.get q
    refine ⟨a, us, h1, ?_, h3.wk (Wk.put hD h)⟩
    rw [upd_ne fun z => hst.apart (List.mem_of_getElem? h1) (by rw [z]; exact hD)]
    exact h2
  · by_cases hb : a = D
    · rw [hb, upd_same]; exact ⟨_, rfl⟩
    · rw [upd_ne hb]; exact hst.bz a ha
structure Made (K : PySem.W.Frag) (m1 : MX) (H1 : Hp) (D : Addr) (m : MX) (H : Hp) (st : Sto) (acc : List Ip.D) : Prop where
  new : H1 D = none
  ex : Ext K m1 H1 ⟨m.l, m1.x⟩ H
  xs : m.x = D :: m1.x
  wk : Wk m1 H1 m H
  rs : RepSt K m H st
  at_ : ∃ vs, H D = some (.lst vs) ∧ Reps K m H acc vs
theorem Made.mem (h : Made K m1 H1 D m H st acc) : D ∈ m.x := by rw [h.xs]; exact List.mem_cons_self
theorem Made.start (hst : RepSt K m1 H1 st) (hD : H1 D = none) : Made K m1 H1 D ⟨m1.l, D :: m1.x⟩ (upd H1 D (.lst [])) st [] := by
  have w : Wk m1 H1 ⟨m1.l, D :: m1.x⟩ (upd H1 D (.lst [])) := by
    refine ⟨fun a o e n => ⟨by rw [upd_ne (ne_of_none e hD)]; exact e, fun z => ?_⟩, fun a xs e => by rw [upd_ne (ne_of_none e hD)]; exact e, fun a o u e => by rw [upd_ne (ne_of_none e hD)]; exact e, fun _ _ e => e⟩
    rcases z with z | z
    · exact n (.inl z)
    · rcases List.mem_cons.mp z with z | z
      · rw [z, hD] at e; cases e
      · exact n (.inr z)
  refine ⟨hD, Ext.refl.put hD, rfl, w, ⟨hst.len, ?_, fun n xs q => ?_, fun a ha => ?_⟩, [], upd_same, .nil⟩
  · show (m1.l ++ D :: m1.x).Nodup
    have nd := List.nodup_append.mp hst.nd
    rw [List.nodup_append]
    refine ⟨nd.1, ?_, fun a ha b hb => ?_⟩
    · rw [List.nodup_cons]
      exact ⟨fun z => fresh_nin hst hD (.inr z), nd.2.1⟩
    · rcases List.mem_cons.mp hb with hb | hb
      · rw [hb]; exact fun z => fresh_nin hst hD (.inl (z ▸ ha))
      · exact nd.2.2 a ha b hb
  · obtain ⟨a, us, h1, h2, h3⟩ := hst.get q
    exact ⟨a, us, h1, by rw [upd_ne (ne_of_none h2 hD)]; exact h2, h3.wk w⟩
  · by_cases hb : a = D
    · rw [hb, upd_same]; exact ⟨_, rfl⟩
    · rw [upd_ne hb]
      exact hst.bz a ((List.mem_cons.mp ha).resolve_left hb)
theorem Made.ext (h : Made K m1 H1 D m H st acc) (e : Ext K m H m' H') (rs : RepSt K m' H' st') : Made K m1 H1 D m' H' st' acc := by
  obtain ⟨vs, h1, h2⟩ := h.at_
  have nl : D ∉ m.l := fun z => h.rs.apart z h.mem
  exact ⟨h.new, h.ex.trans e.chx, e.xs.trans h.xs, h.wk.trans e.wk, rs, vs, e.kp D _ h1 nl, h2.mono e⟩
theorem Made.app {w : V} {y : Ip.D} {vs : List V} (h : Made K m1 H1 D m H st acc) (hv : H D = some (.lst vs)) (r : Rep K m H y w) : Made K m1 H1 D m (upd H D (.lst (vs ++ [w]))) st (acc ++ [y]) := by
  obtain ⟨vs', h1, h2⟩ := h.at_
  rw [hv] at h1; cases h1
  have p := Wk.put (vs' := vs ++ [w]) h.mem hv
  exact ⟨h.new, h.ex.put h.new, h.xs, h.wk.trans p, h.rs.put h.mem hv, vs ++ [w], upd_same, (h2.append (.cons r .nil)).wk p⟩
/-- the list is ready -/
theorem Made.done (h : Made K m1 H1 D m H st acc) : Ext K m1 H1 ⟨m.l, m1.x⟩ H ∧ RepSt K ⟨m.l, m1.x⟩ H st ∧ Rep K ⟨m.l, m1.x⟩ H (.lst acc) (.ref D) := by
  have nd := List.nodup_append.mp h.rs.nd
  have nx : (D :: m1.x).Nodup := h.xs ▸ nd.2.1
  have w : Wk m H ⟨m.l, m1.x⟩ H := ⟨fun a o e n => ⟨e, fun z => n (z.imp id fun z => by rw [h.xs]; exact List.mem_cons_of_mem _ z)⟩, fun _ _ e => e, fun _ _ _ e => e, fun _ _ e => e⟩
  obtain ⟨vs, h1, h2⟩ := h.at_
  refine ⟨h.ex, ⟨h.rs.len, ?_, fun n xs q => ?_, fun a ha => h.rs.bz a (by rw [h.xs]; exact List.mem_cons_of_mem _ ha)⟩, ?_⟩
  · show (m.l ++ m1.x).Nodup
    rw [List.nodup_append]
    exact ⟨nd.1, (List.nodup_cons.mp nx).2, fun a ha b hb => nd.2.2 a ha b (by rw [h.xs]; exact List.mem_cons_of_mem _ hb)⟩
  · obtain ⟨a, us, e1, e2, e3⟩ := h.rs.get q
    exact ⟨a, us, e1, e2, e3.wk w⟩
  · simp only [Rep]
    refine ⟨D, vs, rfl, .inl h1, fun z => ?_, h2.wk w⟩
    rcases z with z | z
    · exact h.rs.apart z h.mem
    · exact (List.nodup_cons.mp nx).1 z
/-- a turn's item -/
theorem yl_ext {m' : MX} {H' H'' : Hp} (h : RepSt K m' H' st) (y : H'' = H' ∨ ∃ T xs, H' T = none ∧ H'' = upd H' T (.tup xs)) : Ext K m' H' m' H'' ∧ RepSt K m' H'' st := by
  rcases y with rfl | ⟨T, xs, hn, rfl⟩
  · exact ⟨.refl, h⟩
  · exact ⟨.new hn, h.new hn⟩
end

/-! ### [e for g in it if t] -/
def R.noX {α : Type} : R α → R α
  | .exc _ _ => .bad
  | r => r
def ebYes : Eb := fun _ st => .ok true st
def lcGo (g : Tg) (t : Eb) (e : Ev) (ρ : Sl) : List D → Sto → R (List D)
  | [], st => .ok [] st
  | d :: ds, st => match g d ρ with
    | none => .bad
    | some ρ1 => (t ρ1 st).noX.bind fun b st1 => if b = true then (e ρ1 st1).noX.bind fun y st2 => (lcGo g t e ρ ds st2).bind fun r st3 => .ok (y :: r) st3 else lcGo g t e ρ ds st1
def lcEnd : List D → Sto → R D := fun r st => if r.length ≤ 1000000 then .ok (.lst r) st else .bad
def evLc (vs : List Nat) (it : Ea) (g : Tg) (t : Eb) (e : Ev) : Ev := fun ρ st => (it ρ st).bind fun ds st1 => (lcGo g t e (wipeS ρ vs) ds st1).bind lcEnd
def lc2Go (vs1 : List Nat) (g : Tg) (t : Eb) (it1 : Ea) (g1 : Tg) (t1 : Eb) (e : Ev) (ρ : Sl) : List D → Sto → R (List D)
  | [], st => .ok [] st
  | d :: ds, st => match g d ρ with
    | none => .bad
    | some ρ1 => (t ρ1 st).noX.bind fun b st1 => if b = true then (it1 ρ1 st1).noX.bind fun ds1 st2 => (lcGo g1 t1 e (wipeS ρ1 vs1) ds1 st2).bind fun r st3 => (lc2Go vs1 g t it1 g1 t1 e ρ ds st3).bind fun r' st4 => .ok (r ++ r') st4
      else lc2Go vs1 g t it1 g1 t1 e ρ ds st1
def evLc2 (vs vs1 : List Nat) (it : Ea) (g : Tg) (t : Eb) (it1 : Ea) (g1 : Tg) (t1 : Eb) (e : Ev) : Ev := fun ρ st => (it ρ st).bind fun ds st1 => (lc2Go vs1 g t it1 g1 t1 e (wipeS ρ vs) ds st1).bind lcEnd
abbrev WF : WX := fun _ _ _ _ => False

/-- nothing is raised in there -/
def NoX {α : Type} (r : R α) : Prop := ∀ c s, r ≠ .exc c s
theorem noX_noX {α : Type} (r : R α) : NoX r.noX := fun c s h => by cases r <;> cases h
theorem NoX.bind {α β : Type} {r : R α} {f : α → Sto → R β} (h : NoX r) (k : ∀ a s, NoX (f a s)) : NoX (r.bind f) := fun c s e => by
  cases r with
  | ok a s1 => exact k a s1 c s e
  | exc c' s' => exact h c' s' rfl
  | bad => cases e
theorem lcGo_noX {g : Tg} {t : Eb} {e : Ev} {ρ : Sl} : ∀ {ds : List D} {st : Sto}, NoX (lcGo g t e ρ ds st)
  | [], st => fun c s h => by cases h
  | d :: ds, st => by
    unfold lcGo
    split
    · exact fun c s h => by cases h
    · refine (noX_noX _).bind fun b s => ?_
      split
      · exact (noX_noX _).bind fun _ _ => lcGo_noX.bind fun _ _ c s h => by cases h
      · exact lcGo_noX
theorem lc2Go_noX {vs1 : List Nat} {g : Tg} {t : Eb} {it1 : Ea} {g1 : Tg} {t1 : Eb} {e : Ev} {ρ : Sl} : ∀ {ds : List D} {st : Sto}, NoX (lc2Go vs1 g t it1 g1 t1 e ρ ds st)
  | [], st => fun c s h => by cases h
  | d :: ds, st => by
    unfold lc2Go
    split
    · exact fun c s h => by cases h
    · refine (noX_noX _).bind fun b s => ?_
      split
      · exact (noX_noX _).bind fun _ _ => lcGo_noX.bind fun _ _ => lc2Go_noX.bind fun _ _ c s h => by cases h
      · exact lc2Go_noX
section
variable {K : PySem.W.Frag} {W : WX} {σ : L2.St} {m : MX} {H : Hp} {α β : Type} {P : α → Sto → MX → Hp → Prop}
theorem noX_inv {r : R β} {f : β → Sto → R α} (h : Post K W σ m H (r.noX.bind f) P) : ∃ a s, r = .ok a s ∧ Post K W σ m H (f a s) P := by
  cases r with
  | ok a s => exact ⟨a, s, rfl, h⟩
  | _ => exact h.elim
theorem Post.short {r : R (List D)} {acc : List D} (hx : NoX r) (h : Post K W σ m H (r.bind fun z st => lcEnd (acc ++ z) st) P') : acc.length ≤ 1000000 := by
  cases r with
  | ok z s =>
    have h : Post K W σ m H (lcEnd (acc ++ z) s) P' := h
    unfold lcEnd at h
    split at h
    · rename_i hl
      rw [List.length_append] at hl
      omega
    · exact h.elim
  | exc c s => exact absurd rfl (hx c s)
  | bad => exact h.elim
end
theorem bind_assoc {α β γ : Type} (r : R α) (f : α → Sto → R β) (g : β → Sto → R γ) : (r.bind f).bind g = r.bind fun a s => (f a s).bind g := by cases r <;> rfl
theorem lt_line {n k : Nat} (h : n ≤ 1000000) (hk : k < n) : k < sizeLine := Nat.lt_of_lt_of_le hk (mil_line h)
section
variable {K : PySem.W.Frag} {W : WX} {σ : L2.St} {H : Hp} {Q : VK} {vs vs1 ts ts1 : List Nat} {it it1 : Ea} {g g1 : Tg} {t t1 : Eb} {e : Ev}
theorem tLc_of (hs : ∀ i ∈ ts, i ∈ vs) (h : tE K W (evLc vs it g t e) σ H Q) : tLc (tI K W it) (tG K ts g) (tT K WF t) (tE K WF e) vs σ H Q := by
  obtain ⟨m, ρ, st, hsl, hst, hp⟩ := h
  refine ⟨m, ρ, st, hsl, hst, hp.bind.imp fun ds st1 m1 H1 x y p1 J yl D hD => ?_⟩
  have hsl1 := (hsl.mono x).wipe vs
  refine ⟨fun i n H => n = ds.length - i ∧ i ≤ ds.length ∧ ∃ m2 st2 acc, Made K m1 H1 D m2 H st2 acc ∧ Post K W σ m1 H1 ((lcGo g t e (wipeS ρ vs) (ds.drop i) st2).bind fun r s => lcEnd (acc ++ r) s) (PQ K Q),
    ⟨ds.length, rfl, Nat.zero_le _, _, st1, [], .start y hD, p1⟩, ?_⟩
  rintro i n H2 ⟨rfl, hi, m2, st2, acc, M, p2⟩
  by_cases hlt : i < ds.length
  · have hd : ds[i]? = some ds[i] := List.getElem?_eq_getElem hlt
    have hdr : ds.drop i = ds[i] :: ds.drop (i + 1) := List.drop_eq_getElem_cons hlt
    rw [hdr] at p2
    refine .inr ⟨yl.go m2 H2 i M.wk hlt, fun H' => ∃ m2 st2 acc, Made K m1 H1 D m2 H' st2 acc ∧ Post K W σ m1 H1 ((lcGo g t e (wipeS ρ vs) (ds.drop (i + 1)) st2).bind fun r s => lcEnd (acc ++ r) s) (PQ K Q), fun H' z => ⟨ds.length - (i + 1), by omega, rfl, hlt, z⟩, fun v H' yv => ?_⟩
    obtain ⟨ye, yr⟩ := yl.yl m2 H2 i v H' _ M.wk hd yv
    obtain ⟨e3, rs3⟩ := yl_ext M.rs ye
    have M3 := M.ext e3 rs3
    unfold lcGo at p2
    cases eg : g ds[i] (wipeS ρ vs) with
    | none => rw [eg] at p2; exact p2.elim
    | some ρ1 =>
      rw [eg] at p2
      refine ⟨m2, _, _, ρ1, hsl1.wk M3.wk, yr, eg, fun σ2 hsl2 sm => ⟨sm.wipe hs, ?_⟩⟩
      simp only [bind_assoc] at p2
      obtain ⟨b, s3, et, p3⟩ := noX_inv p2
      refine ⟨m2, ρ1, st2, hsl2, rs3, ?_⟩
      rw [et]
      intro m4 H4 x4 y4
      have M4 := M3.ext x4 y4
      cases b with
      | false =>
        try dsimp only
        rw [if_neg Bool.false_ne_true] at p3 ⊢
        exact ⟨m4, s3, acc, M4, p3⟩
      | true =>
        try dsimp only
        rw [if_pos rfl] at p3 ⊢
        simp only [bind_assoc] at p3
        obtain ⟨yv, s4, ee, p4⟩ := noX_inv p3
        refine ⟨m4, ρ1, s3, hsl2.mono x4, y4, ?_⟩
        rw [ee]
        intro m5 H5 x5 y5 w rw5
        have M5 := M4.ext x5 y5
        obtain ⟨us, hus, rus⟩ := M5.at_
        have p5 : Post K W σ m1 H1 ((lcGo g t e (wipeS ρ vs) (ds.drop (i + 1)) s4).bind fun r s => lcEnd ((acc ++ [yv]) ++ r) s) (PQ K Q) := by
          simpa only [Ip.R.bind_ok, List.append_assoc, List.singleton_append] using p4
        have sh := Post.short lcGo_noX p5
        rw [List.length_append] at sh
        refine ⟨us, hus, lt_line sh (by rw [rus.len]; simp), m5, s4, acc ++ [yv], M5.app hus rw5, p5⟩
  · have ei : i = ds.length := by omega
    subst ei
    rw [List.drop_length] at p2
    have p2 : Post K W σ m1 H1 (lcEnd (acc ++ []) st2) (PQ K Q) := p2
    rw [List.append_nil] at p2
    unfold lcEnd at p2
    split at p2
    · obtain ⟨z1, z2, z3⟩ := M.done
      exact .inl ⟨yl.st m2 H2 M.wk, p2 _ _ z1 z2 _ z3⟩
    · exact p2.elim
theorem tLc2_of (hs : ∀ i ∈ ts, i ∈ vs) (hs1 : ∀ i ∈ ts1, i ∈ vs1) (h : tE K W (evLc2 vs vs1 it g t it1 g1 t1 e) σ H Q) : tLc2 (tI K W it) (tG K ts g) (tT K WF t) (tI K WF it1) (tG K ts1 g1) (tT K WF t1) (tE K WF e) vs vs1 σ H Q := by
  obtain ⟨m, ρ, st, hsl, hst, hp⟩ := h
  refine ⟨m, ρ, st, hsl, hst, hp.bind.imp fun ds st1 m1 H1 x y p1 J yl D hD => ?_⟩
  have hsl1 := (hsl.mono x).wipe vs
  refine ⟨fun i n H => n = ds.length - i ∧ i ≤ ds.length ∧ ∃ m2 st2 acc, Made K m1 H1 D m2 H st2 acc ∧ Post K W σ m1 H1 ((lc2Go vs1 g t it1 g1 t1 e (wipeS ρ vs) (ds.drop i) st2).bind fun r s => lcEnd (acc ++ r) s) (PQ K Q),
    ⟨ds.length, rfl, Nat.zero_le _, _, st1, [], .start y hD, p1⟩, ?_⟩
  rintro i n H2 ⟨rfl, hi, m2, st2, acc, M, p2⟩
  by_cases hlt : i < ds.length
  · have hd : ds[i]? = some ds[i] := List.getElem?_eq_getElem hlt
    have hdr : ds.drop i = ds[i] :: ds.drop (i + 1) := List.drop_eq_getElem_cons hlt
    rw [hdr] at p2
    refine .inr ⟨yl.go m2 H2 i M.wk hlt, fun H' => ∃ m2 st2 acc, Made K m1 H1 D m2 H' st2 acc ∧ Post K W σ m1 H1 ((lc2Go vs1 g t it1 g1 t1 e (wipeS ρ vs) (ds.drop (i + 1)) st2).bind fun r s => lcEnd (acc ++ r) s) (PQ K Q), fun H' z => ⟨ds.length - (i + 1), by omega, rfl, hlt, z⟩, fun v H' yv => ?_⟩
    obtain ⟨ye, yr⟩ := yl.yl m2 H2 i v H' _ M.wk hd yv
    obtain ⟨e3, rs3⟩ := yl_ext M.rs ye
    have M3 := M.ext e3 rs3
    unfold lc2Go at p2
    cases eg : g ds[i] (wipeS ρ vs) with
    | none => rw [eg] at p2; exact p2.elim
    | some ρ1 =>
      rw [eg] at p2
      refine ⟨m2, _, _, ρ1, hsl1.wk M3.wk, yr, eg, fun σ2 hsl2 sm => ⟨sm.wipe hs, ?_⟩⟩
      simp only [bind_assoc] at p2
      obtain ⟨b, s3, et, p3⟩ := noX_inv p2
      refine ⟨m2, ρ1, st2, hsl2, rs3, ?_⟩
      rw [et]
      intro m4 H4 x4 y4
      have M4 := M3.ext x4 y4
      cases b with
      | false =>
        try dsimp only
        rw [if_neg Bool.false_ne_true] at p3 ⊢
        exact ⟨m4, s3, acc, M4, p3⟩
      | true =>
        try dsimp only
        rw [if_pos rfl] at p3 ⊢
        simp only [bind_assoc] at p3
        obtain ⟨ds1, s4, ei, p4⟩ := noX_inv p3
        refine ⟨m4, ρ1, s3, hsl2.mono x4, y4, ?_⟩
        rw [ei]
        intro m5 H5 x5 y5 J1 yl1
        have M5 := M4.ext x5 y5
        have hsl5 := ((hsl2.mono x4).mono x5).wipe vs1
        refine ⟨fun j k H => k = ds1.length - j ∧ j ≤ ds1.length ∧ ∃ m6 st6 acc, Made K m1 H1 D m6 H st6 acc ∧ Wk m5 H5 m6 H ∧ Post K W σ m1 H1 ((lcGo g1 t1 e (wipeS ρ1 vs1) (ds1.drop j) st6).bind fun r s => (lc2Go vs1 g t it1 g1 t1 e (wipeS ρ vs) (ds.drop (i + 1)) s).bind fun r' s => lcEnd (acc ++ (r ++ r')) s) (PQ K Q),
          ⟨ds1.length, rfl, Nat.zero_le _, m5, s4, acc, M5, .refl, ?_⟩, ?_⟩
        · simpa only [bind_assoc, Ip.R.bind_ok, List.drop_zero] using p4
        rintro j k H6 ⟨rfl, hj, m6, st6, acc6, M6, w6, p6⟩
        by_cases hlt1 : j < ds1.length
        · have hd1 : ds1[j]? = some ds1[j] := List.getElem?_eq_getElem hlt1
          have hdr1 : ds1.drop j = ds1[j] :: ds1.drop (j + 1) := List.drop_eq_getElem_cons hlt1
          rw [hdr1] at p6
          refine .inr ⟨yl1.go m6 H6 j w6 hlt1, fun H => ∃ m6 st6 acc, Made K m1 H1 D m6 H st6 acc ∧ Wk m5 H5 m6 H ∧ Post K W σ m1 H1 ((lcGo g1 t1 e (wipeS ρ1 vs1) (ds1.drop (j + 1)) st6).bind fun r s => (lc2Go vs1 g t it1 g1 t1 e (wipeS ρ vs) (ds.drop (i + 1)) s).bind fun r' s => lcEnd (acc ++ (r ++ r')) s) (PQ K Q), fun H' z => ⟨ds1.length - (j + 1), by omega, rfl, hlt1, z⟩, fun v H' yv => ?_⟩
          obtain ⟨ye, yr⟩ := yl1.yl m6 H6 j v H' _ w6 hd1 yv
          obtain ⟨e7, rs7⟩ := yl_ext M6.rs ye
          have M7 := M6.ext e7 rs7
          have w7 := w6.trans e7.wk
          unfold lcGo at p6
          cases eg1 : g1 ds1[j] (wipeS ρ1 vs1) with
          | none => rw [eg1] at p6; exact p6.elim
          | some ρ2 =>
            rw [eg1] at p6
            refine ⟨m6, _, _, ρ2, hsl5.wk w7, yr, eg1, fun σ3 hsl3 sm1 => ⟨sm1.wipe hs1, ?_⟩⟩
            simp only [bind_assoc] at p6
            obtain ⟨b, s7, et1, p7⟩ := noX_inv p6
            refine ⟨m6, ρ2, st6, hsl3, rs7, ?_⟩
            rw [et1]
            intro m8 H8 x8 y8
            have M8 := M7.ext x8 y8
            have w8 := w7.trans x8.wk
            cases b with
            | false =>
              try dsimp only
              rw [if_neg Bool.false_ne_true] at p7 ⊢
              exact ⟨m8, s7, acc6, M8, w8, p7⟩
            | true =>
              try dsimp only
              rw [if_pos rfl] at p7 ⊢
              simp only [bind_assoc] at p7
              obtain ⟨yv, s8, ee, p8⟩ := noX_inv p7
              refine ⟨m8, ρ2, s7, hsl3.mono x8, y8, ?_⟩
              rw [ee]
              intro m9 H9 x9 y9 w rw9
              have M9 := M8.ext x9 y9
              obtain ⟨us, hus, rus⟩ := M9.at_
              have p9 : Post K W σ m1 H1 ((lcGo g1 t1 e (wipeS ρ1 vs1) (ds1.drop (j + 1)) s8).bind fun r s => (lc2Go vs1 g t it1 g1 t1 e (wipeS ρ vs) (ds.drop (i + 1)) s).bind fun r' s => lcEnd ((acc6 ++ [yv]) ++ (r ++ r')) s) (PQ K Q) := by
                simpa only [Ip.R.bind_ok, List.append_assoc, List.nil_append, List.cons_append] using p8
              have sh : (acc6 ++ [yv]).length ≤ 1000000 := by
                refine Post.short (r := (lcGo g1 t1 e (wipeS ρ1 vs1) (ds1.drop (j + 1)) s8).bind fun r s => (lc2Go vs1 g t it1 g1 t1 e (wipeS ρ vs) (ds.drop (i + 1)) s).bind fun r' s => .ok (r ++ r') s) (lcGo_noX.bind fun _ _ => lc2Go_noX.bind fun _ _ c s h => by cases h) (K := K) (W := W) (σ := σ) (m := m1) (H := H1) (P' := PQ K Q) ?_
                simpa only [bind_assoc, Ip.R.bind_ok] using p9
              rw [List.length_append] at sh
              exact ⟨us, hus, lt_line sh (by rw [rus.len]; simp), m9, s8, acc6 ++ [yv], M9.app hus rw9, (w8.trans x9.wk).trans (Wk.put M9.mem hus), p9⟩
        · have ej : j = ds1.length := by omega
          subst ej
          rw [List.drop_length] at p6
          refine .inl ⟨yl1.st m6 H6 w6, m6, st6, acc6, M6, ?_⟩
          simpa only [lcGo, Ip.R.bind_ok, List.nil_append] using p6
  · have ei : i = ds.length := by omega
    subst ei
    rw [List.drop_length] at p2
    have p2 : Post K W σ m1 H1 (lcEnd (acc ++ []) st2) (PQ K Q) := p2
    rw [List.append_nil] at p2
    unfold lcEnd at p2
    split at p2
    · obtain ⟨z1, z2, z3⟩ := M.done
      exact .inl ⟨yl.st m2 H2 M.wk, p2 _ _ z1 z2 _ z3⟩
    · exact p2.elim
end
end Ip
set_option Elab.async false
set_option linter.all false
set_option maxRecDepth 100000
set_option maxHeartbeats 4000000
namespace Ip
open PySem PySem.Spec PyProof.Rows L2

section
variable {X : Cx} {W : WX} {elt tg iter tg1 iter1 e a b c : Expr} {ifs ifs1 : List Expr} {scope : Scope} {own : List (Str × Nat)} {vs1 ts ts1 : List Nat} {pos p p2 spos : Pos}
/-! ### comprehensions as expressions -/
theorem q_nil : PTs X [] (tT X.K W ebYes) := ⟨fun pins s σ H Q I hw => by
  obtain ⟨m, ρ, st, hsl, hst, hp⟩ := hw
  exact pts_nil.run pins s σ H Q I (hp m H .refl hst)⟩
theorem q_one {t : Eb} (h : PT X c (tT X.K W t)) : PTs X [c] (tT X.K W t) := pts_one h
theorem e_lc {it : Ea} {g : Tg} {t : Eb} {f : Ev} (hc : X.calm = true) (hN : X.N.Nodup) (hi : PI X tg iter (tI X.K W it)) (ok : BlkOk X.N X.env.scope scope own)
    (hg : ∀ s H C cl fp, PG (X.blk s H scope (compEnvC scope cl C X.env) fp) tg (tG X.K ts g)) (ht : ∀ s H C cl fp, PTs (X.blk s H scope (compEnvC scope cl C X.env) fp) ifs (tT X.K WF t))
    (he : ∀ s H C cl fp, PE (X.blk s H scope (compEnvC scope cl C X.env) fp) elt (tE X.K WF f)) (hs : ∀ x, foldedSetIterable iter X.env x = pure x) (ho : ∀ i ∈ ts, i ∈ own.map (·.2)) :
    PE X (.ListComp elt [⟨tg, iter, ifs, 0⟩] scope pos) (tE X.K W (evLc (own.map (·.2)) it g t f)) :=
  PE_imp (pe_lc hc hN hi ok hg ht he hs) fun _ _ _ h => tLc_of ho h
theorem e_lc2 {it it1 : Ea} {g g1 : Tg} {t t1 : Eb} {f : Ev} (hc : X.calm = true) (hN : X.N.Nodup) (hi : PI X tg iter (tI X.K W it)) (ok : BlkOk X.N X.env.scope scope own) (hv : ∀ i ∈ vs1, i ∈ own.map (·.2))
    (hg : ∀ s H C cl fp, PG (X.blk s H scope (compEnvC scope cl C X.env) fp) tg (tG X.K ts g)) (ht : ∀ s H C cl fp, PTs (X.blk s H scope (compEnvC scope cl C X.env) fp) ifs (tT X.K WF t))
    (hi1 : ∀ s H C cl fp, PI (X.blk s H scope (compEnvC scope cl C X.env) fp) tg1 iter1 (tI X.K WF it1))
    (hg1 : ∀ s H C cl fp, PG (X.blk s H scope (compEnvC scope cl C X.env) fp) tg1 (tG X.K ts1 g1)) (ht1 : ∀ s H C cl fp, PTs (X.blk s H scope (compEnvC scope cl C X.env) fp) ifs1 (tT X.K WF t1))
    (he : ∀ s H C cl fp, PE (X.blk s H scope (compEnvC scope cl C X.env) fp) elt (tE X.K WF f)) (hs : ∀ x, foldedSetIterable iter X.env x = pure x) (hs1 : ∀ env x, foldedSetIterable iter1 env x = pure x) (ho : ∀ i ∈ ts, i ∈ own.map (·.2)) (ho1 : ∀ i ∈ ts1, i ∈ vs1) :
    PE X (.ListComp elt [⟨tg, iter, ifs, 0⟩, ⟨tg1, iter1, ifs1, 0⟩] scope pos) (tE X.K W (evLc2 (own.map (·.2)) vs1 it g t it1 g1 t1 f)) :=
  PE_imp (pe_lc2 hc hN hi ok hv hg ht hi1 hg1 ht1 he hs hs1) fun _ _ _ h => tLc2_of ho ho1 h

/-! ### methods of lists -/
/-- o.m(..), o a mutable list, a list that nobody changes -/
def evMR (o : Sto → Nat → List D → R D) (f : Ev) (g : Ea) : Ev := fun ρ st => (f ρ st).bind fun d st1 => match d with
  | .ref n => (g ρ st1).bind fun ds st2 => o st2 n ds
  | _ => .bad
def evML (o : Sto → List D → List D → R D) (f : Ev) (g : Ea) : Ev := fun ρ st => (f ρ st).bind fun d st1 => match d with
  | .lst xs => (g ρ st1).bind fun ds st2 => o st2 xs ds
  | _ => .bad
def mApp (st : Sto) (n : Nat) (ds : List D) : R D := match ds, st[n]? with
  | [y], some xs => if xs.length < 1000000 then .ok .non (st.set n (xs ++ [y])) else .bad
  | _, _ => .bad
def mPop (st : Sto) (n : Nat) (ds : List D) : R D := match ds, st[n]? with
  | [.int i], some xs => if 0 ≤ i ∧ i < 2 ^ 63 then (match xs[i.toNat]? with
      | some y => .ok y (st.set n (xs.eraseIdx i.toNat))
      | none => .bad) else .bad
  | _, _ => .bad
def mIdx (st : Sto) (xs : List D) (ds : List D) : R D := match ds with
  | [y] => if okD (.lst xs) = true ∧ okD y = true then (match xs.findIdx? fun z => eqD z y with
      | some j => .ok (.int (j : Nat)) st
      | none => .bad) else .bad
  | _ => .bad
theorem plainFew (h1 : starEach [e] X.env = (false, eval e X.env) :: starEach [] X.env) : ((backTo p (starEach [e] X.env)).all (fun x => !x.1) && (backToKw p (keywordEach [] X.env)).all (fun x => x.1.isSome)
      && decide ([e].length + ([] : List Keyword).length + (if ([] : List Keyword).isEmpty then 0 else 1) < 30)) = true := by
  rw [h1]; rfl
theorem tyL {K : PySem.W.Frag} {H : Hp} {a : Addr} {xs : List V} (h : SqL K H a xs) : tyV K "list" (.ref a) H := .inl ⟨rfl, xs, h⟩
theorem tBM_ref {fo : Ev} {g : Ea} {o : Sto → Nat → List D → R D} {r : V → List V → Hp → VK → Prop} {σ : L2.St} {H : Hp} {Q : VK}
    (k : ∀ m H st n a xs us ds vs, RepSt X.K m H st → m.l[n]? = some a → st[n]? = some xs → H a = some (.lst us) → Reps X.K m H xs us → Reps X.K m H ds vs → Post X.K W σ m H (o st n ds) (PQ X.K Q) → r (.ref a) vs H Q)
    (hw : tE X.K W (evMR o fo g) σ H Q) : tBM X.K "list" r (tE X.K W fo) (tA X.K W g) σ H Q := by
  obtain ⟨m, ρ, st, hsl, hst, hp⟩ := hw
  refine tE_seq hsl hst hp fun v H1 m1 d st1 x1 sl1 y1 rv p1 => ?_
  cases d with
  | ref n =>
    simp only [Rep] at rv
    obtain ⟨a, rfl, h1⟩ := rv
    obtain ⟨vs, h2⟩ := y1.there (.inl (List.mem_of_getElem? h1))
    refine ⟨tyL (.inl (.inl h2)), tA_seq sl1 y1 p1 fun vs H2 m2 ds st2 x2 sl2 y2 rv2 p2 => ?_⟩
    have ha := x2.get h1
    have hn : n < st2.length := by rw [← y2.len]; exact (List.getElem?_eq_some_iff.mp ha).1
    obtain ⟨b, us, e1, e2, e3⟩ := y2.get (List.getElem?_eq_getElem hn)
    rw [ha] at e1; cases e1
    exact k m2 H2 st2 n a _ us ds vs y2 ha (List.getElem?_eq_getElem hn) e2 e3 rv2 p2
  | _ => exact p1.elim
theorem e_app {apos cpos : Pos} {fo : Ev} {g : Ea} {o : Expr} (ho : PE X o (tE X.K W fo)) (ha : PA X [e] (tA X.K W g)) (hb : attributeBase o "append" X.env (eval o X.env) = eval o X.env) (hl : (apos.endLine == cpos.line) = true) (h1 : starEach [e] X.env = (false, eval e X.env) :: starEach [] X.env) :
    PE X (.Call (.Attribute o "append" apos) [e] [] cpos) (tE X.K W (evMR mApp fo g)) := by
  refine PE_imp (pe_bm F.plainAttrs_list F.slot_list_append F.type_list_append mt_append ho ha hb (plainFew h1) hl h1 rfl) fun σ H Q hw => ?_
  refine tBM_ref (fun m H st n a xs us ds vs hst ha hx hH rx rv hp => ?_) hw
  unfold mApp at hp
  rw [hx] at hp
  split at hp
  · rename_i y xs' e
    cases e
    split at hp
    · rename_i hlt
      obtain ⟨w, rfl, rw'⟩ := reps1 rv
      exact ⟨a, us, w, rfl, rfl, hH, by rw [rx.len]; exact Nat.lt_of_lt_of_le hlt (by decide), hp m _ (.write (List.mem_of_getElem? ha) hH) (hst.write ha hH (rx.append (.cons rw' .nil))) _ rNon⟩
    · exact hp.elim
  · exact hp.elim
theorem e_pop {apos cpos : Pos} {fo : Ev} {g : Ea} {o : Expr} (ho : PE X o (tE X.K W fo)) (ha : PA X [e] (tA X.K W g)) (hb : attributeBase o "pop" X.env (eval o X.env) = eval o X.env) (hl : (apos.endLine == cpos.line) = true) (h1 : starEach [e] X.env = (false, eval e X.env) :: starEach [] X.env) :
    PE X (.Call (.Attribute o "pop" apos) [e] [] cpos) (tE X.K W (evMR mPop fo g)) := by
  refine PE_imp (pe_bm F.plainAttrs_list F.slot_list_pop F.type_list_pop mt_popAt ho ha hb (plainFew h1) hl h1 rfl) fun σ H Q hw => ?_
  refine tBM_ref (fun m H st n a xs us ds vs hst ha hx hH rx rv hp => ?_) hw
  unfold mPop at hp
  rw [hx] at hp
  split at hp
  · rename_i i xs' e
    cases e
    split at hp
    · rename_i hi
      split at hp
      · rename_i y hy
        obtain ⟨w, rfl, rw'⟩ := reps1 rv
        obtain rfl := iInt rw'
        obtain ⟨w, hw, rw2⟩ := rx.get hy
        have hlt : i.toNat < us.length := (List.getElem?_eq_some_iff.mp hw).1
        have hs : seqIndex? i us.length = some i.toNat := by
          unfold seqIndex?
          have h1 : ¬ i < 0 := by omega
          simp only [h1, if_false]
          rw [if_pos]
          simp only [Bool.and_eq_true, decide_eq_true_eq]
          omega
        have x : Ext X.K m H m (upd H a (.lst (us.eraseIdx i.toNat))) := .write (List.mem_of_getElem? ha) hH
        exact ⟨a, us, i, i.toNat, w, rfl, rfl, hH, by omega, hi.2, hs, hw, hp m _ x (hst.write ha hH (rx.eraseIdx _)) _ (rw2.mono x)⟩
      · exact hp.elim
    · exact hp.elim
  · exact hp.elim
theorem pys_get : ∀ (xs : List D) (i : Nat), (pys xs)[i]? = (xs[i]?).map py
  | [], _ => rfl
  | z :: xs, 0 => rfl
  | z :: xs, i + 1 => by
    show (py z :: pys xs)[i + 1]? = _
    simpa using pys_get xs i
theorem e_idx {apos cpos : Pos} {fo : Ev} {g : Ea} {o : Expr} (hu : X.A.units + 65 < cLine) (ho : PE X o (tE X.K W fo)) (ha : PA X [e] (tA X.K W g)) (hb : attributeBase o "index" X.env (eval o X.env) = eval o X.env) (hl : (apos.endLine == cpos.line) = true) (h1 : starEach [e] X.env = (false, eval e X.env) :: starEach [] X.env) :
    PE X (.Call (.Attribute o "index" apos) [e] [] cpos) (tE X.K W (evML mIdx fo g)) := by
  refine PE_imp (pe_bm F.plainAttrs_list F.slot_list_index F.type_list_index (mt_indexD hu) ho ha hb (plainFew h1) hl h1 rfl) fun σ H Q hw => ?_
  obtain ⟨m, ρ, st, hsl, hst, hp⟩ := hw
  refine tE_seq hsl hst hp fun v H1 m1 d st1 x1 sl1 y1 rv p1 => ?_
  cases d with
  | lst xs =>
    obtain ⟨a, us, rfl, hf, _⟩ := lst_rep rv
    refine ⟨tyL hf.sq, tA_seq sl1 y1 p1 fun vs H2 m2 ds st2 x2 sl2 y2 rv2 p2 => ?_⟩
    unfold mIdx at p2
    split at p2
    · rename_i y
      split at p2
      · rename_i hc
        split at p2
        · rename_i j hj
          obtain ⟨w, rfl, rw'⟩ := reps1 rv2
          obtain ⟨hj1, hj2, hj3⟩ := List.findIdx?_eq_some_iff_getElem.mp hj
          refine ⟨a, w, py y, pys xs, j, py xs[j], rfl, rfl, Rep.dp (d := .lst xs) (okD_s hc.1) (rv.mono x2), Rep.dp (okD_s hc.2) rw', okD_shaped hc.1, okD_shaped hc.2, by rw [pys_get, List.getElem?_eq_getElem hj1]; rfl, hj2, fun i z hi hz => ?_, p2 m2 H2 .refl y2 _ rInt⟩
          rw [pys_get, List.getElem?_eq_getElem (Nat.lt_trans hi hj1)] at hz
          cases hz
          have z := hj3 i hi
          rw [Bool.not_eq_true] at z
          exact z
        · exact p2.elim
      · exact p2.elim
    · exact p2.elim
  | _ => exact p1.elim
end
end Ip
set_option Elab.async false
set_option linter.all false
set_option maxRecDepth 100000
set_option maxHeartbeats 4000000
namespace Ip
open PySem PySem.Spec PyProof.Rows L2

/-! ### statements -/
inductive RS where
  | nx (ρ : Sl) (st : Sto)
  | bk (ρ : Sl) (st : Sto)
  | ct (ρ : Sl) (st : Sto)
  | rt (d : D) (st : Sto)
  | exc (c : Str) (ρ : Sl) (st : Sto)
  | bad
abbrev Es := Sl → Sto → RS
def PostS (K : PySem.W.Frag) (W : WX) (m : MX) (H : Hp) (r : RS) (D : Ends) : Prop := match r with
  | .nx ρ st => ∀ m' H' σ', Ext K m H m' H' → RepSl K m' H' ρ σ' → RepSt K m' H' st → D.nx σ' H'
  | .bk ρ st => ∀ m' H' σ', Ext K m H m' H' → RepSl K m' H' ρ σ' → RepSt K m' H' st → D.bk σ' H'
  | .ct ρ st => ∀ m' H' σ', Ext K m H m' H' → RepSl K m' H' ρ σ' → RepSt K m' H' st → D.ct σ' H'
  | .rt d st => ∀ m' H' v, Ext K m H m' H' → RepSt K m' H' st → Rep K m' H' d v → D.rt v H'
  | .exc c ρ st => ∀ m' H' σ', Ext K m H m' H' → RepSl K m' H' ρ σ' → RepSt K m' H' st → W (.ref (He.ga K c)) none σ' H'
  | .bad => False
def tS (K : PySem.W.Frag) (W : WX) (f : Es) : TS := fun D σ H => ∃ m ρ st, RepSl K m H ρ σ ∧ RepSt K m H st ∧ PostS K W m H (f ρ st) D
theorem PostS.ext {K : PySem.W.Frag} {W : WX} {m m1 : MX} {H H1 : Hp} {r : RS} {D : Ends} (e : Ext K m H m1 H1) (h : PostS K W m H r D) : PostS K W m1 H1 r D := by
  cases r with
  | nx ρ st => exact fun m' H' σ' x => h m' H' σ' (e.trans x)
  | bk ρ st => exact fun m' H' σ' x => h m' H' σ' (e.trans x)
  | ct ρ st => exact fun m' H' σ' x => h m' H' σ' (e.trans x)
  | rt d st => exact fun m' H' v x => h m' H' v (e.trans x)
  | exc c ρ st => exact fun m' H' σ' x => h m' H' σ' (e.trans x)
  | bad => exact h
/-- behind an expression -/
def R.stm {α : Type} (r : R α) (ρ : Sl) (k : α → Sto → RS) : RS := match r with
  | .ok a st => k a st
  | .exc c st => .exc c ρ st
  | .bad => .bad
@[simp] theorem R.stm_ok {α : Type} (a : α) (st : Sto) (ρ : Sl) (k : α → Sto → RS) : (R.ok a st).stm ρ k = k a st := Eq.trans rfl rfl
@[simp] theorem R.stm_exc {α : Type} (c : Str) (st : Sto) (ρ : Sl) (k : α → Sto → RS) : (R.exc c st : R α).stm ρ k = .exc c ρ st := Eq.trans rfl rfl
@[simp] theorem R.stm_bad {α : Type} (ρ : Sl) (k : α → Sto → RS) : (R.bad : R α).stm ρ k = .bad := Eq.trans rfl rfl
/-- one behind another -/
def RS.seq (r : RS) (k : Sl → Sto → RS) : RS := match r with
  | .nx ρ st => k ρ st
  | r => r
@[simp] theorem RS.seq_nx (ρ : Sl) (st : Sto) (k : Sl → Sto → RS) : (RS.nx ρ st).seq k = k ρ st := Eq.trans rfl rfl
@[simp] theorem RS.seq_rt (d : D) (st : Sto) (k : Sl → Sto → RS) : (RS.rt d st).seq k = .rt d st := Eq.trans rfl rfl
@[simp] theorem RS.seq_exc (c : Str) (ρ : Sl) (st : Sto) (k : Sl → Sto → RS) : (RS.exc c ρ st).seq k = .exc c ρ st := Eq.trans rfl rfl
@[simp] theorem RS.seq_bad (k : Sl → Sto → RS) : RS.bad.seq k = .bad := Eq.trans rfl rfl
@[simp] theorem RS.seq_bk (ρ : Sl) (st : Sto) (k : Sl → Sto → RS) : (RS.bk ρ st).seq k = .bk ρ st := Eq.trans rfl rfl
@[simp] theorem RS.seq_ct (ρ : Sl) (st : Sto) (k : Sl → Sto → RS) : (RS.ct ρ st).seq k = .ct ρ st := Eq.trans rfl rfl
/-- a loop's turn, then the rest of the loop -/
def RS.turn (r : RS) (k : Sl → Sto → RS) : RS := match r with
  | .nx ρ st => k ρ st
  | .ct ρ st => k ρ st
  | .bk ρ st => .nx ρ st
  | r => r
@[simp] theorem RS.turn_nx (ρ : Sl) (st : Sto) (k : Sl → Sto → RS) : (RS.nx ρ st).turn k = k ρ st := Eq.trans rfl rfl
@[simp] theorem RS.turn_ct (ρ : Sl) (st : Sto) (k : Sl → Sto → RS) : (RS.ct ρ st).turn k = k ρ st := Eq.trans rfl rfl
@[simp] theorem RS.turn_bk (ρ : Sl) (st : Sto) (k : Sl → Sto → RS) : (RS.bk ρ st).turn k = .nx ρ st := Eq.trans rfl rfl
@[simp] theorem RS.turn_rt (d : D) (st : Sto) (k : Sl → Sto → RS) : (RS.rt d st).turn k = .rt d st := Eq.trans rfl rfl
@[simp] theorem RS.turn_exc (c : Str) (ρ : Sl) (st : Sto) (k : Sl → Sto → RS) : (RS.exc c ρ st).turn k = .exc c ρ st := Eq.trans rfl rfl
@[simp] theorem RS.turn_bad (k : Sl → Sto → RS) : RS.bad.turn k = .bad := Eq.trans rfl rfl
def sNil : Es := fun ρ st => .nx ρ st
def sCons (f g : Es) : Es := fun ρ st => (f ρ st).seq g
def sSet (i : Nat) (f : Ev) : Es := fun ρ st => (f ρ st).stm ρ fun d st1 => .nx (ρ.set i (some d)) st1
def sAsg (g : Tg) (f : Ev) : Es := fun ρ st => (f ρ st).stm ρ fun d st1 => match g d ρ with
  | some ρ' => .nx ρ' st1
  | none => .bad
def sPar (i j : Nat) (g : Ea) : Es := fun ρ st => (g ρ st).stm ρ fun ds st1 => match ds with
  | [x, y] => .nx ((ρ.set i (some x)).set j (some y)) st1
  | _ => .bad
def sIf (t : Eb) (f g : Es) : Es := fun ρ st => (t ρ st).stm ρ fun b st1 => if b = true then f ρ st1 else g ρ st1
def sRet (f : Ev) : Es := fun ρ st => (f ρ st).stm ρ fun d st1 => .rt d st1
def sRetN : Es := fun _ st => .rt .non st
def sExp (f : Ev) : Es := fun ρ st => (f ρ st).stm ρ fun _ st1 => .nx ρ st1
def sBad : Es := fun _ _ => .bad
def sBk : Es := fun ρ st => .bk ρ st
def sCt : Es := fun ρ st => .ct ρ st
def sExc (c : Str) : Es := fun ρ st => .exc c ρ st
def forGo (g : Tg) (b : Es) : List D → Es
  | [], ρ, st => .nx ρ st
  | d :: ds, ρ, st => match g d ρ with
    | none => .bad
    | some ρ1 => (b ρ1 st).turn (forGo g b ds)
def sFor (it : Ea) (g : Tg) (b : Es) : Es := fun ρ st => (it ρ st).stm ρ fun ds st1 => forGo g b ds ρ st1
def whGo (t : Eb) (b : Es) : Nat → Es
  | 0, _, _ => .bad
  | n + 1, ρ, st => (t ρ st).stm ρ fun c st1 => if c = true then (b ρ st1).turn (whGo t b n) else .nx ρ st1
def sWhile (n : Nat) (t : Eb) (b : Es) : Es := whGo t b n
section
variable {K : PySem.W.Frag} {W : WX} {σ : L2.St} {m : MX} {H : Hp} {ρ : Sl} {st : Sto} {α : Type}
theorem stm_post {r : R α} {k : α → Sto → RS} {D : Ends} (hsl : RepSl K m H ρ σ) (h : PostS K W m H (r.stm ρ k) D) : Post K W σ m H r fun a st1 m1 H1 => PostS K W m1 H1 (k a st1) D := by
  cases r with
  | ok a s => exact fun m' H' x _ => PostS.ext x h
  | exc c s => exact fun m' H' x y => h m' H' σ x (hsl.mono x) y
  | bad => exact h
theorem sE {f : Ev} (hsl : RepSl K m H ρ σ) (hst : RepSt K m H st) {k : Ip.D → Sto → RS} {D : Ends} (h : PostS K W m H ((f ρ st).stm ρ k) D) {Q : VK}
    (q : ∀ v H1 m1 d st1, Ext K m H m1 H1 → RepSl K m1 H1 ρ σ → RepSt K m1 H1 st1 → Rep K m1 H1 d v → PostS K W m1 H1 (k d st1) D → Q v H1) : tE K W f σ H Q :=
  ⟨m, ρ, st, hsl, hst, (stm_post hsl h).imp fun d st1 m1 H1 x y p v rv => q v H1 m1 d st1 x (hsl.mono x) y rv p⟩
theorem sA {f : Ea} (hsl : RepSl K m H ρ σ) (hst : RepSt K m H st) {k : List Ip.D → Sto → RS} {D : Ends} (h : PostS K W m H ((f ρ st).stm ρ k) D) {Q : List V → Hp → Prop}
    (q : ∀ vs H1 m1 ds st1, Ext K m H m1 H1 → RepSl K m1 H1 ρ σ → RepSt K m1 H1 st1 → Reps K m1 H1 ds vs → PostS K W m1 H1 (k ds st1) D → Q vs H1) : tA K W f σ H Q :=
  ⟨m, ρ, st, hsl, hst, (stm_post hsl h).imp fun d st1 m1 H1 x y p v rv => q v H1 m1 d st1 x (hsl.mono x) y rv p⟩
end
section
variable {X : Cx} {W : WX} {e c tg iter : Expr} {s0 : Stmt} {rest a b : List Stmt} {es : List Expr} {pos p2 : Pos}
theorem PSs_imp {st : List Stmt} {t t' : TS} (h : PSs X st t) (k : ∀ D σ H, t' D σ H → t D σ H) : PSs X st t' := ⟨fun pins s σ H D I q => h.run pins s σ H D I (k D σ H q)⟩
theorem b_nil : PSs X [] (tS X.K W sNil) := PSs_imp pss_nil fun D σ H hw => by
  obtain ⟨m, ρ, st, hsl, hst, hp⟩ := hw
  exact hp m H σ .refl hsl hst
theorem b_cons {f g : Es} (h1 : PS X s0 (tS X.K W f)) (h2 : PSs X rest (tS X.K W g)) : PSs X (s0 :: rest) (tS X.K W (sCons f g)) := by
  refine PSs_imp (pss_cons h1 h2) fun D σ H hw => ?_
  obtain ⟨m, ρ, st, hsl, hst, hp⟩ := hw
  refine ⟨m, ρ, st, hsl, hst, ?_⟩
  have hp : PostS X.K W m H ((f ρ st).seq g) D := hp
  cases e : f ρ st with
  | nx ρ1 st1 =>
    rw [e] at hp
    exact fun m' H' σ' x hsl' hst' => ⟨m', ρ1, st1, hsl', hst', PostS.ext x hp⟩
  | _ => rw [e] at hp; exact hp
theorem s_set {i : Nat} {x : Str} {f : Ev} {pos' : Pos} (hN : X.N.Nodup) (hi : X.N[i]? = some x) (hx : Loc X.env.scope x) (he : PE X e (tE X.K W f)) (hs : swapsWith e (some (.Name x pos')) pos.line X.env = pure false) (hf : X.fn x = true ∨ X.env.scope.names.lookup x = some .local) :
    PS X (.Assign [.Name x pos'] e pos) (tS X.K W (sSet i f)) := by
  refine PS_imp (ps_set hN hi hx he hs hf) fun D σ H hw => ?_
  obtain ⟨m, ρ, st, hsl, hst, hp⟩ := hw
  exact sE hsl hst hp fun v H1 m1 d st1 x1 sl1 y1 rv p1 => p1 m1 H1 _ .refl (sl1.set rv) y1
theorem s_asg {g : Tg} {ts : List Nat} {f : Ev} (he : PE X e (tE X.K W f)) (hg : PG X tg (tG X.K ts g)) (hs : swapsWithSole [tg] e pos.line X.env = pure false) (hw : swappedStores [tg] e X.env = pure none) (h1 : (assignEach [tg] X.env).map (·.2) = [assign tg X.env]) :
    PS X (.Assign [tg] e pos) (tS X.K W (sAsg g f)) := by
  refine PS_imp (ps_asg he hg hs hw h1) fun D σ H hw => ?_
  obtain ⟨m, ρ, st, hsl, hst, hp⟩ := hw
  refine sE hsl hst hp fun v H1 m1 d st1 x1 sl1 y1 rv p1 => ?_
  cases eg : g d ρ with
  | none => simp only [eg] at p1; exact p1.elim
  | some ρ' =>
    simp only [eg] at p1
    exact ⟨m1, d, ρ, ρ', sl1, rv, eg, fun σ' hsl' _ => p1 m1 H1 σ' .refl hsl' y1⟩
theorem s_par {i j : Nat} {x y : Str} {ea eb : Expr} {g : Ea} {px py pt : Pos} {kt k2 pt2} (hc : X.calm = true) (hN : X.N.Nodup) (hi : X.N[i]? = some x) (hj : X.N[j]? = some y) (hij : i ≠ j)
    (hx : X.env.scope.names.lookup x = some .local) (hy : X.env.scope.names.lookup y = some .local) (ha : PA X [ea, eb] (tA X.K W g))
    (hw : swappedStores [.Tuple [.Name x px, .Name y py] kt pt] (.Tuple [ea, eb] k2 pt2) X.env = pure (some [x, y])) :
    PS X (.Assign [.Tuple [.Name x px, .Name y py] kt pt] (.Tuple [ea, eb] k2 pt2) pos) (tS X.K W (sPar i j g)) := by
  refine PS_imp (ps_par hc hN hi hj hij hx hy ha hw) fun D σ H hw => ?_
  obtain ⟨m, ρ, st, hsl, hst, hp⟩ := hw
  refine sA hsl hst hp fun vs H1 m1 ds st1 x1 sl1 y1 rv p1 => ?_
  split at p1
  · obtain ⟨v, w, rfl, r1, r2⟩ := reps2 rv
    exact ⟨v, w, rfl, p1 m1 H1 _ .refl ((sl1.set r1).set r2) y1⟩
  · exact p1.elim
theorem s_if {t : Eb} {f g : Es} (hc : PT X c (tT X.K W t)) (ha : PSs X a (tS X.K W f)) (hb : PSs X b (tS X.K W g)) : PS X (.If c a b pos) (tS X.K W (sIf t f g)) := by
  refine PS_imp (ps_if hc ha hb) fun D σ H hw => ?_
  obtain ⟨m, ρ, st, hsl, hst, hp⟩ := hw
  refine ⟨m, ρ, st, hsl, hst, (stm_post hsl hp).imp fun k st1 m1 H1 x y p => ?_⟩
  cases k with
  | true => exact ⟨m1, ρ, st1, hsl.mono x, y, p⟩
  | false => exact ⟨m1, ρ, st1, hsl.mono x, y, p⟩
theorem s_ret {f : Ev} (he : PE X e (tE X.K W f)) : PS X (.Return (some e) pos) (tS X.K W (sRet f)) := by
  refine PS_imp (ps_ret he) fun D σ H hw => ?_
  obtain ⟨m, ρ, st, hsl, hst, hp⟩ := hw
  exact sE hsl hst hp fun v H1 m1 d st1 x1 sl1 y1 rv p1 => p1 m1 H1 v .refl y1 rv
theorem s_retN : PS X (.Return none pos) (tS X.K W sRetN) := by
  refine PS_imp ps_retN fun D σ H hw => ?_
  obtain ⟨m, ρ, st, hsl, hst, hp⟩ := hw
  exact hp m H _ .refl hst rNon
theorem s_exp {f : Ev} (he : PE X e (tE X.K W f)) (hs : swapsWith e none pos.line X.env = pure false) : PS X (.Expr e pos) (tS X.K W (sExp f)) := by
  refine PS_imp (ps_expr he hs) fun D σ H hw => ?_
  obtain ⟨m, ρ, st, hsl, hst, hp⟩ := hw
  exact sE hsl hst hp fun v H1 m1 d st1 x1 sl1 y1 rv p1 => p1 m1 H1 _ .refl sl1 y1
theorem s_doc {x j pos pos'} : PS X (.Expr (.Constant (.str x) j pos) pos') (tS X.K W sNil) := PS_imp ps_doc fun D σ H hw => by
  obtain ⟨m, ρ, st, hsl, hst, hp⟩ := hw
  exact hp m H σ .refl hsl hst
theorem s_pass : PS X (.Pass pos) (tS X.K W sNil) := PS_imp ps_pass fun D σ H hw => by
  obtain ⟨m, ρ, st, hsl, hst, hp⟩ := hw
  exact hp m H σ .refl hsl hst
theorem s_break : PS X (.Break pos) (tS X.K W sBk) := PS_imp ps_break fun D σ H hw => by
  obtain ⟨m, ρ, st, hsl, hst, hp⟩ := hw
  exact hp m H σ .refl hsl hst
theorem s_cont : PS X (.Continue pos) (tS X.K W sCt) := PS_imp ps_continue fun D σ H hw => by
  obtain ⟨m, ρ, st, hsl, hst, hp⟩ := hw
  exact hp m H σ .refl hsl hst
theorem s_bad : PS X s0 (tS X.K W sBad) := PS_imp ps_never fun D σ H hw => by
  obtain ⟨m, ρ, st, hsl, hst, hp⟩ := hw
  exact hp
theorem b_bad : PSs X a (tS X.K W sBad) := PSs_imp pss_never fun D σ H hw => by
  obtain ⟨m, ρ, st, hsl, hst, hp⟩ := hw
  exact hp
theorem s_for {it : Ea} {g : Tg} {ts : List Nat} {f : Es} (hp : PassesOwn (model X.prog X.w) X.A X.env X.xe) (hc : X.calm = true) (hi : PI X tg iter (tI X.K W it)) (hg : PG X tg (tG X.K ts g)) (hb : PSs X b (tS X.K W f))
    (hs : ∀ x, foldedSetIterable iter X.env x = pure x) : PS X (.For tg iter b [] pos) (tS X.K W (sFor it g f)) := by
  refine PS_imp (ps_for hp hc hi hg hb hs) fun D σ H hw => ?_
  obtain ⟨m, ρ, st, hsl, hst, hp⟩ := hw
  refine ⟨m, ρ, st, hsl, hst, (stm_post hsl hp).imp fun ds st1 m1 H1 x y p1 J yl => ?_⟩
  refine ⟨fun i n σ H => n = ds.length - i ∧ i ≤ ds.length ∧ ∃ m2 ρ2 st2, Ext X.K m1 H1 m2 H ∧ RepSl X.K m2 H ρ2 σ ∧ RepSt X.K m2 H st2 ∧ PostS X.K W m1 H1 (forGo g f (ds.drop i) ρ2 st2) D,
    ⟨ds.length, rfl, Nat.zero_le _, m1, ρ, st1, .refl, hsl.mono x, y, p1⟩, ?_⟩
  rintro i n σ2 H2 ⟨rfl, hi, m2, ρ2, st2, x2, sl2, y2, p2⟩
  by_cases hlt : i < ds.length
  · have hd : ds[i]? = some ds[i] := List.getElem?_eq_getElem hlt
    rw [List.drop_eq_getElem_cons hlt] at p2
    refine .inr ⟨yl.go m2 H2 i x2.wk hlt, fun σ H => ∃ m2 ρ2 st2, Ext X.K m1 H1 m2 H ∧ RepSl X.K m2 H ρ2 σ ∧ RepSt X.K m2 H st2 ∧ PostS X.K W m1 H1 (forGo g f (ds.drop (i + 1)) ρ2 st2) D, fun σ' H' z => ⟨ds.length - (i + 1), by omega, rfl, hlt, z⟩, fun v H' yv => ?_⟩
    obtain ⟨ye, yr⟩ := yl.yl m2 H2 i v H' _ x2.wk hd yv
    obtain ⟨e3, rs3⟩ := yl_ext y2 ye
    unfold forGo at p2
    cases eg : g ds[i] ρ2 with
    | none => simp only [eg] at p2; exact p2.elim
    | some ρ1 =>
      simp only [eg] at p2
      refine ⟨m2, _, ρ2, ρ1, sl2.mono e3, yr, eg, fun σ3 hsl3 _ => ?_⟩
      refine ⟨m2, ρ1, st2, hsl3, rs3, ?_⟩
      have x3 := x2.trans e3
      cases ef : f ρ1 st2 with
      | nx ρ4 st4 =>
        rw [ef] at p2
        exact fun m4 H4 σ4 x4 sl4 y4 => ⟨m4, ρ4, st4, x3.trans x4, sl4, y4, p2⟩
      | ct ρ4 st4 =>
        rw [ef] at p2
        exact fun m4 H4 σ4 x4 sl4 y4 => ⟨m4, ρ4, st4, x3.trans x4, sl4, y4, p2⟩
      | bk ρ4 st4 =>
        rw [ef] at p2
        exact fun m4 H4 σ4 x4 sl4 y4 => p2 m4 H4 σ4 (x3.trans x4) sl4 y4
      | rt d4 st4 =>
        rw [ef] at p2
        exact fun m4 H4 v4 x4 y4 r4 => p2 m4 H4 v4 (x3.trans x4) y4 r4
      | exc c4 ρ4 st4 =>
        rw [ef] at p2
        exact fun m4 H4 σ4 x4 sl4 y4 => p2 m4 H4 σ4 (x3.trans x4) sl4 y4
      | bad => rw [ef] at p2; exact p2
  · have ei : i = ds.length := by omega
    subst ei
    rw [List.drop_length] at p2
    exact .inl ⟨yl.st m2 H2 x2.wk, p2 m2 H2 σ2 x2 sl2 y2⟩
theorem s_while {n : Nat} {t : Eb} {f : Es} (hp : PassesOwn (model X.prog X.w) X.A X.env X.xe) (hc : PT X c (tT X.K W t)) (hb : PSs X b (tS X.K W f)) : PS X (.While c b [] pos) (tS X.K W (sWhile n t f)) := by
  refine PS_imp (ps_while hp hc hb) fun D σ H hw => ?_
  obtain ⟨m, ρ, st, hsl, hst, hp⟩ := hw
  refine ⟨fun n σ' H' => ∃ m2 ρ2 st2, RepSl X.K m2 H' ρ2 σ' ∧ RepSt X.K m2 H' st2 ∧ PostS X.K W m2 H' (whGo t f n ρ2 st2) D, ⟨n, m, ρ, st, hsl, hst, hp⟩, ?_⟩
  rintro k σ2 H2 ⟨m2, ρ2, st2, sl2, y2, p2⟩
  cases k with
  | zero => exact p2.elim
  | succ k =>
    have p2 : PostS X.K W m2 H2 ((t ρ2 st2).stm ρ2 fun c st1 => if c = true then (f ρ2 st1).turn (whGo t f k) else .nx ρ2 st1) D := p2
    refine ⟨m2, ρ2, st2, sl2, y2, (stm_post sl2 p2).imp fun b st3 m3 H3 x3 y3 p3 => ?_⟩
    cases b with
    | false => exact p3 m3 H3 σ2 .refl (sl2.mono x3) y3
    | true =>
      refine ⟨fun σ' H' => ∃ m2 ρ2 st2, RepSl X.K m2 H' ρ2 σ' ∧ RepSt X.K m2 H' st2 ∧ PostS X.K W m2 H' (whGo t f k ρ2 st2) D, fun σ' H' z => ⟨k, Nat.lt_succ_self k, z⟩, m3, ρ2, st3, sl2.mono x3, y3, ?_⟩
      have p3 : PostS X.K W m3 H3 ((f ρ2 st3).turn (whGo t f k)) D := p3
      cases ef : f ρ2 st3 with
      | nx ρ4 st4 =>
        rw [ef] at p3
        exact fun m4 H4 σ4 x4 sl4 y4 => ⟨m4, ρ4, st4, sl4, y4, PostS.ext x4 p3⟩
      | ct ρ4 st4 =>
        rw [ef] at p3
        exact fun m4 H4 σ4 x4 sl4 y4 => ⟨m4, ρ4, st4, sl4, y4, PostS.ext x4 p3⟩
      | bk ρ4 st4 =>
        rw [ef] at p3
        exact p3
      | rt d4 st4 =>
        rw [ef] at p3
        exact p3
      | exc c4 ρ4 st4 =>
        rw [ef] at p3
        exact p3
      | bad => rw [ef] at p3; exact p3
end
end Ip
set_option Elab.async false
set_option linter.all false
set_option maxRecDepth 100000
set_option maxHeartbeats 4000000
namespace Ip
open PySem PySem.Spec PyProof.Rows L2 PySem.W PySem.SeqAt

/-! ### sorted: any data that are alike, empty tuples among them -/
section
variable {prog : Program} {w : World} {A : Around} {E : Value → Shared → Prop} {s : Shared}
theorem call_tuple_lt {E Q : Value → Shared → Prop} {l b : Addr} {xs ys : Array Value} {e r : Nat → Bool} (hl : s.heap.IsTuple l xs) (hb : s.heap.IsTuple b ys)
    (he : ∀ j (h1 : j < xs.size) (h2 : j < ys.size), EqAt A.in1 s xs[j] ys[j] (e j)) (hr : ∀ j (h1 : j < xs.size) (h2 : j < ys.size), e j = false → RcLt A.in1 s xs[j] ys[j] (r j))
    (k : Q (.bool (firstLt e r (decide (xs.size < ys.size)) (List.range (min xs.size ys.size)))) s) : wpAny (model prog w) A (call (.builtin "tuple.__lt__") [.ref l, .ref b]) Q E s := by
  obtain ⟨⟨c1, d1, data1, sl1⟩, ho1, hc1, n1, hd1⟩ := id hl
  obtain ⟨⟨c2, d2, data2, sl2⟩, ho2, hc2, n2, hd2⟩ := id hb
  dsimp only at hc1 hd1 hc2 hd2
  subst hc1 hd1 hc2 hd2
  exact call_meets PySem.F.slot_tuple_lt ⟨_, ho1, rfl⟩ PySem.F.entry_tuple_lt (PySem.F.args_tuple_lt_2 _ _) (tuple_ltAt l b xs ys n1 n2 d1 d2 sl1 sl2 e r) ⟨ho1, ho2, he, hr, k⟩
/-- oneLt on tuples, both of that type -/
theorem oneLt_tup {xs ys : List PyData} {a b : Value} {as bs : List Addr} {Q : Bool → Shared → Prop} (ra : Reads s.heap a (.tuple xs) as) (rb : Reads s.heap b (.tuple ys) bs) (h : alike (.tuple xs) (.tuple ys) = true)
    (hu : A.units + min (PyData.tuple xs).depth (PyData.tuple ys).depth < cLine) (q : Q (dataLt (.tuple xs) (.tuple ys)) s) : wpAny (model prog w) A (oneLt' true a b) Q E s := by
  have al : alikeAll xs ys = true := by simpa [alike] using h
  cases ra with
  | @tuple l o vs n _ as₁ h1 h2 h3 h4 =>
    cases rb with
    | @tuple l' o' ws n' _ bs₁ k1 k2 k3 k4 =>
      have z1 : vs.size = xs.length := by simpa using ReadsAll.length _ _ _ h4
      have z2 : ws.size = ys.length := by simpa using ReadsAll.length _ _ _ k4
      rw [dataLt_tuple, ← firstLt_toks xs ys al, ← z1, ← z2] at q
      rw [oneLt'_eq]
      simp only [if_true]
      refine wpAny_bind (wpAny_cRoomFor (room_here hu) ?_)
      refine wpAny_bind (wpAny_callSpecialIfBound?_slot (T := "tuple") ⟨_, h1, h2⟩ PySem.F.slot_tuple_lt (call_tuple_lt (e := pairEq xs ys) (r := fun j => dataLt (xs.getD j .none) (ys.getD j .none)) ⟨_, h1, h2, _, h3⟩ ⟨_, k1, k2, _, k3⟩ ?_ ?_ ?_))
      · intro j j1 j2
        have z := eqAt_alikeAll xs ys A.in1 s vs.toList ws.toList _ _ h4 k4 al (room_in hu) j (by simpa using j1) (by simpa using j2)
        simpa using z
      · intro j j1 j2 hj
        have z := rcLt_alikeAll xs ys A.in1 s vs.toList ws.toList _ _ h4 k4 al (room_in hu) j (by simpa using j1) (by simpa using j2) hj
        simpa using z
      · exact wpAny_truthy_bool q
def emT : PyData → Bool
  | .tuple [] => true
  | _ => false
theorem emT_iff {d : PyData} : emT d = true ↔ d = .tuple [] := by
  unfold emT
  split
  · simp
  · rename_i h
    exact ⟨fun z => by simp at z, fun z => absurd z (h ·)⟩
/-- the first items of tuples -/
theorem frs_of {M : Model} : ∀ {vs : List Value} {ds : List PyData} {Q : List (Option Value) → Shared → Prop}, EachIs (fun v d => ∃ as, Reads s.heap v d as) vs ds → (∀ d ∈ ds, ∃ xs, d = .tuple xs) →
    (∀ rs, rs.map (·.isSome) = ds.map (fun d => !emT d) → Q rs s) → wpAny M A (vs.mapM firstOfTuple') Q E s
  | _, _, Q, .nil, _, k => by rw [List.mapM_nil]; exact wpAny_pure (k [] rfl)
  | v :: vs, d :: ds, Q, .cons ⟨as, r⟩ t, ht, k => by
    obtain ⟨xs, rfl⟩ := ht d (List.mem_cons_self ..)
    rw [List.mapM_cons]
    cases r with
    | @tuple a o us n _ _ h1 h2 h3 h4 =>
      refine wpAny_bind ?_
      rw [kas_first_eq]
      refine wpAny_bind (Looks.here (show Looks M s.heap (typeOf (.ref a)) o.cls from (Looks.ld h1).andThen .now) ?_)
      rw [h2, if_neg (by decide)]
      refine wpAny_bind (listItems_at h1 h3 (wpAny_pure ?_))
      refine wpAny_bind (frs_of t (fun d hd => ht d (List.mem_cons_of_mem _ hd)) fun rs hrs => wpAny_pure (k _ ?_))
      rw [List.map_cons, List.map_cons, hrs]
      congr 1
      have z : us.size = xs.length := by simpa using ReadsAll.length _ _ _ h4
      cases xs with
      | nil =>
        have : us[0]? = none := Array.getElem?_eq_none (by rw [z]; exact Nat.le_refl _)
        rw [this]
        rfl
      | cons x xs =>
        have : us[0]? = some (us[0]'(by rw [z]; simp)) := Array.getElem?_eq_getElem _
        rw [this]
        rfl
theorem srt_at {vs : List Value} {ds : List PyData} (e : EachIs (fun v d => ∃ as, Reads s.heap v d as) vs ds) (hal : AllAlike ds) (hn : ∀ d, d ∈ ds → d ≠ .none) (hu : ∀ d, d ∈ ds → A.units + d.depth < cLine) : SortsAt prog w A s (dataKind s.heap ds) vs := by
  by_cases ht : ∀ d ∈ ds, ∃ xs, d = .tuple xs
  · by_cases hne : ∀ d ∈ ds, d ≠ .tuple []
    · refine SortsAt.data e hal (.inl fun d hd => ?_) hu
      obtain ⟨xs, rfl⟩ := ht d hd
      cases xs with
      | nil => exact absurd rfl (hne _ hd)
      | cons x r => exact ⟨x, r, rfl⟩
    · have room : ∀ {d d' : PyData}, d ∈ ds → A.units + min d.depth d'.depth < cLine := fun {d d'} hd => Nat.lt_of_le_of_lt (Nat.add_le_add_left (Nat.min_le_left _ _) _) (hu d hd)
      have notAll : ∀ rs : List (Option Value), rs.map (·.isSome) = ds.map (fun d => !emT d) → ¬ (rs.toArray.all fun x => x.isSome) = true := fun rs hrs z => hne fun d hd ed => by
        rw [List.all_toArray, List.all_eq_true] at z
        have : (false : Bool) ∈ rs.map (·.isSome) := by
          rw [hrs]
          exact List.mem_map.mpr ⟨d, hd, by rw [ed]; rfl⟩
        obtain ⟨x, hx, e⟩ := List.mem_map.mp this
        have := z x hx
        rw [e] at this; cases this
      cases ds with
      | nil => exact absurd (fun d hd => nomatch hd) hne
      | cons d₀ ds₀ =>
        have first : ∀ rs : List (Option Value), rs.map (·.isSome) = (d₀ :: ds₀).map (fun d => !emT d) → (rs.toArray[0]?.bind id).isSome = !emT d₀ := fun rs hrs => by
          cases rs with
          | nil => cases hrs
          | cons r rs =>
            have := (List.cons.inj hrs).1
            have this : r.isSome = !emT d₀ := this
            rw [← this]
            cases r <;> rfl
        refine ⟨fun v hv => ?_, ?_⟩
        · obtain ⟨d, hd, as, r⟩ := e.left v hv
          exact ⟨_, dataKind_some hal hd r⟩
        by_cases h0 : d₀ = .tuple []
        · refine ⟨oneType', fun E x y a b Q ha hb hq => ?_, fun h2 E Q hq => ?_⟩
          · obtain ⟨d, as, hd, ra, rfl⟩ := dataKind_inv ha
            obtain ⟨d', as', hd', rb, rfl⟩ := dataKind_inv hb
            rw [keyLt'_oneType]
            have al := hal d hd d' hd'
            have ro := room (d' := d') hd
            obtain ⟨xs, rfl⟩ := ht d hd
            obtain ⟨ys, rfl⟩ := ht d' hd'
            exact oneLt_tup ra rb al ro hq
          · rw [keyKind'_eq, List.mapM_toArray, map_eq_pure_bind]
            refine wpAny_bind (wpAny_bind (frs_of e ht fun rs hrs => wpAny_pure ?_))
            rw [if_neg (notAll rs hrs), first rs hrs, h0, if_neg (by decide)]
            rw [oneTypeOnly'_eq, List.mapM_toArray, map_eq_pure_bind]
            refine wpAny_bind (wpAny_bind (wpAny_bind (kas_mapM (r := Value.type "tuple") _ (fun v hv Q' hq' => ?_) (wpAny_pure ?_))))
            · obtain ⟨d, hd, as, r⟩ := e.left v hv
              obtain ⟨xs, rfl⟩ := ht d hd
              exact (looks_reads r).here hq'
            · have all : ((List.map (fun _ => Value.type "tuple") vs).toArray.all fun x => x == Value.type "tuple") = true := by
                rw [List.all_toArray, List.all_map, List.all_eq_true]
                intro _ _
                rfl
              have h0 : (List.map (fun _ => Value.type "tuple") vs).toArray[0]? = some (Value.type "tuple") := by
                cases vs with
                | nil => simp at h2
                | cons _ _ => simp
              rw [h0]
              simp only [all, if_true]
              exact wpAny_pure (wpAny_pure hq)
        · refine ⟨general', fun E x y a b Q ha hb hq => ?_, fun h2 E Q hq => ?_⟩
          · obtain ⟨d, as, hd, ra, rfl⟩ := dataKind_inv ha
            obtain ⟨d', as', hd', rb, rfl⟩ := dataKind_inv hb
            show wpAny (model prog w) A (oneLt' false x y) Q E s
            exact oneLt_alike (fun z => nomatch z) ra rb (hal d hd d' hd') (hn d hd) (room hd) hq
          · rw [keyKind'_eq, List.mapM_toArray, map_eq_pure_bind]
            refine wpAny_bind (wpAny_bind (frs_of e ht fun rs hrs => wpAny_pure ?_))
            rw [if_neg (notAll rs hrs), first rs hrs, if_pos (by
              cases hb : emT d₀ with
              | true => exact absurd (emT_iff.mp hb) h0
              | false => rfl)]
            exact wpAny_pure hq
  · refine SortsAt.data e hal (.inr fun d hd => ⟨hn d hd, fun xs ex => ht fun d' hd' => ?_⟩) hu
    have := hal d hd d' hd'
    rw [ex] at this
    cases d' with
    | tuple ys => exact ⟨ys, rfl⟩
    | _ => simp [alike] at this
end
/-! ### as a built-in function on data -/
def leD (x y : D) : Bool := PySem.W.dataLe false py x y
def srtOk (xs : List D) : Bool := okSs xs && (xs.all fun x => xs.all fun y => alike (py x) (py y)) && (xs.all fun x => match x with | .non => false | _ => true) && xs.all fun x => decide ((py x).depth ≤ 60)
def bSorted (st : Sto) : List D → Option D := one1 fun d => match itemsL st d with
  | some xs => if srtOk xs = true then some (.lst (xs.mergeSort leD)) else none
  | none => none
theorem pys_map : ∀ xs : List D, pys xs = xs.map py
  | [] => rfl
  | x :: xs => by
    show py x :: pys xs = _
    rw [pys_map xs]; rfl
section
variable {X : Cx}
theorem each_data {pins : List (Addr × Obj)} {s : Shared} {σ : L2.St} {H : Hp} {m : MX} (I : Inv X pins σ H s) : ∀ {xs : List D} {vs : List V} {us : List Value}, okSs xs = true → Reps X.K m H xs vs → Vals vs us → EachIs (fun u d => ∃ v, RelV v u ∧ Rep X.K m H d v ∧ ∃ as, Reads s.heap u (py d) as) us xs
  | [], _, _, _, r, ru => by
    rw [r.nil_inv] at ru
    cases ru
    exact .nil
  | x :: xs, _, _, h, r, ru => by
    have h' : (okS x && okSs xs) = true := h
    rw [Bool.and_eq_true] at h'
    obtain ⟨v, t, rfl, h1, h2⟩ := r.cons_inv
    cases ru with
    | cons ru rt =>
      obtain ⟨as, r1⟩ := Dp.reads I _ v _ (Rep.dp h'.1 h1) ru
      exact .cons ⟨v, ru, h1, as, r1⟩ (each_data I h'.2 h2 rt)
theorem each_reps {K : PySem.W.Frag} {m : MX} {H : Hp} {P : Value → D → Prop} : ∀ {us : List Value} {xs : List D}, EachIs (fun u d => ∃ v, RelV v u ∧ Rep K m H d v ∧ P u d) us xs → ∃ vs, Vals vs us ∧ Reps K m H xs vs
  | _, _, .nil => ⟨[], .nil, .nil⟩
  | _, _, .cons ⟨v, h1, h2, _⟩ t => by
    obtain ⟨vs, a, b⟩ := each_reps t
    exact ⟨v :: vs, .cons h1 a, .cons h2 b⟩
theorem cSorted (hu : X.A.units + 65 < cLine) : CallS X (.builtin "sorted") bSorted := by
  intro pins s σ H m st ds z vs us Q I hst rv ru ho q
  obtain ⟨d, rfl, ho2⟩ := one1_inv ho
  clear ho
  obtain ⟨v, rfl, r⟩ := reps1 rv
  split at ho2
  · rename_i xs e
    split at ho2
    · rename_i hc
      cases ho2
      obtain ⟨a, ws, rfl, h1, h2⟩ := itemsL_rep hst e r
      obtain ⟨its, rvs, hl, hz⟩ := I.list h1
      rw [Vals.ref1 ru]
      unfold srtOk at hc
      simp only [Bool.and_eq_true] at hc
      obtain ⟨⟨⟨c1, c2⟩, c3⟩, c4⟩ := hc
      have ed := each_data I c1 h2 rvs
      have hal : AllAlike (xs.map py) := fun d hd d' hd' => by
        obtain ⟨x, hx, rfl⟩ := List.mem_map.mp hd
        obtain ⟨y, hy, rfl⟩ := List.mem_map.mp hd'
        exact List.all_eq_true.mp (List.all_eq_true.mp c2 x hx) y hy
      have hn : ∀ d, d ∈ xs.map py → d ≠ .none := fun d hd => by
        obtain ⟨x, hx, rfl⟩ := List.mem_map.mp hd
        have n3 := List.all_eq_true.mp c3 x hx
        have ok : okS x = true := by
          have : ∀ {xs : List D}, okSs xs = true → ∀ x ∈ xs, okS x = true := fun {xs} => by
            induction xs with
            | nil => exact fun _ x hx => nomatch hx
            | cons y ys ih =>
              intro h x hx
              have h' : (okS y && okSs ys) = true := h
              rw [Bool.and_eq_true] at h'
              rcases List.mem_cons.mp hx with rfl | hx
              · exact h'.1
              · exact ih h'.2 x hx
          exact this c1 x hx
        cases x with
        | non => simp at n3
        | ref _ => cases ok
        | glo _ => cases ok
        | _ => intro z; cases z
      have er : EachIs (fun v b => ∃ as, Reads s.heap v (py b) as) its xs := ed.mono fun _ _ ⟨_, _, _, h⟩ => h
      have er' : EachIs (fun v b => ∃ as, Reads (sortingHeap (copyHeap s.heap its) (s.heap.objs.size + 1) its) v (py b) as) its xs := er.mono fun _ _ ⟨as, r⟩ => ⟨as, PyProof.Rows.Reads.keeps (fun _ _ => sorting_copy_old) r⟩
      have hs : SortsAt X.prog X.w X.A.in1.in1 { s with heap := sortingHeap (copyHeap s.heap its) (s.heap.objs.size + 1) its } (dataKind (sortingHeap (copyHeap s.heap its) (s.heap.objs.size + 1) its) (xs.map py)) its :=
        srt_at (s := { s with heap := sortingHeap (copyHeap s.heap its) (s.heap.objs.size + 1) its }) (each_map (R := fun v d => ∃ as, Reads (sortingHeap (copyHeap s.heap its) (s.heap.objs.size + 1) its) v d as) py er') hal hn (fun d hd => by
          obtain ⟨x, hx, rfl⟩ := List.mem_map.mp hd
          have := of_decide_eq_true (List.all_eq_true.mp c4 x hx)
          show X.A.units + 1 + 1 + _ < _
          omega)
      refine sorted_vals hl.isList hs (by rw [← rvs.length]; exact hz) ?_
      have eo := sortVals_data (R := fun u d => ∃ v, RelV v u ∧ Rep X.K m H d v ∧ True) (enc := py) false (ed.mono fun _ _ ⟨v, a, b, _⟩ => ⟨v, a, b, trivial⟩) er' hal
      obtain ⟨vs', r1, r2⟩ := each_reps (P := fun _ _ => True) eo
      obtain ⟨ep, he'⟩ := PyProof.Rows.sortedAll_at s.heap its (sortVals (dataKind (sortingHeap (copyHeap s.heap its) (s.heap.objs.size + 1) its) (xs.map py)) false its its).toArray
      have hlen : vs'.length ≤ sizeLine := by
        rw [r2.len, List.length_mergeSort, ← h2.len]
        exact hz
      have fr : H (s.heap.objs.size + 1) = none := I.hok.fresh (Nat.le_succ _)
      refine ⟨.ref _, upd H (s.heap.objs.size + 1) (.lst vs'), I.laid (t' := s.toks) (fun _ _ => PyProof.Rows.sortedAll_old) (Nat.le_succ _) ⟨hlen, _, ep, r1, he'⟩, rfl, q m _ _ (.new fr) (hst.new fr) (.lst_new hst fr r2)⟩
    · cases ho2
  · cases ho2
end
end Ip
set_option Elab.async false
set_option linter.all false
set_option maxRecDepth 100000
set_option maxHeartbeats 4000000
namespace Ip
open PySem PySem.Spec PyProof.Rows L2

section
variable {X : Cx} {W : WX} {e a b c : Expr} {pos p p2 : Pos} {x : Str}
/-- -e -/
def evNeg (f : Ev) : Ev := fun ρ st => (f ρ st).bind fun d st1 => match d with
  | .int i => .ok (.int (-i)) st1
  | _ => .bad
theorem e_neg {f : Ev} (h : PE X a (tE X.K W f)) : PE X (.UnaryOp .USub a pos) (tE X.K W (evNeg f)) := by
  refine PE_imp (pe_un un_neg h) fun σ H Q hw => ?_
  obtain ⟨m, ρ, st, hsl, hst, hp⟩ := hw
  refine tE_seq hsl hst hp fun v H1 m1 d st1 x1 sl1 y1 rv p1 => ?_
  cases d with
  | int i =>
    obtain rfl := iInt rv
    exact ⟨i, rfl, p1 m1 H1 .refl y1 _ rInt⟩
  | _ => exact p1.elim
/-- a name of the module that is an int -/
theorem e_gint {i : Int} (hg : Gl X x) (hm : ∃ t, X.mg x = some (.int i t)) (hd : (x == ("__debug__" : Str)) = false) : PE X (.Name x pos) (tE X.K W (evC (.int i))) := by
  obtain ⟨t, hm⟩ := hm
  exact e_const (pe_glob hg hm (v := .int i) ⟨t, rfl⟩ hd) fun _ _ => rInt
/-- list(range(..)), tuple(range(..)) -/
def rg1 (f : Ev) : Ea := fun ρ st => (f ρ st).bind fun d st1 => match d with
  | .int n => if n ≤ 1000000 then .ok (rng 0 n.toNat) st1 else .bad
  | _ => .bad
theorem rgV_rep {K : PySem.W.Frag} {m : MX} {H : Hp} {n : Int} : Reps K m H (rng 0 n.toNat) (rgV 0 n) := by
  have go : ∀ (l : List Nat), Reps K m H (l.map fun (i : Nat) => D.int (0 + i)) (l.map fun (i : Nat) => V.int (0 + i)) := fun l => by
    induction l with
    | nil => exact .nil
    | cons i l ih => exact .cons rInt ih
  have e : (n - 0).toNat = n.toNat := by omega
  unfold rng rgV
  rw [e]
  exact go _
theorem rg1_seq {f : Ev} {σ : L2.St} {H : Hp} {α : Type} {m : MX} {ρ : Sl} {st : Sto} {g : List D → Sto → R α} {P : α → Sto → MX → Hp → Prop} {Q : Int → Int → Hp → Prop} (hsl : RepSl X.K m H ρ σ) (hst : RepSt X.K m H st) (hp : Post X.K W σ m H ((rg1 f ρ st).bind g) P)
    (k : ∀ n H1 m1 st1, Ext X.K m H m1 H1 → RepSt X.K m1 H1 st1 → n ≤ 1000000 → Post X.K W σ m1 H1 (g (rng 0 n.toNat) st1) P → RgOk 0 n → Q 0 n H1) (lo : ∀ n : Int, n ≤ 1000000 → -(2 ^ 62) ≤ n) : tRg1 (tE X.K W f) σ H Q := by
  unfold rg1 at hp
  rw [bind_assoc] at hp
  refine tE_seq hsl hst hp fun v H1 m1 d st1 x1 sl1 y1 rv p1 => ?_
  cases d with
  | int n =>
    obtain rfl := iInt rv
    by_cases h : n ≤ 1000000
    · simp only [h, if_true] at p1
      exact ⟨n, rfl, k n H1 m1 st1 x1 y1 h p1 ⟨by omega, by omega, lo n h, by omega, by omega⟩⟩
    · simp only [h, if_false] at p1
      exact p1.elim
  | _ => exact p1.elim
def rg1' (f : Ev) : Ea := fun ρ st => (f ρ st).bind fun d st1 => match d with
  | .int n => if 0 ≤ n ∧ n ≤ 1000000 then .ok (rng 0 n.toNat) st1 else .bad
  | _ => .bad
theorem rg1'_seq {f : Ev} {σ : L2.St} {H : Hp} {α : Type} {m : MX} {ρ : Sl} {st : Sto} {g : List D → Sto → R α} {P : α → Sto → MX → Hp → Prop} {Q : Int → Int → Hp → Prop} (hsl : RepSl X.K m H ρ σ) (hst : RepSt X.K m H st) (hp : Post X.K W σ m H ((rg1' f ρ st).bind g) P)
    (k : ∀ n H1 m1 st1, Ext X.K m H m1 H1 → RepSt X.K m1 H1 st1 → Post X.K W σ m1 H1 (g (rng 0 n.toNat) st1) P → RgOk 0 n → Q 0 n H1) : tRg1 (tE X.K W f) σ H Q := by
  unfold rg1' at hp
  rw [bind_assoc] at hp
  refine tE_seq hsl hst hp fun v H1 m1 d st1 x1 sl1 y1 rv p1 => ?_
  cases d with
  | int n =>
    obtain rfl := iInt rv
    by_cases h : 0 ≤ n ∧ n ≤ 1000000
    · simp only [h, and_self, if_true] at p1
      exact ⟨n, rfl, k n H1 m1 st1 x1 y1 p1 ⟨by omega, by omega, by omega, by omega, by omega⟩⟩
    · simp only [h, if_false] at p1
      exact p1.elim
  | _ => exact p1.elim
theorem n_listRg {f : Ev} (hc : X.calm = true) (hl : Gl X "list") (hml : X.mg "list" = none) (hr : Gl X "range") (hmr : X.mg "range" = none) (ha : PE X a (tE X.K W f)) (na : starEach [a] X.env = (false, eval a X.env) :: starEach [] X.env)
    (ne : starEach [Expr.Call (.Name "range" p2) [a] [] p] X.env = (false, eval (Expr.Call (.Name "range" p2) [a] [] p) X.env) :: starEach [] X.env) {q1 q2 : Pos} : PE X (.Call (.Name "list" q1) [.Call (.Name "range" p2) [a] [] p] [] q2) (tN X.K W (rg1' f)) := by
  refine PE_imp (pe_listRg hc hl hml (prg_1 hr hmr ha na) ne) fun σ H Q hw => ?_
  obtain ⟨m, ρ, st, hsl, hst, hp⟩ := hw
  have hp' : Post X.K W σ m H ((rg1' f ρ st).bind fun ds st => .ok ds st) (fun ds _ m' H' => ∀ a vs, H' a = none → Reps X.K m' H' ds vs → vs.length ≤ sizeLine → Q (.ref a) (upd H' a (.lst vs))) := by
    have e : ((rg1' f ρ st).bind fun ds st => .ok ds st) = rg1' f ρ st := by cases rg1' f ρ st <;> rfl
    rw [e]; exact hp
  refine rg1'_seq hsl hst hp' fun n H1 m1 st1 x y p1 ok => ?_
  refine ⟨ok, fun q hq => p1 m1 H1 .refl y q (rgV 0 n) hq rgV_rep ?_⟩
  obtain ⟨_, _, _, _, k⟩ := ok
  rw [rgV_length]
  exact Nat.le_trans k (by decide)
def evT (g : Ea) : Ev := fun ρ st => (g ρ st).bind fun ds st1 => .ok (.tup ds) st1
theorem e_tupRg {f : Ev} (hc : X.calm = true) (hl : Gl X "tuple") (hml : X.mg "tuple" = none) (hr : Gl X "range") (hmr : X.mg "range" = none) (ha : PE X a (tE X.K W f)) (na : starEach [a] X.env = (false, eval a X.env) :: starEach [] X.env)
    (ne : starEach [Expr.Call (.Name "range" p2) [a] [] p] X.env = (false, eval (Expr.Call (.Name "range" p2) [a] [] p) X.env) :: starEach [] X.env) {q1 q2 : Pos} : PE X (.Call (.Name "tuple" q1) [.Call (.Name "range" p2) [a] [] p] [] q2) (tE X.K W (evT (rg1' f))) := by
  refine PE_imp (pe_tupRg hc hl hml (prg_1 hr hmr ha na) ne) fun σ H Q hw => ?_
  obtain ⟨m, ρ, st, hsl, hst, hp⟩ := hw
  refine rg1'_seq hsl hst hp fun n H1 m1 st1 x y p1 ok => ?_
  exact ⟨ok, fun q hq => p1 m1 _ (.new hq) (y.new hq) _ (.tup_new hq rgV_rep)⟩
/-- name = [..] on one line -/
theorem s_setLc {elt tg iter : Expr} {ifs : List Expr} {scope : Scope} {own : List (Str × Nat)} {ts : List Nat} {i : Nat} {py spos : Pos} {it : Ea} {g : Tg} {t : Eb} {f : Ev} (hc : X.calm = true) (hN : X.N.Nodup) (hy : X.N[i]? = some x) (hyl : X.env.scope.names.lookup x = some .local)
    (hsw : swapsWith (.ListComp elt [⟨tg, iter, ifs, 0⟩] scope pos) (some (.Name x py)) spos.line X.env = pure true) (hi : PI X tg iter (tI X.K W it)) (ok : BlkOk X.N X.env.scope scope own)
    (hg : ∀ s H C cl fp, PG (X.blk s H scope (compEnvC scope cl C X.env) fp) tg (tG X.K ts g)) (ht : ∀ s H C cl fp, PTs (X.blk s H scope (compEnvC scope cl C X.env) fp) ifs (tT X.K WF t))
    (he : ∀ s H C cl fp, PE (X.blk s H scope (compEnvC scope cl C X.env) fp) elt (tE X.K WF f)) (hs : ∀ x, foldedSetIterable iter X.env x = pure x) (ho : ∀ i ∈ ts, i ∈ own.map (·.2)) :
    PS X (.Assign [.Name x py] (.ListComp elt [⟨tg, iter, ifs, 0⟩] scope pos) spos) (tS X.K W (sSet i (evLc (own.map (·.2)) it g t f))) := by
  refine PS_imp (ps_setLc hc hN hy hyl hsw hi ok hg ht he hs) fun D σ H hw => ?_
  obtain ⟨m, ρ, st, hsl, hst, hp⟩ := hw
  exact tLc_of ho (sE hsl hst hp fun v H1 m1 d st1 x1 sl1 y1 rv p1 => p1 m1 H1 _ .refl (sl1.set rv) y1)
theorem s_setLc2 {elt tg iter tg1 iter1 : Expr} {ifs ifs1 : List Expr} {scope : Scope} {own : List (Str × Nat)} {ts ts1 vs1 : List Nat} {i : Nat} {py spos : Pos} {it it1 : Ea} {g g1 : Tg} {t t1 : Eb} {f : Ev} (hc : X.calm = true) (hN : X.N.Nodup) (hy : X.N[i]? = some x) (hyl : X.env.scope.names.lookup x = some .local)
    (hsw : swapsWith (.ListComp elt [⟨tg, iter, ifs, 0⟩, ⟨tg1, iter1, ifs1, 0⟩] scope pos) (some (.Name x py)) spos.line X.env = pure true) (hi : PI X tg iter (tI X.K W it)) (ok : BlkOk X.N X.env.scope scope own) (hv : ∀ i ∈ vs1, i ∈ own.map (·.2))
    (hg : ∀ s H C cl fp, PG (X.blk s H scope (compEnvC scope cl C X.env) fp) tg (tG X.K ts g)) (ht : ∀ s H C cl fp, PTs (X.blk s H scope (compEnvC scope cl C X.env) fp) ifs (tT X.K WF t))
    (hi1 : ∀ s H C cl fp, PI (X.blk s H scope (compEnvC scope cl C X.env) fp) tg1 iter1 (tI X.K WF it1))
    (hg1 : ∀ s H C cl fp, PG (X.blk s H scope (compEnvC scope cl C X.env) fp) tg1 (tG X.K ts1 g1)) (ht1 : ∀ s H C cl fp, PTs (X.blk s H scope (compEnvC scope cl C X.env) fp) ifs1 (tT X.K WF t1))
    (he : ∀ s H C cl fp, PE (X.blk s H scope (compEnvC scope cl C X.env) fp) elt (tE X.K WF f)) (hs : ∀ x, foldedSetIterable iter X.env x = pure x) (hs1 : ∀ env x, foldedSetIterable iter1 env x = pure x) (ho : ∀ i ∈ ts, i ∈ own.map (·.2)) (ho1 : ∀ i ∈ ts1, i ∈ vs1) :
    PS X (.Assign [.Name x py] (.ListComp elt [⟨tg, iter, ifs, 0⟩, ⟨tg1, iter1, ifs1, 0⟩] scope pos) spos) (tS X.K W (sSet i (evLc2 (own.map (·.2)) vs1 it g t it1 g1 t1 f))) := by
  refine PS_imp (ps_setLc2 hc hN hy hyl hsw hi ok hv hg ht hi1 hg1 ht1 he hs hs1) fun D σ H hw => ?_
  obtain ⟨m, ρ, st, hsl, hst, hp⟩ := hw
  exact tLc2_of ho ho1 (sE hsl hst hp fun v H1 m1 d st1 x1 sl1 y1 rv p1 => p1 m1 H1 _ .refl (sl1.set rv) y1)
/-- raise X('..') -/
def ExcHas (X : Cx) (x : Str) : Prop := (He.Fa.exc x).ok X.K = true ∧ X.mg x = some (.ref (He.ga X.K x))
theorem s_raise {z : Str} {j : Nat} {p3 : Pos} (hc : X.calm = true) (tk : L2N.Takes X W) (h : ExcHas X x) (hg : Gl X x) (hd : (x == ("__debug__" : Str)) = false) : PS X (.Raise (some (.Call (.Name x p) [.Constant (.str z) j p2] [] p3)) none pos) (tS X.K W (sExc x)) := by
  obtain ⟨h1, h2⟩ := h
  obtain ⟨q1, q2, q3, q4⟩ := He.exc_ok h1
  refine PS_imp (L2N.ps_raise hc tk (L2N.pmk_own F.excBase_ValueError q1 h2 q2 (raises_own q3 q4) hg hd)) fun D σ H hw => ?_
  obtain ⟨m, ρ, st, hsl, hst, hp⟩ := hw
  exact hp m H σ .refl hsl hst
end

/-! ### a def's end -/
mutual
/-- no mutable list in there -/
def rfree : D → Bool
  | .tup xs => rfrees xs
  | .lst xs => rfrees xs
  | .scr xs => rfrees xs
  | .ref _ => false
  | _ => true
def rfrees : List D → Bool
  | [] => true
  | x :: xs => rfree x && rfrees xs
end
section
variable {K : PySem.W.Frag} {m m' : MX} {H : Hp}
mutual
theorem Rep.less (hl : ∀ a, m.has a → m'.has a) : ∀ {d : D} {v : V}, rfree d = true → Rep K m' H d v → Rep K m H d v
  | .non, _, _, h => by simpa only [Rep] using h
  | .bl _, _, _, h => by simpa only [Rep] using h
  | .int _, _, _, h => by simpa only [Rep] using h
  | .str _, _, _, h => by simpa only [Rep] using h
  | .glo _, _, _, h => by simpa only [Rep] using h
  | .tup ds, _, f, h => by
    simp only [Rep] at h ⊢
    obtain ⟨a, vs, rfl, h1, h2⟩ := h
    exact ⟨a, vs, rfl, h1, Reps.less hl f h2⟩
  | .lst ds, _, f, h => by
    simp only [Rep] at h ⊢
    obtain ⟨a, vs, rfl, h1, h3, h2⟩ := h
    exact ⟨a, vs, rfl, h1, fun z => h3 (hl a z), Reps.less hl f h2⟩
  | .scr ds, _, f, h => by
    simp only [Rep] at h ⊢
    obtain ⟨a, vs, rfl, h1, h2⟩ := h
    exact ⟨a, vs, rfl, h1.imp (fun ⟨x, y⟩ => ⟨x, fun z => y (hl a z)⟩) id, Reps.less hl f h2⟩
  | .ref n, _, f, _ => by cases f
theorem Reps.less (hl : ∀ a, m.has a → m'.has a) : ∀ {ds : List D} {vs : List V}, rfrees ds = true → Reps K m' H ds vs → Reps K m H ds vs
  | [], _, _, h => by simpa only [Reps] using h
  | d :: ds, _, f, h => by
    have f' : (rfree d && rfrees ds) = true := f
    rw [Bool.and_eq_true] at f'
    obtain ⟨v, r, rfl, h1, h2⟩ := h.cons_inv
    exact .cons (Rep.less hl f'.1 h1) (Reps.less hl f'.2 h2)
end
end
/-- the caller's store: what the def made is gone -/
def cutSt (k : Nat) (st : Sto) : Option Sto := if st.length = k then some st else if k < st.length ∧ (st.take k).all rfrees = true then some (st.take k) else none
def cutVal (k : Nat) (st : Sto) (d : D) : Option D := if st.length = k then some d else match d with
  | .ref n => if n < k then some (.ref n) else (match st[n]? with
    | some xs => if rfrees xs = true then some (.lst xs) else none
    | none => none)
  | d => if rfree d = true then some d else none
def fnEnd (keep : Bool) (k : Nat) : RS → R D
  | .rt d st => if keep = true then .ok d st else match cutVal k st d, cutSt k st with
    | some d', some st' => .ok d' st'
    | _, _ => .bad
  | .nx _ st => match cutSt k st with
    | some st' => .ok .non st'
    | none => .bad
  | .exc c _ st => match cutSt k st with
    | some st' => .exc c st'
    | none => .bad
  | _ => .bad
/-- the slots at the start -/
def slots0 (n : Nat) (ds : List D) : Sl := ds.map some ++ List.replicate (n - ds.length) none
def fnRun (keep : Bool) (n : Nat) (b : Es) : Fn := fun ds st => fnEnd keep st.length (b (slots0 n ds) st)
section
variable {K : PySem.W.Frag} {m m' : MX} {H H' : Hp} {st st' : Sto}
theorem cut_rep {st2 : Sto} (e : Ext K m H m' H') (hst : RepSt K m H st) (hst' : RepSt K m' H' st') (hc : cutSt st.length st' = some st2) : Ext K m H m H' ∧ RepSt K m H' st2 ∧ (st'.length = st.length → m' = m ∧ st2 = st') ∧ (∀ a, m.has a → m'.has a) := by
  obtain ⟨r, e1, f1⟩ := e.pre
  have ex : Ext K m H m H' := ⟨⟨[], m.add_nil.symm, fun _ z => nomatch z⟩, e.kp, e.kt, e.kz, e.th⟩
  have hh : ∀ a, m.has a → m'.has a := fun a z => by
    rw [e1]
    exact z.imp (fun z => List.mem_append_left _ z) id
  have len : m'.l.length = m.l.length + r.length := by rw [e1]; exact List.length_append
  unfold cutSt at hc
  split at hc
  · rename_i hl
    cases hc
    have hr : r = [] := by
      have h1 := hst.len
      have h2 := hst'.len
      exact List.length_eq_zero_iff.mp (by omega)
    subst hr
    rw [MX.add_nil] at e1
    subst e1
    exact ⟨ex, hst', fun _ => ⟨rfl, rfl⟩, hh⟩
  · rename_i hl
    split at hc
    · rename_i hk
      cases hc
      refine ⟨ex, ⟨?_, hst.nd, fun n xs q => ?_, fun a ha => hst'.bz a (by rw [e.xs]; exact ha)⟩, fun z => absurd z hl, hh⟩
      · rw [List.length_take, hst.len]
        have := hk.1
        omega
      · have hn : n < st.length := by
          have := (List.getElem?_eq_some_iff.mp q).1
          rw [List.length_take] at this
          omega
        rw [List.getElem?_take, if_pos hn] at q
        obtain ⟨a, vs, h1, h2, h3⟩ := hst'.get q
        refine ⟨a, vs, ?_, h2, Reps.less hh (List.all_eq_true.mp hk.2 xs (List.mem_iff_getElem?.mpr ⟨n, by rw [List.getElem?_take, if_pos hn]; exact q⟩)) h3⟩
        rw [e1] at h1
        have h1 : (m.l ++ r)[n]? = some a := h1
        rw [List.getElem?_append_left (by rw [hst.len]; exact hn)] at h1
        exact h1
    · cases hc
theorem cutVal_rep {d d' : D} {v : V} (e : Ext K m H m' H') (hst : RepSt K m H st) (hst' : RepSt K m' H' st') {st2 : Sto} (hs : cutSt st.length st' = some st2) (hc : cutVal st.length st' d = some d') (r : Rep K m' H' d v) : Rep K m H' d' v := by
  obtain ⟨ex, _, same, hh⟩ := cut_rep e hst hst' hs
  unfold cutVal at hc
  split at hc
  · rename_i hl
    cases hc
    rw [(same hl).1] at r
    exact r
  · split at hc
    · rename_i n
      simp only [Rep] at r
      obtain ⟨a, rfl, h1⟩ := r
      obtain ⟨t, e1, f1⟩ := e.pre
      split at hc
      · rename_i hn
        cases hc
        simp only [Rep]
        refine ⟨a, rfl, ?_⟩
        rw [e1] at h1
        have h1 : (m.l ++ t)[n]? = some a := h1
        rw [List.getElem?_append_left (by rw [hst.len]; exact hn)] at h1
        exact h1
      · rename_i hn
        split at hc
        · rename_i xs q
          split at hc
          · rename_i hf
            cases hc
            obtain ⟨b, vs, k1, k2, k3⟩ := hst'.get q
            rw [h1] at k1; cases k1
            simp only [Rep]
            refine ⟨a, vs, rfl, .inl k2, fun z => ?_, Reps.less hh hf k3⟩
            rcases z with z | z
            · obtain ⟨i, hi, ei⟩ := List.mem_iff_getElem.mp z
              have : m'.l[i]? = some a := e.get (by rw [List.getElem?_eq_getElem hi, ei])
              have := ndx hst'.ndl this h1
              rw [hst.len] at hi
              omega
            · exact hst'.apart (List.mem_of_getElem? h1) (by rw [e.xs]; exact z)
          · cases hc
        · cases hc
    · split at hc
      · rename_i hf
        cases hc
        exact Rep.less hh hf r
      · cases hc
theorem RepSl.begin_ {ds : List D} {vs : List V} {n : Nat} (N : List Str) (hn : N.length = n) (r : Reps K m H ds vs) : RepSl K m H (slots0 n ds) (start N vs) := by
  unfold slots0 L2.start
  refine ⟨by simp [r.len, hn], fun i d q => ?_⟩
  by_cases hi : i < ds.length
  · rw [List.getElem?_append_left (by simpa using hi), List.getElem?_map] at q
    obtain ⟨d', e1, e2⟩ := Option.map_eq_some_iff.mp q
    cases e2
    obtain ⟨v, h1, h2⟩ := r.get e1
    refine ⟨v, ?_, h2⟩
    rw [List.getElem?_append_left (by rw [List.length_map, r.len]; exact hi), List.getElem?_map, h1]
    rfl
  · rw [List.getElem?_append_right (by simpa using hi), List.getElem?_replicate] at q
    split at q <;> cases q
/-- a def's promise from its body's reading -/
theorem fn_post {keep : Bool} {b : Es} {ds : List D} {vs : List V} {N : List Str} {n : Nat} {E : XK} {Q : VK} (hn : N.length = n) (r : Reps K m H ds vs) (hst : RepSt K m H st) (hp : Post K (fun c d _ H' => E c d H') [] m H (fnRun keep n b ds st) (PQ K Q)) :
    tS K (fun c d _ H' => E c d H') b { nx := fun _ H' => Q .non H', rt := Q } (start N vs) H := by
  refine ⟨m, _, st, RepSl.begin_ N hn r, hst, ?_⟩
  unfold fnRun at hp
  cases e : b (slots0 n ds) st with
  | rt d st' =>
    rw [e] at hp
    intro m' H' v x y rv
    simp only [fnEnd] at hp
    split at hp
    · exact hp m' H' x y v rv
    · split at hp
      · rename_i d' st2 e1 e2
        obtain ⟨x2, y2, _, _⟩ := cut_rep x hst y e2
        exact hp m H' x2 y2 v (cutVal_rep x hst y e2 e1 rv)
      · exact hp.elim
  | nx ρ st' =>
    rw [e] at hp
    intro m' H' σ' x sl y
    simp only [fnEnd] at hp
    split at hp
    · rename_i st2 e2
      obtain ⟨x2, y2, _, _⟩ := cut_rep x hst y e2
      exact hp m H' x2 y2 _ rNon
    · exact hp.elim
  | exc c ρ st' =>
    rw [e] at hp
    intro m' H' σ' x sl y
    simp only [fnEnd] at hp
    split at hp
    · rename_i st2 e2
      obtain ⟨x2, y2, _, _⟩ := cut_rep x hst y e2
      exact hp m H' x2 y2
    · exact hp.elim
  | bk ρ st' => rw [e] at hp; exact hp.elim
  | ct ρ st' => rw [e] at hp; exact hp.elim
  | bad => rw [e] at hp; exact hp.elim
end
end Ip
set_option Elab.async false
set_option linter.all false
set_option maxRecDepth 100000
set_option maxHeartbeats 4000000
namespace Ip
open PySem PySem.Spec PyProof.Rows L2

/-! ### what is known where a text is read -/
structure Ctx where
  N : List Str
  sc : Scope
  fnl : Str → Bool
  lv : Nat
  fns : List (Str × Nat × Fn)
  gis : List (Str × Int)
  excs : List Str
  mu : List Str
/-- the names of built-in things that may be used -/
def bltn : List Str := ["len", "all", "any", "sum", "max", "min", "sorted", "tuple", "list", "int", "bool", "range", "enumerate", "zip", "isinstance", "str"]
structure Cpt (Γ : Ctx) (X : Cx) (W : WX) : Prop where
  N : X.N = Γ.N
  nd : Γ.N.Nodup
  sc : X.env.scope = Γ.sc
  fnl : X.fn = Γ.fnl
  calm : X.calm = true
  room : Room Γ.lv X.A
  un : X.A.units + 65 < cLine
  fns : ∀ q ∈ Γ.fns, FnHas X q.1 q.2.1 Γ.lv q.2.2
  gis : ∀ q ∈ Γ.gis, ∃ t, X.mg q.1 = some (.int q.2 t)
  excs : ∀ q ∈ Γ.excs, ExcHas X q
  blt : ∀ q ∈ bltn, X.mg q = none
  tk : L2N.Takes X W
/-- inside a comprehension -/
def Ctx.blk (Γ : Ctx) (scope : Scope) : Ctx := { Γ with sc := relS scope Γ.sc, fnl := fun x => scope.names.lookup x == some .cell }
theorem takesF {X : Cx} : L2N.Takes X WF := fun _ _ x => by
  obtain ⟨_, _, _, _, _, _, _, _, _, _, _, _, _, _, _, _, z⟩ := x
  exact z.elim
theorem Cpt.blk {Γ : Ctx} {X : Cx} {W : WX} (h : Cpt Γ X W) {scope : Scope} {s : Shared} {H : Hp} {C : Addr} {cl : List (Str × Addr)} {fp : List Addr} : Cpt (Γ.blk scope) (X.blk s H scope (compEnvC scope cl C X.env) fp) WF where
  N := h.N
  nd := h.nd
  sc := by
    show relS scope X.env.scope = relS scope Γ.sc
    rw [h.sc]
  fnl := rfl
  calm := h.calm
  room := h.room
  un := h.un
  fns := h.fns
  gis := h.gis
  excs := h.excs
  blt := h.blt
  tk := takesF
section
variable {Γ : Ctx} {X : Cx} {W : WX}
theorem Cpt.gl (h : Cpt Γ X W) {x : Str} (e : Γ.sc.names.lookup x = some .globalImplicit) : Gl X x := by
  show X.env.scope.names.lookup x = _
  rw [h.sc]; exact e
theorem Cpt.vis (h : Cpt Γ X W) {x : Str} (e : Vis Γ.sc x) : Vis X.env.scope x := by rw [h.sc]; exact e
theorem Cpt.ndX (h : Cpt Γ X W) : X.N.Nodup := by rw [h.N]; exact h.nd
theorem Cpt.ix (h : Cpt Γ X W) {i : Nat} {x : Str} (e : Γ.N[i]? = some x) : X.N[i]? = some x := by rw [h.N]; exact e
end
/-! ### what a reading is -/
structure CE (Γ : Ctx) (e : Expr) where
  f : Ev
  ok : ∀ {X : Cx} {W : WX}, Cpt Γ X W → PE X e (tE X.K W f)
structure CN (Γ : Ctx) (e : Expr) where
  f : Ea
  ok : ∀ {X : Cx} {W : WX}, Cpt Γ X W → PE X e (tN X.K W f)
structure CT (Γ : Ctx) (e : Expr) where
  f : Eb
  ok : ∀ {X : Cx} {W : WX}, Cpt Γ X W → PT X e (tT X.K W f)
structure CTw (Γ : Ctx) (e : Expr) where
  f : Eb
  ok : ∀ {X : Cx} {W : WX}, Cpt Γ X W → PW X e (tT X.K W f)
structure CQ (Γ : Ctx) (es : List Expr) where
  f : Eb
  ok : ∀ {X : Cx} {W : WX}, Cpt Γ X W → PTs X es (tT X.K W f)
structure CA (Γ : Ctx) (es : List Expr) where
  f : Ea
  ok : ∀ {X : Cx} {W : WX}, Cpt Γ X W → PA X es (tA X.K W f)
structure CO (Γ : Ctx) (e : Option Expr) where
  f : Eo
  ok : ∀ {X : Cx} {W : WX}, Cpt Γ X W → PO X e (tO X.K W f)
structure CI (Γ : Ctx) (tg e : Expr) where
  f : Ea
  ok : ∀ {X : Cx} {W : WX}, Cpt Γ X W → PI X tg e (tI X.K W f)
structure CG (Γ : Ctx) (e : Expr) where
  ts : List Nat
  f : Tg
  ok : ∀ {X : Cx} {W : WX}, Cpt Γ X W → PG X e (tG X.K ts f)
structure CGs (Γ : Ctx) (es : List Expr) where
  ts : List Nat
  f : Tgs
  ok : ∀ {X : Cx} {W : WX}, Cpt Γ X W → PGs X es (tGs X.K ts f)
structure Cs where
  e : (Γ : Ctx) → (e : Expr) → Option (CE Γ e)
  t : (Γ : Ctx) → (e : Expr) → Option (CT Γ e)
  i : (Γ : Ctx) → (tg e : Expr) → Option (CI Γ tg e)
  g : (Γ : Ctx) → (e : Expr) → Option (CG Γ e)

/-! ### side conditions that are looked up in the text -/
def notStar : Expr → Bool
  | .Starred .. => false
  | _ => true
theorem notStar_each {e : Expr} (h : notStar e = true) (es : List Expr) (env : Env) : starEach (e :: es) env = (false, eval e env) :: starEach es env := by
  cases e <;> first | rfl | cases h
theorem stars_plain : ∀ {es : List Expr} {env : Env} {pos : Pos}, es.all notStar = true → (backTo pos (starEach es env)).any (·.1) = false
  | [], _, _, _ => rfl
  | e :: es, env, pos, h => by
    rw [List.all_cons, Bool.and_eq_true] at h
    rw [notStar_each h.1]
    have ih := stars_plain (env := env) (pos := pos) h.2
    unfold backTo at ih ⊢
    rw [List.map_cons, List.any_cons, ih]
    rfl
theorem notStar_assign {e : Expr} (h : notStar e = true) (es : List Expr) (env : Env) : assignEach (e :: es) env = (false, assign e env) :: assignEach es env := by
  cases e <;> first | rfl | cases h
theorem stars_assign : ∀ {es : List Expr} {env : Env}, es.all notStar = true → (assignEach es env).length = es.length ∧ (assignEach es env).findIdx? (·.1) = none
  | [], _, _ => ⟨rfl, rfl⟩
  | e :: es, env, h => by
    rw [List.all_cons, Bool.and_eq_true] at h
    rw [notStar_assign h.1]
    obtain ⟨h1, h2⟩ := stars_assign (env := env) h.2
    refine ⟨by rw [List.length_cons, List.length_cons, h1], ?_⟩
    rw [List.findIdx?_cons, h2]
    rfl
def notSet : Expr → Bool
  | .Set .. => false
  | _ => true
theorem notSet_fold {e : Expr} (h : notSet e = true) (env : Env) (x : Value) : foldedSetIterable e env x = pure x := by
  cases e <;> first | rfl | cases h
theorem notSet_in {e : Expr} (h : notSet e = true) (op : CmpOp) : behindInMarks op e = false := by
  cases e <;> first | rfl | cases h
def notComp : Expr → Bool
  | .ListComp .. => false
  | .SetComp .. => false
  | .DictComp .. => false
  | _ => true
theorem notComp_swap {e : Expr} (h : notComp e = true) (t : Option Expr) (l : Nat) (env : Env) : swapsWith e t l env = pure false := by
  cases e <;> first | rfl | cases h
def plainTest : Expr → Bool
  | .UnaryOp .Not _ _ => false
  | .BoolOp .. => false
  | .IfExp .. => false
  | .Compare .. => false
  | _ => true
theorem plain_test {e : Expr} (h : plainTest e = true) (env : Env) (w : Sem Value) : isTrue e env w = (do let v ← w; standAt e.pos; holding [v] (truthy v)) := by
  cases e with
  | UnaryOp op x p => cases op <;> first | rfl | cases h
  | _ => first | rfl | cases h
def ixPlain : Expr → Bool
  | .Slice .. => false
  | _ => true
theorem ix_plain {e : Expr} (h : ixPlain e = true) : PlainIx e := by
  intro o i
  cases e <;> first | rfl | cases h
def baseName : Expr → Bool
  | .Name .. => true
  | _ => false
theorem base_name {e : Expr} (h : baseName e = true) (m : Str) (env : Env) (w : Sem Value) : attributeBase e m env w = w := by
  cases e <;> first | rfl | cases h

/-! ### operators -/
structure BO (op : Operator) where
  o : Sto → D → D → Option D
  ok : ∀ {X : Cx}, OpS X (binaryOp op) o
def boOf : (op : Operator) → Option (BO op)
  | .Add => some ⟨oAdd, opAdd⟩
  | .Sub => some ⟨oSub, opSub⟩
  | .Mult => some ⟨oMul, opMul⟩
  | .FloorDiv => some ⟨oDiv, opDiv⟩
  | .Mod => some ⟨oMod, opMod⟩
  | .Pow => some ⟨oPow, opPow⟩
  | _ => none
structure PO' (op : CmpOp) where
  o : Sto → D → D → Option D
  ok : ∀ {X : Cx}, X.A.units + 65 < cLine → OpS X (compareOp op) o
def poOf : (op : CmpOp) → PO' op
  | .Eq => ⟨oEq, fun h => opEq (Nat.lt_of_succ_lt h)⟩
  | .NotEq => ⟨oNe, fun h => opNe (Nat.lt_of_succ_lt h)⟩
  | .Lt => ⟨oLt, fun _ => opLt⟩
  | .LtE => ⟨oLe, fun _ => opLe⟩
  | .Gt => ⟨oGt, fun _ => opGt⟩
  | .GtE => ⟨oGe, fun _ => opGe⟩
  | .Is => ⟨oIs, fun _ => opIs⟩
  | .IsNot => ⟨oIsNot, fun _ => opIsNot⟩
  | .In => ⟨oIn, opIn⟩
  | .NotIn => ⟨oNotIn, opNotIn⟩
/-! ### built-in functions by their names -/
structure BF (x : Str) where
  o : Sto → List D → Option D
  mem : x ∈ bltn
  nn : x ≠ "__name__"
  db : (x == ("__debug__" : Str)) = false
  ok : (∃ id, bootBuiltins x = some (.builtin id) ∧ ∀ {X : Cx}, X.calm = true → X.A.units + 65 < cLine → CallS X (.builtin id) o) ∨ ∃ T, bootBuiltins x = some (.type T) ∧ ∀ {X : Cx}, CallS X (.type T) o
def bfOf (x : Str) : Option (BF x) :=
  if h : x = "len" then some ⟨bLen, by subst h; decide +kernel, by subst h; decide +kernel, by subst h; decide +kernel, by subst h; exact .inl ⟨"len", boot_len, fun _ _ => cLen⟩⟩ else
  if h : x = "all" then some ⟨bAll, by subst h; decide +kernel, by subst h; decide +kernel, by subst h; decide +kernel, by subst h; exact .inl ⟨"all", boot_all, fun h _ => cAll h⟩⟩ else
  if h : x = "any" then some ⟨bAny, by subst h; decide +kernel, by subst h; decide +kernel, by subst h; decide +kernel, by subst h; exact .inl ⟨"any", boot_any, fun h _ => cAny h⟩⟩ else
  if h : x = "sum" then some ⟨bSum, by subst h; decide +kernel, by subst h; decide +kernel, by subst h; decide +kernel, by subst h; exact .inl ⟨"sum", boot_sum, fun h _ => cSum h⟩⟩ else
  if h : x = "max" then some ⟨bMax, by subst h; decide +kernel, by subst h; decide +kernel, by subst h; decide +kernel, by subst h; exact .inl ⟨"max", boot_max, fun h _ => cMax h⟩⟩ else
  if h : x = "min" then some ⟨bMin, by subst h; decide +kernel, by subst h; decide +kernel, by subst h; decide +kernel, by subst h; exact .inl ⟨"min", boot_min, fun h _ => cMin h⟩⟩ else
  if h : x = "sorted" then some ⟨bSorted, by subst h; decide +kernel, by subst h; decide +kernel, by subst h; decide +kernel, by subst h; exact .inl ⟨"sorted", boot_sorted, fun _ h => cSorted h⟩⟩ else
  if h : x = "tuple" then some ⟨bTuple, by subst h; decide +kernel, by subst h; decide +kernel, by subst h; decide +kernel, by subst h; exact .inr ⟨"tuple", boot_tuple, cTuple⟩⟩ else
  if h : x = "list" then some ⟨bList, by subst h; decide +kernel, by subst h; decide +kernel, by subst h; decide +kernel, by subst h; exact .inr ⟨"list", boot_list, cList⟩⟩ else
  if h : x = "int" then some ⟨bInt, by subst h; decide +kernel, by subst h; decide +kernel, by subst h; decide +kernel, by subst h; exact .inr ⟨"int", boot_int, cInt⟩⟩ else
  if h : x = "bool" then some ⟨bBool, by subst h; decide +kernel, by subst h; decide +kernel, by subst h; decide +kernel, by subst h; exact .inr ⟨"bool", boot_bool, cBool⟩⟩ else
  none

theorem BF.run {x : Str} (b : BF x) {Γ : Ctx} {X : Cx} {W : WX} (h : Cpt Γ X W) {e : Expr} {es : List Expr} {g : Ea} {p pos : Pos} (hx : Γ.sc.names.lookup x = some .globalImplicit) (hs : (e :: es).all notStar = true) (ha : PA X (e :: es) (tA X.K W g)) : PE X (.Call (.Name x p) (e :: es) [] pos) (tE X.K W (evB b.o g)) := by
  rw [List.all_cons, Bool.and_eq_true] at hs
  rcases b.ok with ⟨id, h1, h2⟩ | ⟨T, h1, h2⟩
  · exact e_callB (h2 h.calm h.un) (h.gl hx) (h.blt x b.mem) h1 ha b.nn b.db (notStar_each hs.1 _ _) (stars_plain hs.2)
  · exact e_callTy h2 (h.gl hx) (h.blt x b.mem) h1 ha b.nn b.db (notStar_each hs.1 _ _) (stars_plain hs.2)
def tyOf (y : Str) : Option { T : Ty // bootBuiltins y = some (.type T.name) ∧ y ∈ bltn ∧ y ≠ "__name__" ∧ (y == ("__debug__" : Str)) = false } :=
  if h : y = "int" then some ⟨.int, by subst h; exact ⟨boot_int, by decide +kernel, by decide +kernel, by decide +kernel⟩⟩ else
  if h : y = "bool" then some ⟨.bool, by subst h; exact ⟨boot_bool, by decide +kernel, by decide +kernel, by decide +kernel⟩⟩ else
  if h : y = "tuple" then some ⟨.tuple, by subst h; exact ⟨boot_tuple, by decide +kernel, by decide +kernel, by decide +kernel⟩⟩ else
  if h : y = "list" then some ⟨.list, by subst h; exact ⟨boot_list, by decide +kernel, by decide +kernel, by decide +kernel⟩⟩ else
  if h : y = "str" then some ⟨.str, by subst h; exact ⟨boot_str, by decide +kernel, by decide +kernel, by decide +kernel⟩⟩ else
  none
theorem mem_bltn {x y : Str} (h : y = x) (m : x ∈ bltn) : y ∈ bltn := h ▸ m
theorem m_isinst : ("isinstance" : Str) ∈ bltn := by decide +kernel
theorem m_range : ("range" : Str) ∈ bltn := by decide +kernel
theorem m_enumerate : ("enumerate" : Str) ∈ bltn := by decide +kernel
theorem m_zip : ("zip" : Str) ∈ bltn := by decide +kernel
theorem m_list : ("list" : Str) ∈ bltn := by decide +kernel
theorem m_tuple : ("tuple" : Str) ∈ bltn := by decide +kernel

/-! ### the reader: one level, over readings of the parts -/
section
variable (c : Cs) (Γ : Ctx)
def cA : (es : List Expr) → Option (CA Γ es)
  | [] => some ⟨eaNil, fun _ => a_nil⟩
  | e :: es => match c.e Γ e, cA es with
    | some x, some r => if h : notStar e = true then some ⟨eaCons x.f r.f, fun k => a_cons (x.ok k) (r.ok k) (notStar_each h _ _)⟩ else none
    | _, _ => none
def cAnd (pos : Pos) : (es : List Expr) → Option (CE Γ (.BoolOp .And es pos))
  | [] => none
  | a :: es => match c.e Γ a with
    | none => none
    | some x => match es with
      | [] => some ⟨x.f, fun k => e_one (x.ok k)⟩
      | b :: rest => match cAnd pos (b :: rest) with
        | some r => some ⟨evAnd x.f r.f, fun k => e_and (x.ok k) (r.ok k)⟩
        | none => none
def cOr (pos : Pos) : (es : List Expr) → Option (CE Γ (.BoolOp .Or es pos))
  | [] => none
  | a :: es => match c.e Γ a with
    | none => none
    | some x => match es with
      | [] => some ⟨x.f, fun k => e_one (x.ok k)⟩
      | b :: rest => match cOr pos (b :: rest) with
        | some r => some ⟨evOr x.f r.f, fun k => e_or (x.ok k) (r.ok k)⟩
        | none => none
def cTAnd (pos : Pos) : (es : List Expr) → Option (CTw Γ (.BoolOp .And es pos))
  | [] => none
  | a :: es => match c.t Γ a with
    | none => none
    | some x => match es with
      | [] => some ⟨x.f, fun k => t_and1 (x.ok k)⟩
      | b :: rest => match cTAnd pos (b :: rest) with
        | some r => some ⟨ebAnd x.f r.f, fun k => t_and (x.ok k) (r.ok k)⟩
        | none => none
def cTOr (pos : Pos) : (es : List Expr) → Option (CTw Γ (.BoolOp .Or es pos))
  | [] => none
  | a :: es => match c.t Γ a with
    | none => none
    | some x => match es with
      | [] => some ⟨x.f, fun k => t_or1 (x.ok k)⟩
      | b :: rest => match cTOr pos (b :: rest) with
        | some r => some ⟨ebOr x.f r.f, fun k => t_or (x.ok k) (r.ok k)⟩
        | none => none
instance (sc : Scope) (x : Str) : Decidable (Vis sc x) := by unfold Vis; infer_instance
instance (sc : Scope) (x : Str) : Decidable (L2.Loc sc x) := by unfold L2.Loc; infer_instance
def cName (x : Str) (pos : Pos) : Option (CE Γ (.Name x pos)) :=
  if hd : (x == ("__debug__" : Str)) = false then
    if hc : (x == ("__classdict__" : Str)) = false then
      if hv : Vis Γ.sc x then
        match Γ.N.idxOf? x with
        | some i => if hi : Γ.N[i]? = some x then some ⟨evVar i, fun k => e_var (k.ix hi) (k.vis hv) hd hc⟩ else none
        | none => none
      else if hg : Γ.sc.names.lookup x = some .globalImplicit then
        match Γ.gis.find? fun q => q.1 == x with
        | some q => if hq : q ∈ Γ.gis ∧ q.1 = x then some ⟨evC (.int q.2), fun k => e_gint (k.gl hg) (hq.2 ▸ k.gis q hq.1) hd⟩ else none
        | none => none
      else none
    else none
  else none
def cSl : (lo : Option Expr) → Option (CO Γ lo)
  | none => some ⟨eoNone, fun _ => o_none⟩
  | some e => match c.e Γ e with
    | some x => some ⟨eoSome x.f, fun k => o_some (x.ok k)⟩
    | none => none
def fnFind (x : Str) : Option (Nat × Fn) := (Γ.fns.find? fun q => q.1 == x).map (·.2)
theorem fnFind_mem {x : Str} {q : Nat × Fn} (h : fnFind Γ x = some q) : (x, q) ∈ Γ.fns := by
  unfold fnFind at h
  obtain ⟨p, h1, rfl⟩ := Option.map_eq_some_iff.mp h
  have h2 := List.find?_some h1
  have h3 := List.mem_of_find?_eq_some h1
  have e : p.1 = x := eq_of_beq h2
  rw [← e]
  exact h3
def cCall (x : Str) (p : Pos) (es : List Expr) (pos : Pos) : Option (CE Γ (.Call (.Name x p) es [] pos)) :=
  if hd : (x == ("__debug__" : Str)) = false then
    if hg : Γ.sc.names.lookup x = some .globalImplicit then
      match hf : fnFind Γ x with
      | some q => match es with
        | [] => some ⟨evCall q.1 q.2 eaNil, fun k => e_call0 (k.fns _ (fnFind_mem Γ hf)) k.room (k.gl hg) hd k.tk⟩
        | e :: es => match cA c Γ (e :: es) with
          | some g => if hs : (e :: es).all notStar = true then some ⟨evCall q.1 q.2 g.f, fun k => by
              have hs' := hs
              rw [List.all_cons, Bool.and_eq_true] at hs'
              exact e_call (k.fns _ (fnFind_mem Γ hf)) k.room (k.gl hg) hd k.tk (g.ok k) (notStar_each hs'.1 _ _) (stars_plain hs'.2)⟩ else none
          | none => none
      | none => match es with
        | [a, .Name y p3] => if hi : x = "isinstance" then (match tyOf y, c.e Γ a with
          | some T, some f => if hy : notStar a = true ∧ Γ.sc.names.lookup y = some .globalImplicit then some ⟨evIs T.1 f.f, fun k => by
              subst hi
              exact e_isinst (k.gl hg) (k.blt _ m_isinst) (f.ok k) (k.gl hy.2) (k.blt _ T.2.2.1) T.2.1 T.2.2.2.1 T.2.2.2.2 (notStar_each hy.1 _ _)⟩ else none
          | _, _ => none) else (match bfOf x, cA c Γ [a, .Name y p3] with
            | some b, some g => if hs : [a, .Name y p3].all notStar = true then some ⟨evB b.o g.f, fun k => b.run k hg hs (g.ok k)⟩ else none
            | _, _ => none)
        | e :: es => match bfOf x, cA c Γ (e :: es) with
          | some b, some g => if hs : (e :: es).all notStar = true then some ⟨evB b.o g.f, fun k => b.run k hg hs (g.ok k)⟩ else none
          | _, _ => none
        | [] => none
    else none
  else none
/-- list(range(n)) -/
def cListRg (x : Str) (q1 : Pos) (y : Str) (p2 : Pos) (a : Expr) (p q2 : Pos) : Option (CN Γ (.Call (.Name x q1) [.Call (.Name y p2) [a] [] p] [] q2)) :=
  if h : x = "list" ∧ y = "range" ∧ notStar a = true ∧ Γ.sc.names.lookup x = some .globalImplicit ∧ Γ.sc.names.lookup y = some .globalImplicit then
    match c.e Γ a with
    | some f => some ⟨rg1' f.f, fun k => by
        obtain ⟨h1, h2, h3, h4, h5⟩ := h
        subst h1 h2
        exact n_listRg k.calm (k.gl h4) (k.blt _ m_list) (k.gl h5) (k.blt _ m_range) (f.ok k) (notStar_each h3 _ _) rfl⟩
    | none => none
  else none
def cTupRg (x : Str) (q1 : Pos) (y : Str) (p2 : Pos) (a : Expr) (p q2 : Pos) : Option (CE Γ (.Call (.Name x q1) [.Call (.Name y p2) [a] [] p] [] q2)) :=
  if h : x = "tuple" ∧ y = "range" ∧ notStar a = true ∧ Γ.sc.names.lookup x = some .globalImplicit ∧ Γ.sc.names.lookup y = some .globalImplicit then
    match c.e Γ a with
    | some f => some ⟨evT (rg1' f.f), fun k => by
        obtain ⟨h1, h2, h3, h4, h5⟩ := h
        subst h1 h2
        exact e_tupRg k.calm (k.gl h4) (k.blt _ m_tuple) (k.gl h5) (k.blt _ m_range) (f.ok k) (notStar_each h3 _ _) rfl⟩
    | none => none
  else none
def cCallE (x : Str) (p : Pos) (es : List Expr) (pos : Pos) : Option (CE Γ (.Call (.Name x p) es [] pos)) := match es with
  | [.Call (.Name y p2) [a] [] p3] => match cListRg c Γ x p y p2 a p3 pos with
    | some r => some ⟨evL r.f, fun k => e_ofN (r.ok k)⟩
    | none => match cTupRg c Γ x p y p2 a p3 pos with
      | some r => some r
      | none => cCall c Γ x p [.Call (.Name y p2) [a] [] p3] pos
  | es => cCall c Γ x p es pos
def cMeth (o : Expr) (m : Str) (apos : Pos) (es : List Expr) (cpos : Pos) : Option (CE Γ (.Call (.Attribute o m apos) es [] cpos)) := match es with
  | [e] => match c.e Γ o, cA c Γ [e] with
    | some fo, some g => if h : baseName o = true ∧ (apos.endLine == cpos.line) = true ∧ notStar e = true then
        if hm : m = "append" then some ⟨evMR mApp fo.f g.f, fun k => by subst hm; exact e_app (fo.ok k) (g.ok k) (base_name h.1 _ _ _) h.2.1 (notStar_each h.2.2 _ _)⟩ else
        if hm : m = "pop" then some ⟨evMR mPop fo.f g.f, fun k => by subst hm; exact e_pop (fo.ok k) (g.ok k) (base_name h.1 _ _ _) h.2.1 (notStar_each h.2.2 _ _)⟩ else
        if hm : m = "index" then some ⟨evML mIdx fo.f g.f, fun k => by subst hm; exact e_idx k.un (fo.ok k) (g.ok k) (base_name h.1 _ _ _) h.2.1 (notStar_each h.2.2 _ _)⟩ else
        none
      else none
    | _, _ => none
  | _ => none
/-- a block's own names, with their places -/
def ownOf (scope : Scope) : List (Str × Nat) := (Γ.N.zipIdx).filter fun p => decide (scope.names.lookup p.1 = some .local) || decide (scope.names.lookup p.1 = some .cell)
def cQ (Γ : Ctx) : (ifs : List Expr) → Option (CQ Γ ifs)
  | [] => some ⟨ebYes, fun _ => q_nil⟩
  | [a] => match c.t Γ a with
    | some x => some ⟨x.f, fun k => q_one (x.ok k)⟩
    | none => none
  | _ => none
def cLc (elt : Expr) (gs : List Comprehension) (scope : Scope) (pos : Pos) : Option (CE Γ (.ListComp elt gs scope pos)) := match gs with
  | [⟨tg, iter, ifs, 0⟩] => if hb : blkC Γ.N Γ.sc scope (ownOf Γ scope) = true ∧ notSet iter = true then
      match c.i Γ tg iter, c.g (Γ.blk scope) tg, cQ c (Γ.blk scope) ifs, c.e (Γ.blk scope) elt with
      | some it, some g, some t, some f => if ho : ∀ i ∈ g.ts, i ∈ (ownOf Γ scope).map (·.2) then
          some ⟨evLc ((ownOf Γ scope).map (·.2)) it.f g.f t.f f.f, fun {X W} k => e_lc k.calm k.ndX (it.ok k) (by rw [k.N, k.sc]; exact blkOk_by hb.1) (fun s H C cl fp => g.ok k.blk) (fun s H C cl fp => t.ok k.blk) (fun s H C cl fp => f.ok k.blk) (fun x => notSet_fold hb.2 _ x) ho⟩ else none
      | _, _, _, _ => none
    else none
  | [⟨tg, iter, ifs, 0⟩, ⟨tg1, iter1, ifs1, 0⟩] => if hb : blkC Γ.N Γ.sc scope (ownOf Γ scope) = true ∧ notSet iter = true ∧ notSet iter1 = true then
      match c.i Γ tg iter, c.g (Γ.blk scope) tg, cQ c (Γ.blk scope) ifs, c.i (Γ.blk scope) tg1 iter1, c.g (Γ.blk scope) tg1, cQ c (Γ.blk scope) ifs1, c.e (Γ.blk scope) elt with
      | some it, some g, some t, some it1, some g1, some t1, some f => if ho : (∀ i ∈ g.ts, i ∈ (ownOf Γ scope).map (·.2)) ∧ (∀ i ∈ g1.ts, i ∈ (ownOf Γ scope).map (·.2)) then
          some ⟨evLc2 ((ownOf Γ scope).map (·.2)) g1.ts it.f g.f t.f it1.f g1.f t1.f f.f, fun {X W} k => e_lc2 k.calm k.ndX (it.ok k) (by rw [k.N, k.sc]; exact blkOk_by hb.1) ho.2 (fun s H C cl fp => g.ok k.blk) (fun s H C cl fp => t.ok k.blk) (fun s H C cl fp => it1.ok k.blk) (fun s H C cl fp => g1.ok k.blk) (fun s H C cl fp => t1.ok k.blk)
            (fun s H C cl fp => f.ok k.blk) (fun x => notSet_fold hb.2.1 _ x) (fun env x => notSet_fold hb.2.2 _ x) ho.1 fun _ h => h⟩ else none
      | _, _, _, _, _, _, _ => none
    else none
  | _ => none
def stepE : (e : Expr) → Option (CE Γ e)
  | .Name x pos => cName Γ x pos
  | .Constant (.int i) j pos => some ⟨evC (.int i), fun _ => e_int⟩
  | .Constant (.bool i) j pos => some ⟨evC (.bl i), fun _ => e_bl⟩
  | .Constant .none j pos => some ⟨evC .non, fun _ => e_non⟩
  | .Constant (.str x) j pos => some ⟨evC (.str x), fun _ => e_str⟩
  | .BinOp a op b pos => match c.e Γ a, c.e Γ b, boOf op with
    | some x, some y, some o => some ⟨evOp o.o x.f y.f, fun k => e_op o.ok (x.ok k) (y.ok k)⟩
    | _, _, _ => none
  | .UnaryOp .Not a pos => match c.e Γ a with
    | some x => some ⟨evNot x.f, fun k => e_not (x.ok k)⟩
    | none => none
  | .UnaryOp .USub a pos => match c.e Γ a with
    | some x => some ⟨evNeg x.f, fun k => e_neg (x.ok k)⟩
    | none => none
  | .BoolOp .And es pos => cAnd c Γ pos es
  | .BoolOp .Or es pos => cOr c Γ pos es
  | .IfExp t a b pos => match c.t Γ t, c.e Γ a, c.e Γ b with
    | some x, some y, some z => some ⟨evIf x.f y.f z.f, fun k => e_if (x.ok k) (y.ok k) (z.ok k)⟩
    | _, _, _ => none
  | .Compare a [op] [b] pos => match c.e Γ a, c.e Γ b with
    | some x, some y => if h : notSet b = true then some ⟨evOp (poOf op).o x.f y.f, fun k => e_cmp ((poOf op).ok k.un) (x.ok k) (y.ok k) (notSet_in h _)⟩ else none
    | _, _ => none
  | .Compare a [op, op'] [b, d] pos => match c.e Γ a, c.e Γ b, c.e Γ d with
    | some x, some y, some z => if h : notSet d = true then some ⟨evChain (poOf op).o (poOf op').o x.f y.f z.f, fun k => e_chain ((poOf op).ok k.un) ((poOf op').ok k.un) (x.ok k) (y.ok k) (z.ok k) (notSet_in h _)⟩ else none
    | _, _, _ => none
  | .Tuple es k pos => match cA c Γ es with
    | some g => some ⟨evTup g.f, fun h => e_tup (g.ok h)⟩
    | none => none
  | .List es pos => match cA c Γ es with
    | some g => some ⟨evL (elDisp g.f), fun h => e_ofN (n_disp (g.ok h))⟩
    | none => none
  | .Subscript a (.Slice none none (some (.UnaryOp .USub (.Constant (.int 1) k p1) p2)) p3) pos => match c.e Γ a with
    | some x => some ⟨evRevL x.f, fun h => e_revL (x.ok h)⟩
    | none => none
  | .Subscript a (.Slice lo hi none p2) pos => match c.e Γ a, cSl c Γ lo, cSl c Γ hi with
    | some x, some l, some h => some ⟨evSl x.f l.f h.f, fun k => e_slice (x.ok k) (l.ok k) (h.ok k)⟩
    | _, _, _ => none
  | .Subscript a b pos => match c.e Γ a, c.e Γ b with
    | some x, some y => if h : ixPlain b = true then some ⟨evOp oIx x.f y.f, fun k => e_ix (x.ok k) (y.ok k) (ix_plain h)⟩ else none
    | _, _ => none
  | .ListComp elt gs scope pos => cLc c Γ elt gs scope pos
  | .Call (.Name x p) es [] pos => cCallE c Γ x p es pos
  | .Call (.Attribute o m apos) es [] pos => cMeth c Γ o m apos es pos
  | _ => none
def stepT : (e : Expr) → Option (CT Γ e)
  | .Compare a [op] [b] pos => match c.e Γ a, c.e Γ b with
    | some x, some y => if h : notSet b = true then some ⟨ebOf (evOp (poOf op).o x.f y.f), fun k => t_cmp ((poOf op).ok k.un) (x.ok k) (y.ok k) (notSet_in h _)⟩ else none
    | _, _ => none
  | .BoolOp .And es pos => match cTAnd c Γ pos es with
    | some x => some ⟨x.f, fun k => (x.ok k).pt⟩
    | none => none
  | .BoolOp .Or es pos => match cTOr c Γ pos es with
    | some x => some ⟨x.f, fun k => (x.ok k).pt⟩
    | none => none
  | .UnaryOp .Not a pos => match c.t Γ a with
    | some x => some ⟨ebNot x.f, fun k => t_not (x.ok k)⟩
    | none => none
  | e => match c.e Γ e with
    | some x => if h : plainTest e = true then some ⟨ebOf x.f, fun k => t_val (x.ok k) (plain_test h _)⟩ else none
    | none => none
def stepI (tg : Expr) : (e : Expr) → Option (CI Γ tg e)
  | .Call (.Name x p) [a] [] pos => if h : x = "range" ∧ notStar a = true ∧ Γ.sc.names.lookup x = some .globalImplicit then (match cA c Γ [a] with
      | some g => some ⟨itR1 g.f, fun k => by
          obtain ⟨h1, h2, h3⟩ := h
          subst h1
          exact i_range1 (k.gl h3) (k.blt _ m_range) (g.ok k) (notStar_each h2 _ _)⟩
      | none => none)
    else if h : x = "enumerate" ∧ notStar a = true ∧ Γ.sc.names.lookup x = some .globalImplicit then (match tg with
      | .Tuple elts kk tpos => (match cA c Γ [a] with
        | some g => some ⟨itEn g.f, fun k => by
            obtain ⟨h1, h2, h3⟩ := h
            subst h1
            exact i_enum (k.gl h3) (k.blt _ m_enumerate) (g.ok k) (notStar_each h2 _ _)⟩
        | none => none)
      | _ => none)
    else match c.e Γ (.Call (.Name x p) [a] [] pos) with
      | some f => some ⟨itVal f.f, fun k => i_val (f.ok k)⟩
      | none => none
  | .Call (.Name x p) [a, b] [] pos => if h : x = "range" ∧ notStar a = true ∧ notStar b = true ∧ Γ.sc.names.lookup x = some .globalImplicit then (match cA c Γ [a, b] with
      | some g => some ⟨itR2 g.f, fun k => by
          obtain ⟨h1, h2, h2', h3⟩ := h
          subst h1
          exact i_range2 (k.gl h3) (k.blt _ m_range) (g.ok k) (by rw [notStar_each h2, notStar_each h2']; rfl) (notStar_each h2' _ _)⟩
      | none => none)
    else if h : x = "zip" ∧ notStar a = true ∧ notStar b = true ∧ Γ.sc.names.lookup x = some .globalImplicit then (match tg with
      | .Tuple elts kk tpos => (match cA c Γ [a, b] with
        | some g => some ⟨itZip g.f, fun k => by
            obtain ⟨h1, h2, h2', h3⟩ := h
            subst h1
            exact i_zip (k.gl h3) (k.blt _ m_zip) (g.ok k) (notStar_each h2 _ _) (stars_plain (by rw [List.all_cons, h2']; rfl))⟩
        | none => none)
      | _ => none)
    else match c.e Γ (.Call (.Name x p) [a, b] [] pos) with
      | some f => some ⟨itVal f.f, fun k => i_val (f.ok k)⟩
      | none => none
  | e => match c.e Γ e with
    | some f => some ⟨itVal f.f, fun k => i_val (f.ok k)⟩
    | none => none
def cGs : (es : List Expr) → Option (CGs Γ es)
  | [] => some ⟨[], gsNil, fun _ => gs_nil⟩
  | e :: es => match c.g Γ e, cGs es with
    | some x, some r => if h : notStar e = true then some ⟨x.ts ++ r.ts, gsCons x.f r.f, fun k => gs_cons (x.ok k) (r.ok k) (by rw [notStar_assign h]; rfl)⟩ else none
    | _, _ => none
def stepG : (e : Expr) → Option (CG Γ e)
  | .Name x pos => match Γ.N.idxOf? x with
    | some i => if h : Γ.N[i]? = some x ∧ L2.Loc Γ.sc x ∧ (Γ.fnl x = true ∨ Γ.sc.names.lookup x = some .local) then some ⟨[i], gN i, fun k => g_name k.ndX (k.ix h.1) (by rw [k.sc]; exact h.2.1) (by rw [k.sc, k.fnl]; exact h.2.2)⟩ else none
    | none => none
  | .Tuple es k pos => match cGs c Γ es with
    | some g => if h : es.all notStar = true then some ⟨g.ts, gT es.length g.f, fun k => g_tup k.calm (g.ok k) (stars_assign h).1 (stars_assign h).2⟩ else none
    | none => none
  | _ => none
end
def step (c : Cs) : Cs := ⟨stepE c, stepT c, stepI c, stepG c⟩
def cs : Nat → Cs
  | 0 => ⟨fun _ _ => none, fun _ _ => none, fun _ _ _ => none, fun _ _ => none⟩
  | n + 1 => step (cs n)
end Ip
set_option Elab.async false
set_option linter.all false
set_option maxRecDepth 100000
set_option maxHeartbeats 4000000
namespace Ip
open PySem PySem.Spec PyProof.Rows L2

/-! ### statements -/
structure CptS (Γ : Ctx) (X : Cx) (W : WX) : Prop extends Cpt Γ X W where
  po : PassesOwn (model X.prog X.w) X.A X.env X.xe
structure CS (Γ : Ctx) (s : Stmt) where
  f : Es
  ok : ∀ {X : Cx} {W : WX}, CptS Γ X W → PS X s (tS X.K W f)
structure CB (Γ : Ctx) (s : List Stmt) where
  f : Es
  ok : ∀ {X : Cx} {W : WX}, CptS Γ X W → PSs X s (tS X.K W f)
theorem sw_false {elt : Expr} {gs : List Comprehension} {scope : Scope} {pos py : Pos} {y : Str} {l : Nat} {env : Env} (hk : env.scope.kind = .function)
    (h : (decide (env.scope.names.lookup y = some .local) && (py.line == pos.line) && !(scope.names.any fun (n, k) => n == y && (k == .local || k == .cell))) = false) : swapsWith (.ListComp elt gs scope pos) (some (.Name y py)) l env = pure false := by
  have hb : env.blockKind = .function := by unfold Env.blockKind; rw [hk]; rfl
  unfold swapsWith
  simp only [hb, Env.kindOf, Expr.pos]
  have e : (env.scope.names.lookup y == some .local) = decide (env.scope.names.lookup y = some .local) := by
    rw [Bool.eq_iff_iff]; simp
  have e2 : (ScopeKind.function == ScopeKind.function && List.lookup y env.scope.names == some NameKind.local && py.line == pos.line && !scope.names.any fun x => x.1 == y && (x.2 == NameKind.local || x.2 == NameKind.cell)) = false := by
    rw [e]; exact h
  exact congrArg pure e2
def sw_no (e : Expr) (Γ : Ctx) (y : Str) (py : Pos) : Bool := match e with
  | .ListComp _ _ scope pos => !(decide (Γ.sc.names.lookup y = some .local) && (py.line == pos.line) && !(scope.names.any fun (n, k) => n == y && (k == .local || k == .cell)))
  | e => notComp e
theorem sw_no_ok {e : Expr} {Γ : Ctx} {y : Str} {py : Pos} {X : Cx} {W : WX} (k : Cpt Γ X W) (hk : Γ.sc.kind = .function) (h : sw_no e Γ y py = true) (l : Nat) : swapsWith e (some (.Name y py)) l X.env = pure false := by
  cases e with
  | ListComp elt gs scope pos =>
    refine sw_false (by rw [k.sc]; exact hk) ?_
    rw [k.sc]
    have h : (!(decide (Γ.sc.names.lookup y = some .local) && (py.line == pos.line) && !(scope.names.any fun (n, k) => n == y && (k == .local || k == .cell)))) = true := h
    rw [Bool.not_eq_true'] at h
    exact h
  | SetComp _ _ _ _ => cases h
  | DictComp _ _ _ _ _ => cases h
  | _ => rfl
/-- a, b = .. with plain local names, not of constants -/
def parOk (Γ : Ctx) (x y : Str) (px py : Pos) (a b : Expr) : Bool :=
  decide (Γ.sc.kind = .function) && notStar a && notStar b && decide (Γ.sc.names.lookup x = some .local) && decide (Γ.sc.names.lookup y = some .local) && (py.line == px.line) && !decide (x = y) && !([a, b].all (foldedForSure 8)) && !([a, b].all (constantsAlone 8))
theorem any_stars {vs : List Expr} (h : vs.all notStar = true) {f : Expr → Bool} (hf : ∀ e, notStar e = true → f e = false) : ¬ (vs.any f) = true := by
  rw [List.any_eq_true]
  rintro ⟨e, he, hx⟩
  rw [hf e (List.all_eq_true.mp h e he)] at hx
  cases hx
theorem par_some {Γ : Ctx} {x y : Str} {px py pt pt2 : Pos} {kt k2 : Nat} {a b : Expr} {env : Env} (hsc : env.scope = Γ.sc) (h : parOk Γ x y px py a b = true) :
    swappedStores [.Tuple [.Name x px, .Name y py] kt pt] (.Tuple [a, b] k2 pt2) env = pure (some [x, y]) := by
  unfold parOk at h
  simp only [Bool.and_eq_true, decide_eq_true_eq, Bool.not_eq_true', decide_eq_false_iff_not] at h
  obtain ⟨⟨⟨⟨⟨⟨⟨⟨h1, h2⟩, h3⟩, h4⟩, h5⟩, h6⟩, h7⟩, h8⟩, h9⟩ := h
  have hb : env.blockKind = .function := by unfold Env.blockKind; rw [hsc, h1]; rfl
  have kx : env.kindOf x = some .local := by unfold Env.kindOf; rw [hsc]; exact h4
  have ky : env.kindOf y = some .local := by unfold Env.kindOf; rw [hsc]; exact h5
  unfold swappedStores
  have e1 : ∀ f : Expr → Option Str, f (.Name x px) = some x → f (.Name y py) = some y → [Expr.Name x px, Expr.Name y py].filterMap f = [x, y] := fun f hx hy => by
    simp [hx, hy]
  have g1 : (if (env.kindOf x == some .local && px.line == px.line) = true then some x else none) = some x := if_pos (by rw [kx]; simp)
  have g2 : (if (env.kindOf y == some .local && py.line == px.line) = true then some y else none) = some y := if_pos (by rw [ky, h6]; rfl)
  have e2 : [x, y].eraseDups.length = 2 := by
    have : (y == x) = false := by
      rw [beq_eq_false_iff_ne]
      exact fun z => h7 z.symm
    simp [List.eraseDups_cons, this]
  dsimp only
  refine (if_neg (by rw [hb]; exact Bool.false_ne_true)).trans ?_
  refine (if_neg (any_stars (by rw [List.all_cons, List.all_cons, h2, h3]; rfl) fun e he => by cases e <;> first | rfl | cases he)).trans ?_
  refine (if_neg (by rw [e1 _ g1 g2, e2]; exact Bool.false_ne_true)).trans ?_
  refine (if_neg (by rw [h8]; decide)).trans ?_
  refine (if_neg (by rw [h9]; decide)).trans ?_
  rw [e1 _ g1 g2]
def notTuple : Expr → Bool
  | .Tuple .. => false
  | .List .. => false
  | _ => true
theorem stores_none {tg e : Expr} (h : notTuple e = true ∨ notTuple tg = true) (env : Env) : swappedStores [tg] e env = pure none := by
  rcases h with h | h
  · cases tg <;> cases e <;> first | rfl | cases h
  · cases tg <;> cases e <;> first | rfl | cases h
/-- a, b = 1, 2: no exchange of stores -/
theorem stores_const {ts vs : List Expr} {pt pt2 : Pos} {kt k2 : Nat} {env : Env} (h : vs.all (foldedForSure 8) = true) : swappedStores [.Tuple ts kt pt] (.Tuple vs k2 pt2) env = pure none := by
  unfold swappedStores
  dsimp only
  split
  · rfl
  split
  · rfl
  split
  · rfl
  first | exact if_pos h | rfl
section
variable (c : Cs) (Γ : Ctx)
def cN : (e : Expr) → Option (CN Γ e)
  | .List es pos => match cA c Γ es with
    | some g => some ⟨elDisp g.f, fun h => n_disp (g.ok h)⟩
    | none => none
  | .Call (.Name x q1) [.Call (.Name y p2) [a] [] p] [] q2 => cListRg c Γ x q1 y p2 a p q2
  | _ => none
def cEM (x : Str) (e : Expr) : Option (CE Γ e) := if Γ.mu.contains x = true then (match cN c Γ e with
  | some r => some ⟨evM r.f, fun k => e_ofM (r.ok k)⟩
  | none => c.e Γ e) else c.e Γ e
def whN : Nat := 100000
def swYes (Γ : Ctx) (scope : Scope) (pos py : Pos) (x : Str) : Bool := decide (Γ.sc.kind = .function) && decide (Γ.sc.names.lookup x = some .local) && (py.line == pos.line) && !(scope.names.any fun (n, k) => n == x && (k == .local || k == .cell))
theorem swYes_ok {Γ : Ctx} {X : Cx} {W : WX} (k : Cpt Γ X W) {elt : Expr} {gs : List Comprehension} {scope : Scope} {pos py : Pos} {x : Str} (h : swYes Γ scope pos py x = true) (l : Nat) : swapsWith (.ListComp elt gs scope pos) (some (.Name x py)) l X.env = pure true ∧ X.env.scope.names.lookup x = some .local := by
  unfold swYes at h
  simp only [Bool.and_eq_true, decide_eq_true_eq, Bool.not_eq_true'] at h
  obtain ⟨⟨⟨h1, h2⟩, h3⟩, h4⟩ := h
  have e2 : X.env.scope.names.lookup x = some .local := by rw [k.sc]; exact h2
  exact ⟨sw_true (by rw [k.sc]; exact h1) e2 h3 h4, e2⟩
theorem swYes_loc {Γ : Ctx} {X : Cx} {W : WX} (k : Cpt Γ X W) {scope : Scope} {pos py : Pos} {x : Str} (h : swYes Γ scope pos py x = true) : X.env.scope.names.lookup x = some .local :=
  (swYes_ok (elt := .Name x pos) (gs := []) k h 0).2
def cSetLc (x : Str) (py : Pos) (elt : Expr) (gs : List Comprehension) (scope : Scope) (pos spos : Pos) : Option (CS Γ (.Assign [.Name x py] (.ListComp elt gs scope pos) spos)) := match Γ.N.idxOf? x with
  | none => none
  | some i => if hx : Γ.N[i]? = some x ∧ swYes Γ scope pos py x = true then (match gs with
    | [⟨tg, iter, ifs, 0⟩] => if hb : blkC Γ.N Γ.sc scope (ownOf Γ scope) = true ∧ notSet iter = true then
        match c.i Γ tg iter, c.g (Γ.blk scope) tg, cQ c (Γ.blk scope) ifs, c.e (Γ.blk scope) elt with
        | some it, some g, some t, some f => if ho : ∀ i ∈ g.ts, i ∈ (ownOf Γ scope).map (·.2) then
            some ⟨sSet i (evLc ((ownOf Γ scope).map (·.2)) it.f g.f t.f f.f), fun {X W} k => s_setLc k.calm k.ndX (k.ix hx.1) (swYes_loc k.toCpt hx.2) (swYes_ok k.toCpt hx.2 _).1 (it.ok k.toCpt) (by rw [k.N, k.sc]; exact blkOk_by hb.1) (fun s H C cl fp => g.ok k.toCpt.blk) (fun s H C cl fp => t.ok k.toCpt.blk) (fun s H C cl fp => f.ok k.toCpt.blk) (fun x => notSet_fold hb.2 _ x) ho⟩ else none
        | _, _, _, _ => none
      else none
    | [⟨tg, iter, ifs, 0⟩, ⟨tg1, iter1, ifs1, 0⟩] => if hb : blkC Γ.N Γ.sc scope (ownOf Γ scope) = true ∧ notSet iter = true ∧ notSet iter1 = true then
        match c.i Γ tg iter, c.g (Γ.blk scope) tg, cQ c (Γ.blk scope) ifs, c.i (Γ.blk scope) tg1 iter1, c.g (Γ.blk scope) tg1, cQ c (Γ.blk scope) ifs1, c.e (Γ.blk scope) elt with
        | some it, some g, some t, some it1, some g1, some t1, some f => if ho : (∀ i ∈ g.ts, i ∈ (ownOf Γ scope).map (·.2)) ∧ (∀ i ∈ g1.ts, i ∈ (ownOf Γ scope).map (·.2)) then
            some ⟨sSet i (evLc2 ((ownOf Γ scope).map (·.2)) g1.ts it.f g.f t.f it1.f g1.f t1.f f.f), fun {X W} k => s_setLc2 k.calm k.ndX (k.ix hx.1) (swYes_loc k.toCpt hx.2) (swYes_ok k.toCpt hx.2 _).1 (it.ok k.toCpt) (by rw [k.N, k.sc]; exact blkOk_by hb.1) ho.2 (fun s H C cl fp => g.ok k.toCpt.blk) (fun s H C cl fp => t.ok k.toCpt.blk) (fun s H C cl fp => it1.ok k.toCpt.blk) (fun s H C cl fp => g1.ok k.toCpt.blk) (fun s H C cl fp => t1.ok k.toCpt.blk)
              (fun s H C cl fp => f.ok k.toCpt.blk) (fun x => notSet_fold hb.2.1 _ x) (fun env x => notSet_fold hb.2.2 _ x) ho.1 fun _ h => h⟩ else none
        | _, _, _, _, _, _, _ => none
      else none
    | _ => none) else none
def cSet (x : Str) (py : Pos) (e : Expr) (spos : Pos) : Option (CS Γ (.Assign [.Name x py] e spos)) := match Γ.N.idxOf? x with
  | none => none
  | some i => if h : Γ.N[i]? = some x ∧ L2.Loc Γ.sc x ∧ (Γ.fnl x = true ∨ Γ.sc.names.lookup x = some .local) ∧ Γ.sc.kind = .function ∧ sw_no e Γ x py = true then (match cEM c Γ x e with
    | some f => some ⟨sSet i f.f, fun k => s_set k.ndX (k.ix h.1) (by rw [k.sc]; exact h.2.1) (f.ok k.toCpt) (sw_no_ok k.toCpt h.2.2.2.1 h.2.2.2.2 _) (by rw [k.sc, k.fnl]; exact h.2.2.1)⟩
    | none => none) else none
def cAsg (tg e : Expr) (spos : Pos) : Option (CS Γ (.Assign [tg] e spos)) :=
  if h : notStar tg = true ∧ notComp e = true ∧ (notTuple e = true ∨ notTuple tg = true) then (match c.g Γ tg, c.e Γ e with
    | some g, some f => some ⟨sAsg g.f f.f, fun k => s_asg (f.ok k.toCpt) (g.ok k.toCpt) (notComp_swap h.2.1 _ _ _) (stores_none h.2.2 _) (by rw [notStar_assign h.1]; rfl)⟩
    | _, _ => none)
  else match tg, e with
    | .Tuple ts kt pt, .Tuple vs k2 pt2 => if h : vs.all (foldedForSure 8) = true then (match c.g Γ (.Tuple ts kt pt), c.e Γ (.Tuple vs k2 pt2) with
      | some g, some f => some ⟨sAsg g.f f.f, fun k => s_asg (f.ok k.toCpt) (g.ok k.toCpt) rfl (stores_const h) rfl⟩
      | _, _ => none) else none
    | _, _ => none
def cPar (x y : Str) (px py : Pos) (kt : Nat) (pt : Pos) (a b : Expr) (k2 : Nat) (pt2 spos : Pos) : Option (CS Γ (.Assign [.Tuple [.Name x px, .Name y py] kt pt] (.Tuple [a, b] k2 pt2) spos)) :=
  match Γ.N.idxOf? x, Γ.N.idxOf? y with
  | some i, some j => if h : Γ.N[i]? = some x ∧ Γ.N[j]? = some y ∧ i ≠ j ∧ parOk Γ x y px py a b = true ∧ Γ.sc.names.lookup x = some .local ∧ Γ.sc.names.lookup y = some .local ∧ notStar a = true ∧ notStar b = true then
      match cEM c Γ x a, cEM c Γ y b with
      | some f, some g => some ⟨sPar i j (eaCons f.f (eaCons g.f eaNil)), fun k => s_par k.calm k.ndX (k.ix h.1) (k.ix h.2.1) h.2.2.1 (by rw [k.sc]; exact h.2.2.2.2.1) (by rw [k.sc]; exact h.2.2.2.2.2.1) (a_cons (f.ok k.toCpt) (a_cons (g.ok k.toCpt) a_nil (notStar_each h.2.2.2.2.2.2.2 _ _)) (notStar_each h.2.2.2.2.2.2.1 _ _)) (par_some k.sc h.2.2.2.1)⟩
      | _, _ => none
    else none
  | _, _ => none
def cBl (cst : (s : Stmt) → Option (CS Γ s)) : (ss : List Stmt) → Option (CB Γ ss)
  | [] => some ⟨sNil, fun _ => b_nil⟩
  | s :: ss => match cst s, cBl cst ss with
    | some f, some g => some ⟨sCons f.f g.f, fun k => b_cons (f.ok k) (g.ok k)⟩
    | _, _ => none
def cSt : Nat → (s : Stmt) → Option (CS Γ s)
  | 0, _ => none
  | n + 1, s => match s with
    | .Expr (.Constant (.str x) j p) p' => some ⟨sNil, fun _ => s_doc⟩
    | .Expr e pos => match c.e Γ e with
      | some f => if h : notComp e = true then some ⟨sExp f.f, fun k => s_exp (f.ok k.toCpt) (notComp_swap h _ _ _)⟩ else none
      | none => none
    | .Assign [.Name x py] e spos => match cSet c Γ x py e spos with
      | some r => some r
      | none => match e with
        | .ListComp elt gs scope pos => cSetLc c Γ x py elt gs scope pos spos
        | _ => none
    | .Assign [.Tuple [.Name x px, .Name y py] kt pt] (.Tuple [a, b] k2 pt2) spos => match cPar c Γ x y px py kt pt a b k2 pt2 spos with
      | some r => some r
      | none => cAsg c Γ (.Tuple [.Name x px, .Name y py] kt pt) (.Tuple [a, b] k2 pt2) spos
    | .Assign [tg] e spos => cAsg c Γ tg e spos
    | .If t a b pos => match c.t Γ t, cBl Γ (cSt n) a, cBl Γ (cSt n) b with
      | some t, some f, some g => some ⟨sIf t.f f.f g.f, fun k => s_if (t.ok k.toCpt) (f.ok k) (g.ok k)⟩
      | _, _, _ => none
    | .Return (some e) pos => match c.e Γ e with
      | some f => some ⟨sRet f.f, fun k => s_ret (f.ok k.toCpt)⟩
      | none => none
    | .Return none pos => some ⟨sRetN, fun _ => s_retN⟩
    | .For tg iter b [] pos => match c.i Γ tg iter, c.g Γ tg, cBl Γ (cSt n) b with
      | some it, some g, some f => if h : notSet iter = true then some ⟨sFor it.f g.f f.f, fun k => s_for k.po k.calm (it.ok k.toCpt) (g.ok k.toCpt) (f.ok k) (fun x => notSet_fold h _ x)⟩ else none
      | _, _, _ => none
    | .While t b [] pos => match c.t Γ t, cBl Γ (cSt n) b with
      | some t, some f => some ⟨sWhile whN t.f f.f, fun k => s_while k.po (t.ok k.toCpt) (f.ok k)⟩
      | _, _ => none
    | .Raise (some (.Call (.Name x p) [.Constant (.str z) j p2] [] p3)) none pos => if h : x ∈ Γ.excs ∧ Γ.sc.names.lookup x = some .globalImplicit ∧ (x == ("__debug__" : Str)) = false then
        some ⟨sExc x, fun k => s_raise k.calm k.tk (k.excs x h.1) (k.gl h.2.1) h.2.2⟩ else some ⟨sBad, fun _ => s_bad⟩
    | .Raise _ _ pos => some ⟨sBad, fun _ => s_bad⟩
    | .Pass pos => some ⟨sNil, fun _ => s_pass⟩
    | .Break pos => some ⟨sBk, fun _ => s_break⟩
    | .Continue pos => some ⟨sCt, fun _ => s_cont⟩
    | _ => none
end
/-! ### a whole def -/
def cDef (n : Nat) (Γ : Ctx) (body : List Stmt) : Option (CB Γ body) := cBl Γ (cSt (cs n) Γ n) body
def semOf (n : Nat) (Γ : Ctx) (body : List Stmt) : Option Es := (cDef n Γ body).map (·.f)
theorem sem_ok {n : Nat} {Γ : Ctx} {body : List Stmt} {f : Es} (h : semOf n Γ body = some f) : ∀ {X : Cx} {W : WX}, CptS Γ X W → PSs X body (tS X.K W f) := by
  obtain ⟨c, _, rfl⟩ := Option.map_eq_some_iff.mp h
  exact c.ok
end Ip
set_option Elab.async false
set_option linter.all false
set_option maxRecDepth 100000
set_option maxHeartbeats 4000000
namespace Ip
open PySem PySem.Spec PyProof.Rows L2

section
variable {P : Program} {w : World} {K : PySem.W.Frag} {mg : Str → Option Value} {base : Heap}
/-- the module's name x holds a def of n parameters that is run as f -/
def Has (P : Program) (w : World) (K : PySem.W.Frag) (mg : Str → Option Value) (base : Heap) (x : Str) (n lv : Nat) (f : Fn) : Prop :=
  ∃ (a : Addr) (fd : FuncData) (ps : List Str), mg x = some (.ref a) ∧ PySem.W.keepIn K (.ref a) = true ∧ Binds K fd ps [] ∧ FnOk P w K mg base (L2N.CX P w) lv a fd ps (spF K n f)
theorem Has.mono {x : Str} {n lv lv' : Nat} {f : Fn} (h : Has P w K mg base x n lv f) (hl : lv ≤ lv') : Has P w K mg base x n lv' f := by
  obtain ⟨a, fd, ps, h1, h2, h3, h4⟩ := h
  exact ⟨a, fd, ps, h1, h2, h3, h4.mono hl⟩
structure Facts (P : Program) (w : World) (K : PySem.W.Frag) (mg : Str → Option Value) (base : Heap) (Γ : Ctx) : Prop where
  fns : ∀ q ∈ Γ.fns, Has P w K mg base q.1 q.2.1 Γ.lv q.2.2
  gis : ∀ q ∈ Γ.gis, ∃ t, mg q.1 = some (.int q.2 t)
  excs : ∀ q ∈ Γ.excs, (He.Fa.exc q).ok K = true ∧ mg q = some (.ref (He.ga K q))
  blt : ∀ q ∈ bltn, mg q = none
theorem fn_ok {x qual : Str} {params : Arguments} {body : List Stmt} {scope : Scope} {kws : List (Str × V)} {f : Addr} {fd : FuncData} {ps : List Str} {Γ : Ctx} {n k nn : Nat} {b : Es} {keep : Bool} (F : FunD K x qual params body scope [] kws f fd) (S : FnScope Γ.N ps scope)
    (hsc : Γ.sc = scope) (hf : Γ.fnl = fun _ => true) (sem : semOf n Γ body = some b) (hN : Γ.N.length = nn) (hk : ps.length = k) (fa : Facts P w K mg base Γ) :
    FnOk P w K mg base (L2N.CX P w) (Γ.lv + 1) f fd ps (spF K k (fnRun keep nn b)) := by
  refine F.ok S (fun vs H Q E h => ?_) fun cdv A outer s H vs Q E hr h => ?_
  · obtain ⟨m, ds, st, r, hl, _⟩ := h
    rw [r.len, hl, hk]
  · obtain ⟨m, ds, st, r, hl, hst, hp⟩ := h
    refine ⟨_, sem_ok sem (W := fun c d _ H' => E c d H') ⟨⟨rfl, S.nd, hsc.symm, hf.symm, rfl, hr, Nat.lt_of_le_of_lt (Nat.add_le_add_left (by omega : 65 ≤ 16 * Γ.lv + 200) _) (by have := hr.un; rw [← Nat.add_assoc]; exact this), fa.fns, fa.gis, fa.excs, fa.blt, L2N.takes_of rfl rfl rfl rfl⟩, passes_of rfl⟩, fn_post hN r hst hp⟩
theorem has_mk {x qual : Str} {params : Arguments} {body : List Stmt} {scope : Scope} {kws : List (Str × V)} {f : Addr} {fd : FuncData} {ps : List Str} {Γ : Ctx} {n k nn lv : Nat} {b : Es} {keep : Bool} (F : FunD K x qual params body scope [] kws f fd) (gm : mg x = some (.ref f)) (S : C8.scC Γ.N ps scope = true)
    (hsc : Γ.sc = scope) (hf : Γ.fnl = fun _ => true) (sem : semOf n Γ body = some b) (hN : Γ.N.length = nn) (hk : ps.length = k) (hlv : Γ.lv + 1 = lv) (fa : Facts P w K mg base Γ)
    (hb : ∀ (kV doc pm : Value) (an : Option Addr) (cdv ct : Value) (us : List Value), us.length = ps.length → bindArgs (PySem.W.fnOf x qual params body scope .none kV doc pm an cdv ct) ⟨us, []⟩ = pure (ps.zip us)) : Has P w K mg base x k lv (fnRun keep nn b) := by
  subst hlv
  exact ⟨f, fd, ps, gm, F.kp, F.bindsN hb, fn_ok F (C8.fnScope_by S) hsc hf sem hN hk fa⟩
end
/-- a list of facts, one by one -/
theorem all_nil {α : Type} {p : α → Prop} : ∀ q ∈ ([] : List α), p q := fun _ h => nomatch h
theorem all_cons {α : Type} {p : α → Prop} {a : α} {l : List α} (h : p a) (t : ∀ q ∈ l, p q) : ∀ q ∈ a :: l, p q := fun q hq => by
  rcases List.mem_cons.mp hq with rfl | hq
  · exact h
  · exact t q hq
end Ip
set_option Elab.async false
set_option linter.all false
set_option maxRecDepth 100000
set_option maxHeartbeats 0
namespace Lots
open PySem PySem.Spec PyProof.Rows L2 Ip
def b_is_whole : Es := (sCons (sRet (evAnd (evIs .int (evVar 0)) (evAnd (evNot (evIs .bool (evVar 0))) (evChain oLe oLe (evVar 1) (evVar 0) (evVar 2))))) sNil)
def f_is_whole : Fn := fnRun false 3 b_is_whole
def b_is_rising : Es := (sCons (sIf (ebOr (ebNot (ebOf (evIs .tuple (evVar 0)))) (ebNot (ebOf (evB bAll (eaCons (evLc [2] (itVal (evVar 0)) (gN 2) ebYes (evCall 3 f_is_whole (eaCons (evVar 2) (eaCons (evC (.int 0)) (eaCons (evOp oSub (evVar 1) (evC (.int 1))) eaNil))))) eaNil))))) (sCons (sRet (evC (.bl false))) sNil) sNil) (sCons (sRet (evB bAll (eaCons (evLc [2, 3] (itZip (eaCons (evVar 0) (eaCons (evSl (evVar 0) (eoSome (evC (.int 1))) eoNone) eaNil))) (gT 2 (gsCons (gN 2) (gsCons (gN 3) gsNil))) ebYes (evOp oLt (evVar 2) (evVar 3))) eaNil))) sNil))
def f_is_rising : Fn := fnRun false 4 b_is_rising
def b_fits_plan : Es := (sCons (sIf (ebOr (ebNot (ebOf (evIs .tuple (evVar 0)))) (ebOr (ebOf (evOp oNe (evB bLen (eaCons (evVar 0) eaNil)) (evC (.int 2)))) (ebNot (ebOf (evCall 3 f_is_whole (eaCons (evOp oIx (evVar 0) (evC (.int 0))) (eaCons (evC (.int 1)) (eaCons (evC (.int 10)) eaNil)))))))) (sCons (sRet (evC (.bl false))) sNil) sNil) (sCons (sIf (ebOr (ebNot (ebOf (evIs .tuple (evOp oIx (evVar 0) (evC (.int 1)))))) (ebOf (evOp oGt (evB bLen (eaCons (evOp oIx (evVar 0) (evC (.int 1))) eaNil)) (evC (.int 10))))) (sCons (sRet (evC (.bl false))) sNil) sNil) (sCons (sRet (evB bAll (eaCons (evLc [1] (itVal (evOp oIx (evVar 0) (evC (.int 1)))) (gN 1) ebYes (evCall 2 f_is_rising (eaCons (evVar 1) (eaCons (evOp oIx (evVar 0) (evC (.int 0))) eaNil)))) eaNil))) sNil)))
def f_fits_plan : Fn := fnRun false 2 b_fits_plan
def b_need_plan : Es := (sCons (sIf (ebNot (ebOf (evCall 1 f_fits_plan (eaCons (evVar 0) eaNil)))) (sCons (sExc "InvalidPlan") sNil) sNil) sNil)
def f_need_plan : Fn := fnRun false 1 b_need_plan
def b_need_case : Es := (sCons (sIf (ebNot (ebOf (evCall 2 f_is_rising (eaCons (evVar 1) (eaCons (evOp oIx (evVar 0) (evC (.int 0))) eaNil))))) (sCons (sExc "InvalidCase") sNil) sNil) sNil)
def f_need_case : Fn := fnRun false 2 b_need_case
def b_need_view : Es := (sCons (sIf (ebNot (ebOf (evCall 2 f_is_rising (eaCons (evVar 1) (eaCons (evVar 0) eaNil))))) (sCons (sExc "InvalidView") sNil) sNil) sNil)
def f_need_view : Fn := fnRun false 2 b_need_view
def b_need_thing : Es := (sCons (sIf (ebNot (ebOf (evCall 3 f_is_whole (eaCons (evVar 0) (eaCons (evC (.int 0)) (eaCons (evOp oSub (evVar 1) (evC (.int 1))) eaNil)))))) (sCons (sExc "InvalidThing") sNil) sNil) sNil)
def f_need_thing : Fn := fnRun false 2 b_need_thing
def b_view_of : Es := (sCons (sRet (evB bTuple (eaCons (evLc [2, 3] (itEn (eaCons (evOp oIx (evVar 0) (evC (.int 1))) eaNil)) (gT 2 (gsCons (gN 2) (gsCons (gN 3) gsNil))) (ebOf (evB bAny (eaCons (evLc [4] (itVal (evVar 3)) (gN 4) ebYes (evOp oIn (evVar 4) (evVar 1))) eaNil))) (evVar 2)) eaNil))) sNil)
def f_view_of : Fn := fnRun false 5 b_view_of
def b_lots_of : Es := (sCons (sRet (evB bTuple (eaCons (evLc [2, 3] (itEn (eaCons (evOp oIx (evVar 0) (evC (.int 1))) eaNil)) (gT 2 (gsCons (gN 2) (gsCons (gN 3) gsNil))) (ebOf (evOp oIn (evVar 1) (evVar 3))) (evVar 2)) eaNil))) sNil)
def f_lots_of : Fn := fnRun false 4 b_lots_of
def b_is_plan : Es := (sCons (sRet (evB bBool (eaCons (evCall 1 f_fits_plan (eaCons (evVar 0) eaNil)) eaNil))) sNil)
def f_is_plan : Fn := fnRun false 1 b_is_plan
def b_shown : Es := (sCons (sExp (evCall 1 f_need_plan (eaCons (evVar 0) eaNil))) (sCons (sExp (evCall 2 f_need_case (eaCons (evVar 0) (eaCons (evVar 1) eaNil)))) (sCons (sRet (evCall 2 f_view_of (eaCons (evVar 0) (eaCons (evVar 1) eaNil)))) sNil)))
def f_shown : Fn := fnRun false 2 b_shown
def b_suspects : Es := (sCons (sExp (evCall 1 f_need_plan (eaCons (evVar 0) eaNil))) (sCons (sExp (evCall 2 f_need_view (eaCons (evB bLen (eaCons (evOp oIx (evVar 0) (evC (.int 1))) eaNil)) (eaCons (evVar 1) eaNil)))) (sCons (sRet (evB bTuple (eaCons (evLc [2] (itR1 (eaCons (evOp oIx (evVar 0) (evC (.int 0))) eaNil)) (gN 2) (ebOf (evB bAll (eaCons (evLc [3] (itVal (evCall 2 f_lots_of (eaCons (evVar 0) (eaCons (evVar 2) eaNil)))) (gN 3) ebYes (evOp oIn (evVar 3) (evVar 1))) eaNil))) (evVar 2)) eaNil))) sNil)))
def f_suspects : Fn := fnRun false 4 b_suspects
def b_lots_with : Es := (sCons (sExp (evCall 1 f_need_plan (eaCons (evVar 0) eaNil))) (sCons (sExp (evCall 2 f_need_thing (eaCons (evVar 1) (eaCons (evOp oIx (evVar 0) (evC (.int 0))) eaNil)))) (sCons (sRet (evCall 2 f_lots_of (eaCons (evVar 0) (eaCons (evVar 1) eaNil)))) sNil)))
def f_lots_with : Fn := fnRun false 2 b_lots_with
def b_law_cell : Es := (sCons (sIf (ebOf (evOp oLt (evVar 1) (evB bLen (eaCons (evVar 0) eaNil)))) (sCons (sRet (evOp oIx (evVar 0) (evVar 1))) sNil) sNil) (sCons (sIf (ebOf (evOp oEq (evB bLen (eaCons (evVar 0) eaNil)) (evC (.int 0)))) (sCons (sRet (evOp oAdd (evOp oMul (evC (.int 7919)) (evVar 1)) (evC (.int 101)))) sNil) sNil) (sCons (sRet (evOp oAdd (evOp oMod (evOp oIx (evVar 0) (evOp oMod (evVar 1) (evB bLen (eaCons (evVar 0) eaNil)))) (evC (.int 1000003))) (evOp oMul (evC (.int 7919)) (evVar 1)))) sNil)))
def f_law_cell : Fn := fnRun false 2 b_law_cell
def b_law_draws : Es := (sCons (sSet 4 (evTup (eaCons (evC (.int 2147483647)) (eaCons (evC (.int 2147483629)) (eaCons (evC (.int 2147483587)) (eaCons (evC (.int 2147483579)) (eaCons (evC (.int 2147483563)) (eaCons (evC (.int 2147483549)) (eaCons (evC (.int 2147483543)) (eaCons (evC (.int 2147483497)) eaNil)))))))))) (sCons (sSet 5 (evCall 2 f_law_cell (eaCons (evVar 0) (eaCons (evVar 1) eaNil)))) (sCons (sSet 6 (evC (.int 0))) (sCons (sIf (ebOf (evOp oGe (evVar 5) (evOp oPow (evC (.int 10)) (evC (.int 18))))) (sCons (sSet 6 (evVar 5)) sNil) sNil) (sCons (sSet 7 (evM (elDisp eaNil))) (sCons (sFor (itR1 (eaCons (evVar 2) eaNil)) (gN 8) (sCons (sSet 9 (evOp oMul (evOp oMod (evVar 5) (evOp oIx (evVar 4) (evOp oMod (evVar 8) (evC (.int 8))))) (evOp oAdd (evC (.int 48271)) (evOp oMul (evOp oMul (evC (.int 2)) (evVar 8)) (evVar 8))))) (sCons (sSet 9 (evOp oAdd (evOp oAdd (evVar 9) (evOp oMul (evOp oMul (evC (.int 7919)) (evOp oAdd (evVar 8) (evC (.int 1)))) (evOp oAdd (evVar 8) (evC (.int 1))))) (evOp oMul (evC (.int 104729)) (evVar 1)))) (sCons (sSet 9 (evOp oMod (evVar 9) (evOp oIx (evVar 4) (evOp oMod (evOp oAdd (evOp oMul (evC (.int 3)) (evVar 8)) (evVar 1)) (evC (.int 8)))))) (sCons (sSet 9 (evOp oMod (evOp oMul (evOp oMul (evVar 9) (evVar 9)) (evVar 9)) (evOp oIx (evVar 4) (evOp oMod (evOp oAdd (evVar 8) (evC (.int 5))) (evC (.int 8)))))) (sCons (sIf (ebOf (evOp oGt (evVar 6) (evC (.int 0)))) (sCons (sSet 9 (evVar 6)) sNil) sNil) (sCons (sExp (evMR mApp (evVar 7) (eaCons (evOp oMod (evVar 9) (evVar 3)) eaNil))) (sCons (sSet 6 (evOp oDiv (evVar 6) (evVar 3))) sNil)))))))) (sCons (sRet (evVar 7)) sNil)))))))
def f_law_draws : Fn := fnRun true 10 b_law_draws
def b_law_take : Es := (sCons (sSet 2 (evIf (ebOf (evOp oNe (evVar 0) (evL (elDisp eaNil)))) (evMR mPop (evVar 0) (eaCons (evC (.int 0)) eaNil)) (evC (.int 0)))) (sCons (sRet (evOp oMod (evB bInt (eaCons (evVar 2) eaNil)) (evVar 1))) sNil))
def f_law_take : Fn := fnRun false 3 b_law_take
def b_law_choice : Es := (sCons (sRet (evOp oIx (evVar 1) (evCall 2 f_law_take (eaCons (evVar 0) (eaCons (evB bLen (eaCons (evVar 1) eaNil)) eaNil))))) sNil)
def f_law_choice : Fn := fnRun false 2 b_law_choice
def b_need_number : Es := (sCons (sIf (ebNot (ebOf (evCall 3 f_is_whole (eaCons (evVar 0) (eaCons (evVar 1) (eaCons (evVar 2) eaNil)))))) (sCons (sExc "InvalidNumber") sNil) sNil) sNil)
def f_need_number : Fn := fnRun false 3 b_need_number
def b_cases_of : Es := (sCons (sSet 2 (evL (elDisp (eaCons (evTup eaNil) eaNil)))) (sCons (sFor (itR1 (eaCons (evVar 0) eaNil)) (gN 3) (sCons (sSet 2 (evOp oAdd (evVar 2) (evLc [4] (itVal (evVar 2)) (gN 4) (ebOf (evOp oLt (evB bLen (eaCons (evVar 4) eaNil)) (evVar 1))) (evOp oAdd (evVar 4) (evTup (eaCons (evVar 3) eaNil)))))) sNil)) (sCons (sRet (evB bSorted (eaCons (evVar 2) eaNil))) sNil)))
def f_cases_of : Fn := fnRun false 5 b_cases_of
def b_others_of : Es := (sCons (sSet 3 (evLc [4] (itVal (evCall 2 f_cases_of (eaCons (evOp oIx (evVar 0) (evC (.int 0))) (eaCons (evVar 2) eaNil)))) (gN 4) (ebOf (evOp oNotIn (evVar 1) (evVar 4))) (evVar 4))) (sCons (sRet (evLc2 [4, 5] [4] (itR1 (eaCons (evOp oAdd (evVar 2) (evC (.int 1))) eaNil)) (gN 5) ebYes (itVal (evVar 3)) (gN 4) (ebOf (evOp oEq (evB bLen (eaCons (evVar 4) eaNil)) (evVar 5))) (evVar 4))) sNil))
def f_others_of : Fn := fnRun false 6 b_others_of
def b_left_of : Es := (sCons (sSet 3 (evCall 2 f_view_of (eaCons (evVar 0) (eaCons (evVar 2) eaNil)))) (sCons (sRet (evB bLen (eaCons (evLc [4] (itVal (evCall 2 f_lots_of (eaCons (evVar 0) (eaCons (evVar 1) eaNil)))) (gN 4) (ebOf (evOp oNotIn (evVar 4) (evVar 3))) (evVar 4)) eaNil))) sNil))
def f_left_of : Fn := fnRun false 5 b_left_of
def b_hidden_in : Es := (sCons (sSet 2 (evC .non)) (sCons (sFor (itR1 (eaCons (evOp oIx (evVar 0) (evC (.int 0))) eaNil)) (gN 3) (sCons (sFor (itVal (evCall 3 f_others_of (eaCons (evVar 0) (eaCons (evVar 3) (eaCons (evVar 1) eaNil))))) (gN 4) (sCons (sIf (ebAnd (ebOf (evOp oEq (evCall 3 f_left_of (eaCons (evVar 0) (eaCons (evVar 3) (eaCons (evVar 4) eaNil)))) (evC (.int 0)))) (ebOr (ebOf (evOp oIs (evVar 2) (evC .non))) (ebOf (evOp oLt (evB bLen (eaCons (evVar 4) eaNil)) (evB bLen (eaCons (evOp oIx (evVar 2) (evC (.int 1))) eaNil)))))) (sCons (sSet 2 (evTup (eaCons (evVar 3) (eaCons (evVar 4) eaNil)))) sNil) sNil) sNil)) sNil)) (sCons (sRet (evVar 2)) sNil)))
def f_hidden_in : Fn := fnRun false 5 b_hidden_in
def b_is_read : Es := (sCons (sRet (evOp oIs (evCall 2 f_hidden_in (eaCons (evVar 0) (eaCons (evVar 1) eaNil))) (evC .non))) sNil)
def f_is_read : Fn := fnRun false 2 b_is_read
def b_need_both : Es := (sCons (sExp (evCall 1 f_need_plan (eaCons (evVar 0) eaNil))) (sCons (sExp (evCall 3 f_need_number (eaCons (evVar 1) (eaCons (evC (.int 0)) (eaCons (evC (.int 10)) eaNil))))) sNil))
def f_need_both : Fn := fnRun false 2 b_need_both
def b_reads : Es := (sCons (sExp (evCall 2 f_need_both (eaCons (evVar 0) (eaCons (evVar 1) eaNil)))) (sCons (sRet (evCall 2 f_is_read (eaCons (evVar 0) (eaCons (evVar 1) eaNil)))) sNil))
def f_reads : Fn := fnRun false 2 b_reads
def b_hidden : Es := (sCons (sExp (evCall 2 f_need_both (eaCons (evVar 0) (eaCons (evVar 1) eaNil)))) (sCons (sRet (evCall 2 f_hidden_in (eaCons (evVar 0) (eaCons (evVar 1) eaNil)))) sNil))
def f_hidden : Fn := fnRun false 2 b_hidden
def b_most_read : Es := (sCons (sExp (evCall 1 f_need_plan (eaCons (evVar 0) eaNil))) (sCons (sSet 1 (evLc [2] (itR1 (eaCons (evOp oAdd (evOp oIx (evVar 0) (evC (.int 0))) (evC (.int 1))) eaNil)) (gN 2) (ebOf (evCall 2 f_is_read (eaCons (evVar 0) (eaCons (evVar 2) eaNil)))) (evVar 2))) (sCons (sRet (evIf (ebOf (evOp oNe (evVar 1) (evL (elDisp eaNil)))) (evOp oIx (evVar 1) (evNeg (evC (.int 1)))) (evC .non))) sNil)))
def f_most_read : Fn := fnRun false 3 b_most_read
def b_margin : Es := (sCons (sExp (evCall 2 f_need_both (eaCons (evVar 0) (eaCons (evVar 1) eaNil)))) (sCons (sSet 2 (evL (elDisp eaNil))) (sCons (sFor (itR1 (eaCons (evOp oIx (evVar 0) (evC (.int 0))) eaNil)) (gN 3) (sCons (sSet 2 (evOp oAdd (evVar 2) (evLc [4] (itVal (evCall 3 f_others_of (eaCons (evVar 0) (eaCons (evVar 3) (eaCons (evVar 1) eaNil))))) (gN 4) ebYes (evCall 3 f_left_of (eaCons (evVar 0) (eaCons (evVar 3) (eaCons (evVar 4) eaNil))))))) sNil)) (sCons (sRet (evB bMin (eaCons (evVar 2) eaNil))) sNil))))
def f_margin : Fn := fnRun false 5 b_margin
def b_views_of : Es := (sCons (sRet (evLc [2] (itVal (evCall 2 f_cases_of (eaCons (evOp oIx (evVar 0) (evC (.int 0))) (eaCons (evVar 1) eaNil)))) (gN 2) ebYes (evTup (eaCons (evVar 2) (eaCons (evCall 2 f_view_of (eaCons (evVar 0) (eaCons (evVar 2) eaNil))) eaNil))))) sNil)
def f_views_of : Fn := fnRun false 3 b_views_of
def b_first_alike : Es := (sCons (sSet 2 (evCall 2 f_views_of (eaCons (evVar 0) (eaCons (evVar 1) eaNil)))) (sCons (sFor (itEn (eaCons (evVar 2) eaNil)) (gT 2 (gsCons (gN 3) (gsCons (gT 2 (gsCons (gN 4) (gsCons (gN 5) gsNil))) gsNil))) (sCons (sFor (itVal (evSl (evVar 2) (eoSome (evOp oAdd (evVar 3) (evC (.int 1)))) eoNone)) (gT 2 (gsCons (gN 6) (gsCons (gN 7) gsNil))) (sCons (sIf (ebOf (evOp oEq (evVar 5) (evVar 7))) (sCons (sRet (evTup (eaCons (evVar 4) (eaCons (evVar 6) eaNil)))) sNil) sNil) sNil)) sNil)) (sCons (sRet (evC .non)) sNil)))
def f_first_alike : Fn := fnRun false 8 b_first_alike
def b_apart : Es := (sCons (sRet (evOp oAdd (evB bLen (eaCons (evLc [2] (itVal (evVar 0)) (gN 2) (ebOf (evOp oNotIn (evVar 2) (evVar 1))) (evVar 2)) eaNil)) (evB bLen (eaCons (evLc [2] (itVal (evVar 1)) (gN 2) (ebOf (evOp oNotIn (evVar 2) (evVar 0))) (evVar 2)) eaNil)))) sNil)
def f_apart : Fn := fnRun false 3 b_apart
def b_gap_of : Es := (sCons (sSet 2 (evCall 2 f_views_of (eaCons (evVar 0) (eaCons (evVar 1) eaNil)))) (sCons (sSet 3 (evB bLen (eaCons (evOp oIx (evVar 0) (evC (.int 1))) eaNil))) (sCons (sFor (itEn (eaCons (evVar 2) eaNil)) (gT 2 (gsCons (gN 4) (gsCons (gT 2 (gsCons (gN 5) (gsCons (gN 6) gsNil))) gsNil))) (sCons (sFor (itVal (evSl (evVar 2) (eoSome (evOp oAdd (evVar 4) (evC (.int 1)))) eoNone)) (gT 2 (gsCons (gN 7) (gsCons (gN 8) gsNil))) (sCons (sSet 3 (evB bMin (eaCons (evVar 3) (eaCons (evCall 2 f_apart (eaCons (evVar 6) (eaCons (evVar 8) eaNil))) eaNil)))) sNil)) sNil)) (sCons (sRet (evVar 3)) sNil))))
def f_gap_of : Fn := fnRun false 9 b_gap_of
def b_tells : Es := (sCons (sExp (evCall 2 f_need_both (eaCons (evVar 0) (eaCons (evVar 1) eaNil)))) (sCons (sRet (evOp oIs (evCall 2 f_first_alike (eaCons (evVar 0) (eaCons (evVar 1) eaNil))) (evC .non))) sNil))
def f_tells : Fn := fnRun false 2 b_tells
def b_alike_pair : Es := (sCons (sExp (evCall 2 f_need_both (eaCons (evVar 0) (eaCons (evVar 1) eaNil)))) (sCons (sRet (evCall 2 f_first_alike (eaCons (evVar 0) (eaCons (evVar 1) eaNil)))) sNil))
def f_alike_pair : Fn := fnRun false 2 b_alike_pair
def b_most_told : Es := (sCons (sExp (evCall 1 f_need_plan (eaCons (evVar 0) eaNil))) (sCons (sRet (evB bMax (eaCons (evLc [1] (itR1 (eaCons (evOp oAdd (evOp oIx (evVar 0) (evC (.int 0))) (evC (.int 1))) eaNil)) (gN 1) (ebOf (evOp oIs (evCall 2 f_first_alike (eaCons (evVar 0) (eaCons (evVar 1) eaNil))) (evC .non))) (evVar 1)) eaNil))) sNil))
def f_most_told : Fn := fnRun false 2 b_most_told
def b_cases_for : Es := (sCons (sExp (evCall 1 f_need_plan (eaCons (evVar 0) eaNil))) (sCons (sExp (evCall 2 f_need_view (eaCons (evB bLen (eaCons (evOp oIx (evVar 0) (evC (.int 1))) eaNil)) (eaCons (evVar 1) eaNil)))) (sCons (sExp (evCall 3 f_need_number (eaCons (evVar 2) (eaCons (evC (.int 0)) (eaCons (evC (.int 10)) eaNil))))) (sCons (sRet (evLc [3, 4] (itVal (evCall 2 f_views_of (eaCons (evVar 0) (eaCons (evVar 2) eaNil)))) (gT 2 (gsCons (gN 3) (gsCons (gN 4) gsNil))) (ebOf (evOp oEq (evVar 4) (evVar 1))) (evVar 3))) sNil))))
def f_cases_for : Fn := fnRun false 5 b_cases_for
def b_gap : Es := (sCons (sExp (evCall 1 f_need_plan (eaCons (evVar 0) eaNil))) (sCons (sExp (evCall 3 f_need_number (eaCons (evVar 1) (eaCons (evC (.int 1)) (eaCons (evC (.int 10)) eaNil))))) (sCons (sRet (evCall 2 f_gap_of (eaCons (evVar 0) (eaCons (evVar 1) eaNil)))) sNil)))
def f_gap : Fn := fnRun false 2 b_gap
def b_mends : Es := (sCons (sExp (evCall 1 f_need_plan (eaCons (evVar 0) eaNil))) (sCons (sExp (evCall 3 f_need_number (eaCons (evVar 1) (eaCons (evC (.int 1)) (eaCons (evC (.int 10)) eaNil))))) (sCons (sSet 2 (evCall 2 f_gap_of (eaCons (evVar 0) (eaCons (evVar 1) eaNil)))) (sCons (sRet (evIf (ebOf (evOp oEq (evVar 2) (evC (.int 0)))) (evC .non) (evOp oDiv (evOp oSub (evVar 2) (evC (.int 1))) (evC (.int 2))))) sNil))))
def f_mends : Fn := fnRun false 3 b_mends
def b_nearest : Es := (sCons (sExp (evCall 1 f_need_plan (eaCons (evVar 0) eaNil))) (sCons (sExp (evCall 2 f_need_view (eaCons (evB bLen (eaCons (evOp oIx (evVar 0) (evC (.int 1))) eaNil)) (eaCons (evVar 1) eaNil)))) (sCons (sExp (evCall 3 f_need_number (eaCons (evVar 2) (eaCons (evC (.int 0)) (eaCons (evC (.int 10)) eaNil))))) (sCons (sSet 3 (evLc [5, 6] (itVal (evCall 2 f_views_of (eaCons (evVar 0) (eaCons (evVar 2) eaNil)))) (gT 2 (gsCons (gN 5) (gsCons (gN 6) gsNil))) ebYes (evTup (eaCons (evCall 2 f_apart (eaCons (evVar 1) (eaCons (evVar 6) eaNil))) (eaCons (evVar 5) eaNil))))) (sCons (sSet 4 (evB bMin (eaCons (evLc [5, 7] (itVal (evVar 3)) (gT 2 (gsCons (gN 7) (gsCons (gN 5) gsNil))) ebYes (evVar 7)) eaNil))) (sCons (sRet (evTup (eaCons (evVar 4) (eaCons (evLc [5, 7] (itVal (evVar 3)) (gT 2 (gsCons (gN 7) (gsCons (gN 5) gsNil))) (ebOf (evOp oEq (evVar 7) (evVar 4))) (evVar 5)) eaNil)))) sNil))))))
def f_nearest : Fn := fnRun false 8 b_nearest
def b_chosen : Es := (sCons (sIf (ebOr (ebOf (evOp oLt (evVar 1) (evC (.int 0)))) (ebOf (evOp oGt (evVar 1) (evVar 0)))) (sCons (sRet (evC (.int 0))) sNil) sNil) (sCons (sSet 2 (evC (.int 1))) (sCons (sFor (itR1 (eaCons (evVar 1) eaNil)) (gN 3) (sCons (sSet 2 (evOp oDiv (evOp oMul (evVar 2) (evOp oSub (evVar 0) (evVar 3))) (evOp oAdd (evVar 3) (evC (.int 1))))) sNil)) (sCons (sRet (evVar 2)) sNil))))
def f_chosen : Fn := fnRun false 4 b_chosen
def b_doubled : Es := (sCons (sSet 1 (evC (.int 1))) (sCons (sFor (itR1 (eaCons (evVar 0) eaNil)) (gN 2) (sCons (sSet 1 (evOp oMul (evC (.int 2)) (evVar 1))) sNil)) (sCons (sRet (evVar 1)) sNil)))
def f_doubled : Fn := fnRun false 3 b_doubled
def b_half : Es := (sCons (sRet (evOp oDiv (evOp oAdd (evVar 0) (evC (.int 1))) (evC (.int 2)))) sNil)
def f_half : Fn := fnRun false 1 b_half
def b_fewest : Es := (sCons (sSet 2 (evC (.int 1))) (sCons (sWhile whN (ebOf (evOp oLt (evIf (ebOf (evOp oEq (evVar 1) (evC (.str "read")))) (evCall 2 f_chosen (eaCons (evVar 2) (eaCons (evCall 1 f_half (eaCons (evVar 2) eaNil)) eaNil))) (evOp oSub (evCall 1 f_doubled (eaCons (evVar 2) eaNil)) (evC (.int 1)))) (evVar 0))) (sCons (sSet 2 (evOp oAdd (evVar 2) (evC (.int 1)))) sNil)) (sCons (sRet (evVar 2)) sNil)))
def f_fewest : Fn := fnRun false 3 b_fewest
def b_tuple_at : Es := (sCons (sPar 3 4 (eaCons (evTup eaNil) (eaCons (evC (.int 0)) eaNil))) (sCons (sWhile whN (ebOf (evOp oLt (evB bLen (eaCons (evVar 3) eaNil)) (evVar 1))) (sCons (sSet 5 (evCall 2 f_chosen (eaCons (evOp oSub (evOp oSub (evVar 0) (evVar 4)) (evC (.int 1))) (eaCons (evOp oSub (evOp oSub (evVar 1) (evB bLen (eaCons (evVar 3) eaNil))) (evC (.int 1))) eaNil)))) (sCons (sIf (ebOf (evOp oLt (evVar 2) (evVar 5))) (sCons (sSet 3 (evOp oAdd (evVar 3) (evTup (eaCons (evVar 4) eaNil)))) sNil) (sCons (sSet 2 (evOp oSub (evVar 2) (evVar 5))) sNil)) (sCons (sSet 4 (evOp oAdd (evVar 4) (evC (.int 1)))) sNil)))) (sCons (sRet (evVar 3)) sNil)))
def f_tuple_at : Fn := fnRun false 6 b_tuple_at
def b_index_of : Es := (sCons (sAsg (gT 2 (gsCons (gN 2) (gsCons (gN 3) gsNil))) (evTup (eaCons (evC (.int 0)) (eaCons (evC (.int 0)) eaNil)))) (sCons (sFor (itEn (eaCons (evVar 1) eaNil)) (gT 2 (gsCons (gN 4) (gsCons (gN 5) gsNil))) (sCons (sFor (itR2 (eaCons (evVar 3) (eaCons (evVar 5) eaNil))) (gN 6) (sCons (sSet 2 (evOp oAdd (evVar 2) (evCall 2 f_chosen (eaCons (evOp oSub (evOp oSub (evVar 0) (evVar 6)) (evC (.int 1))) (eaCons (evOp oSub (evOp oSub (evB bLen (eaCons (evVar 1) eaNil)) (evVar 4)) (evC (.int 1))) eaNil))))) sNil)) (sCons (sSet 3 (evOp oAdd (evVar 5) (evC (.int 1)))) sNil))) (sCons (sRet (evVar 2)) sNil)))
def f_index_of : Fn := fnRun false 7 b_index_of
def b_places_of : Es := (sCons (sPar 1 2 (eaCons (evTup eaNil) (eaCons (evC (.int 0)) eaNil))) (sCons (sWhile whN (ebOf (evOp oGt (evVar 0) (evC (.int 0)))) (sCons (sIf (ebOf (evOp oEq (evOp oMod (evVar 0) (evC (.int 2))) (evC (.int 1)))) (sCons (sSet 1 (evOp oAdd (evVar 1) (evTup (eaCons (evVar 2) eaNil)))) sNil) sNil) (sCons (sPar 0 2 (eaCons (evOp oDiv (evVar 0) (evC (.int 2))) (eaCons (evOp oAdd (evVar 2) (evC (.int 1))) eaNil))) sNil))) (sCons (sRet (evVar 1)) sNil)))
def f_places_of : Fn := fnRun false 3 b_places_of
def b_fewest_for_one : Es := (sCons (sExp (evCall 2 f_need_both (eaCons (evVar 0) (eaCons (evVar 1) eaNil)))) (sCons (sRet (evCall 2 f_fewest (eaCons (evVar 0) (eaCons (evVar 1) eaNil)))) sNil))
def f_fewest_for_one : Fn := fnRun false 2 b_fewest_for_one
def b_lots_for : Es := (sCons (sExp (evCall 2 f_need_both (eaCons (evVar 0) (eaCons (evVar 1) eaNil)))) (sCons (sExp (evCall 2 f_need_thing (eaCons (evVar 2) (eaCons (evVar 0) eaNil)))) (sCons (sSet 3 (evCall 2 f_fewest (eaCons (evVar 0) (eaCons (evVar 1) eaNil)))) (sCons (sRet (evIf (ebOf (evOp oEq (evVar 1) (evC (.str "read")))) (evCall 3 f_tuple_at (eaCons (evVar 3) (eaCons (evCall 1 f_half (eaCons (evVar 3) eaNil)) (eaCons (evVar 2) eaNil)))) (evCall 1 f_places_of (eaCons (evOp oAdd (evVar 2) (evC (.int 1))) eaNil)))) sNil))))
def f_lots_for : Fn := fnRun false 4 b_lots_for
def b_thing_for : Es := (sCons (sExp (evCall 2 f_need_both (eaCons (evVar 0) (eaCons (evVar 1) eaNil)))) (sCons (sSet 3 (evCall 2 f_fewest (eaCons (evVar 0) (eaCons (evVar 1) eaNil)))) (sCons (sExp (evCall 2 f_need_view (eaCons (evVar 3) (eaCons (evVar 2) eaNil)))) (sCons (sIf (ebOf (evOp oEq (evVar 1) (evC (.str "read")))) (sCons (sSet 4 (evIf (ebOf (evOp oEq (evB bLen (eaCons (evVar 2) eaNil)) (evCall 1 f_half (eaCons (evVar 3) eaNil)))) (evCall 2 f_index_of (eaCons (evVar 3) (eaCons (evVar 2) eaNil))) (evVar 0))) sNil) (sCons (sSet 4 (evOp oSub (evB bSum (eaCons (evLc [5] (itVal (evVar 2)) (gN 5) ebYes (evCall 1 f_doubled (eaCons (evVar 5) eaNil))) eaNil)) (evC (.int 1)))) sNil)) (sCons (sRet (evIf (ebOf (evChain oLe oLt (evC (.int 0)) (evVar 4) (evVar 0))) (evVar 4) (evC .non))) sNil)))))
def f_thing_for : Fn := fnRun false 6 b_thing_for
def b_is_prime : Es := (sCons (sSet 1 (evC (.int 2))) (sCons (sWhile whN (ebOf (evOp oLe (evOp oMul (evVar 1) (evVar 1)) (evVar 0))) (sCons (sIf (ebOf (evOp oEq (evOp oMod (evVar 0) (evVar 1)) (evC (.int 0)))) (sCons (sRet (evC (.bl false))) sNil) sNil) (sCons (sSet 1 (evOp oAdd (evVar 1) (evC (.int 1)))) sNil))) (sCons (sRet (evOp oGt (evVar 0) (evC (.int 1)))) sNil)))
def f_is_prime : Fn := fnRun false 2 b_is_prime
def b_fits_words : Es := (sCons (sIf (ebOr (ebNot (ebOf (evIs .tuple (evVar 0)))) (ebOr (ebOf (evOp oNe (evB bLen (eaCons (evVar 0) eaNil)) (evC (.int 3)))) (ebNot (ebOf (evCall 3 f_is_whole (eaCons (evOp oIx (evVar 0) (evC (.int 0))) (eaCons (evC (.int 2)) (eaCons (evC (.int 99991)) eaNil)))))))) (sCons (sRet (evC (.bl false))) sNil) sNil) (sCons (sIf (ebOr (ebNot (ebOf (evCall 3 f_is_whole (eaCons (evOp oIx (evVar 0) (evC (.int 1))) (eaCons (evC (.int 1)) (eaCons (evC (.int 6)) eaNil)))))) (ebNot (ebOf (evCall 3 f_is_whole (eaCons (evOp oIx (evVar 0) (evC (.int 2))) (eaCons (evOp oIx (evVar 0) (evC (.int 1))) (eaCons (evC (.int 20)) eaNil))))))) (sCons (sRet (evC (.bl false))) sNil) sNil) (sCons (sRet (evAnd (evOp oLe (evOp oIx (evVar 0) (evC (.int 2))) (evOp oIx (evVar 0) (evC (.int 0)))) (evCall 1 f_is_prime (eaCons (evOp oIx (evVar 0) (evC (.int 0))) eaNil)))) sNil)))
def f_fits_words : Fn := fnRun false 1 b_fits_words
def b_need_words : Es := (sCons (sIf (ebNot (ebOf (evCall 1 f_fits_words (eaCons (evVar 0) eaNil)))) (sCons (sExc "InvalidWords") sNil) sNil) sNil)
def f_need_words : Fn := fnRun false 1 b_need_words
def b_figures_of : Es := (sCons (sSet 2 (evM (elDisp eaNil))) (sCons (sFor (itR1 (eaCons (evOp oIx (evVar 0) (evC (.int 1))) eaNil)) (gN 3) (sCons (sExp (evMR mApp (evVar 2) (eaCons (evOp oMod (evVar 1) (evOp oIx (evVar 0) (evC (.int 0)))) eaNil))) (sCons (sSet 1 (evOp oDiv (evVar 1) (evOp oIx (evVar 0) (evC (.int 0))))) sNil))) (sCons (sRet (evVar 2)) sNil)))
def f_figures_of : Fn := fnRun false 4 b_figures_of
def b_number_of : Es := (sCons (sSet 2 (evC (.int 0))) (sCons (sFor (itVal (evRevL (evVar 1))) (gN 3) (sCons (sSet 2 (evOp oAdd (evOp oMul (evVar 2) (evOp oIx (evVar 0) (evC (.int 0)))) (evVar 3))) sNil)) (sCons (sRet (evVar 2)) sNil)))
def f_number_of : Fn := fnRun false 4 b_number_of
def b_sign_at : Es := (sCons (sSet 3 (evC (.int 0))) (sCons (sFor (itVal (evRevL (evVar 1))) (gN 4) (sCons (sSet 3 (evOp oMod (evOp oAdd (evOp oMul (evVar 3) (evVar 2)) (evVar 4)) (evOp oIx (evVar 0) (evC (.int 0))))) sNil)) (sCons (sRet (evVar 3)) sNil)))
def f_sign_at : Fn := fnRun false 5 b_sign_at
def b_all_signs : Es := (sCons (sRet (evB bTuple (eaCons (evLc [2] (itR1 (eaCons (evOp oIx (evVar 0) (evC (.int 2))) eaNil)) (gN 2) ebYes (evCall 3 f_sign_at (eaCons (evVar 0) (eaCons (evVar 1) (eaCons (evVar 2) eaNil))))) eaNil))) sNil)
def f_all_signs : Fn := fnRun false 3 b_all_signs
def b_times_line : Es := (sCons (sSet 3 (evOp oIx (evVar 0) (evC (.int 0)))) (sCons (sSet 4 (evOp oAdd (evL (elDisp (eaCons (evC (.int 0)) eaNil))) (evVar 1))) (sCons (sFor (itEn (eaCons (evVar 1) eaNil)) (gT 2 (gsCons (gN 5) (gsCons (gN 6) gsNil))) (sCons (sSet 4 (evOp oAdd (evOp oAdd (evSl (evVar 4) eoNone (eoSome (evVar 5))) (evL (elDisp (eaCons (evOp oMod (evOp oSub (evOp oIx (evVar 4) (evVar 5)) (evOp oMul (evVar 2) (evVar 6))) (evVar 3)) eaNil)))) (evSl (evVar 4) (eoSome (evOp oAdd (evVar 5) (evC (.int 1)))) eoNone))) sNil)) (sCons (sRet (evVar 4)) sNil))))
def f_times_line : Fn := fnRun false 7 b_times_line
def b_inverse : Es := (sCons (sAsg (gT 3 (gsCons (gN 2) (gsCons (gN 3) (gsCons (gN 4) gsNil)))) (evTup (eaCons (evC (.int 1)) (eaCons (evOp oMod (evVar 1) (evVar 0)) (eaCons (evOp oSub (evVar 0) (evC (.int 2))) eaNil))))) (sCons (sWhile whN (ebOf (evOp oGt (evVar 4) (evC (.int 0)))) (sCons (sIf (ebOf (evOp oEq (evOp oMod (evVar 4) (evC (.int 2))) (evC (.int 1)))) (sCons (sSet 2 (evOp oMod (evOp oMul (evVar 2) (evVar 3)) (evVar 0))) sNil) sNil) (sCons (sPar 3 4 (eaCons (evOp oMod (evOp oMul (evVar 3) (evVar 3)) (evVar 0)) (eaCons (evOp oDiv (evVar 4) (evC (.int 2))) eaNil))) sNil))) (sCons (sRet (evVar 2)) sNil)))
def f_inverse : Fn := fnRun false 5 b_inverse
def b_through : Es := (sCons (sAsg (gT 2 (gsCons (gN 2) (gsCons (gN 3) gsNil))) (evTup (eaCons (evOp oIx (evVar 0) (evC (.int 0))) (eaCons (evOp oMul (evL (elDisp (eaCons (evC (.int 0)) eaNil))) (evOp oIx (evVar 0) (evC (.int 1)))) eaNil)))) (sCons (sFor (itR1 (eaCons (evOp oIx (evVar 0) (evC (.int 1))) eaNil)) (gN 4) (sCons (sAsg (gT 2 (gsCons (gN 5) (gsCons (gN 6) gsNil))) (evTup (eaCons (evL (elDisp (eaCons (evC (.int 1)) eaNil))) (eaCons (evC (.int 1)) eaNil)))) (sCons (sFor (itR1 (eaCons (evOp oIx (evVar 0) (evC (.int 1))) eaNil)) (gN 7) (sCons (sIf (ebOf (evOp oNe (evVar 7) (evVar 4))) (sCons (sAsg (gT 2 (gsCons (gN 5) (gsCons (gN 6) gsNil))) (evTup (eaCons (evCall 3 f_times_line (eaCons (evVar 0) (eaCons (evVar 5) (eaCons (evVar 7) eaNil)))) (eaCons (evOp oMod (evOp oMul (evVar 6) (evOp oSub (evVar 4) (evVar 7))) (evVar 2)) eaNil)))) sNil) sNil) sNil)) (sCons (sSet 6 (evOp oMod (evOp oMul (evOp oIx (evVar 1) (evVar 4)) (evCall 2 f_inverse (eaCons (evVar 2) (eaCons (evVar 6) eaNil)))) (evVar 2))) (sCons (sSet 3 (evLc [8, 9] (itZip (eaCons (evVar 3) (eaCons (evVar 5) eaNil))) (gT 2 (gsCons (gN 8) (gsCons (gN 9) gsNil))) ebYes (evOp oMod (evOp oAdd (evVar 8) (evOp oMul (evVar 6) (evVar 9))) (evVar 2)))) sNil))))) (sCons (sRet (evVar 3)) sNil)))
def f_through : Fn := fnRun false 10 b_through
def b_thing_with : Es := (sCons (sSet 2 (evCall 2 f_through (eaCons (evVar 0) (eaCons (evVar 1) eaNil)))) (sCons (sRet (evIf (ebOf (evOp oEq (evCall 2 f_all_signs (eaCons (evVar 0) (eaCons (evVar 2) eaNil))) (evVar 1))) (evCall 2 f_number_of (eaCons (evVar 0) (eaCons (evVar 2) eaNil))) (evC .non))) sNil))
def f_thing_with : Fn := fnRun false 3 b_thing_with
def b_many_of : Es := (sCons (sSet 1 (evC (.int 1))) (sCons (sFor (itR1 (eaCons (evOp oIx (evVar 0) (evC (.int 1))) eaNil)) (gN 2) (sCons (sSet 1 (evOp oMul (evVar 1) (evOp oIx (evVar 0) (evC (.int 0))))) sNil)) (sCons (sRet (evVar 1)) sNil)))
def f_many_of : Fn := fnRun false 3 b_many_of
def b_are_words : Es := (sCons (sRet (evB bBool (eaCons (evCall 1 f_fits_words (eaCons (evVar 0) eaNil)) eaNil))) sNil)
def f_are_words : Fn := fnRun false 1 b_are_words
def b_many_things : Es := (sCons (sExp (evCall 1 f_need_words (eaCons (evVar 0) eaNil))) (sCons (sRet (evCall 1 f_many_of (eaCons (evVar 0) eaNil))) sNil))
def f_many_things : Fn := fnRun false 1 b_many_things
def b_signs_of : Es := (sCons (sExp (evCall 1 f_need_words (eaCons (evVar 0) eaNil))) (sCons (sExp (evCall 2 f_need_thing (eaCons (evVar 1) (eaCons (evCall 1 f_many_of (eaCons (evVar 0) eaNil)) eaNil)))) (sCons (sRet (evCall 2 f_all_signs (eaCons (evVar 0) (eaCons (evCall 2 f_figures_of (eaCons (evVar 0) (eaCons (evVar 1) eaNil))) eaNil)))) sNil)))
def f_signs_of : Fn := fnRun false 2 b_signs_of
def b_thing_of : Es := (sCons (sExp (evCall 1 f_need_words (eaCons (evVar 0) eaNil))) (sCons (sIf (ebOr (ebNot (ebOf (evIs .tuple (evVar 1)))) (ebOf (evOp oNe (evB bLen (eaCons (evVar 1) eaNil)) (evOp oIx (evVar 0) (evC (.int 2)))))) (sCons (sExc "InvalidSigns") sNil) sNil) (sCons (sIf (ebNot (ebOf (evB bAll (eaCons (evLc [2] (itVal (evVar 1)) (gN 2) ebYes (evCall 3 f_is_whole (eaCons (evVar 2) (eaCons (evC (.int 0)) (eaCons (evOp oSub (evOp oIx (evVar 0) (evC (.int 0))) (evC (.int 1))) eaNil))))) eaNil)))) (sCons (sExc "InvalidSigns") sNil) sNil) (sCons (sRet (evCall 2 f_thing_with (eaCons (evVar 0) (eaCons (evVar 1) eaNil)))) sNil))))
def f_thing_of : Fn := fnRun false 3 b_thing_of
def b_read_words : Es := (sCons (sExp (evCall 1 f_need_words (eaCons (evVar 0) eaNil))) (sCons (sIf (ebOr (ebNot (ebOf (evIs .tuple (evVar 1)))) (ebOf (evOp oNe (evB bLen (eaCons (evVar 1) eaNil)) (evOp oIx (evVar 0) (evC (.int 2)))))) (sCons (sExc "InvalidSights") sNil) sNil) (sCons (sIf (ebNot (ebOf (evB bAll (eaCons (evLc [3] (itVal (evVar 1)) (gN 3) ebYes (evAnd (evCall 2 f_is_rising (eaCons (evVar 3) (eaCons (evOp oIx (evVar 0) (evC (.int 0))) eaNil))) (evOp oLe (evB bLen (eaCons (evVar 3) eaNil)) (evC (.int 3))))) eaNil)))) (sCons (sExc "InvalidSights") sNil) sNil) (sCons (sSet 2 (evL (elDisp (eaCons (evTup eaNil) eaNil)))) (sCons (sFor (itVal (evSl (evVar 1) eoNone (eoSome (evOp oIx (evVar 0) (evC (.int 1)))))) (gN 3) (sCons (sSet 2 (evLc2 [5, 7] [7] (itVal (evVar 2)) (gN 5) ebYes (itVal (evVar 3)) (gN 7) ebYes (evOp oAdd (evVar 5) (evTup (eaCons (evVar 7) eaNil))))) sNil)) (sCons (sSet 4 (evM (elDisp eaNil))) (sCons (sFor (itVal (evVar 2)) (gN 5) (sCons (sSet 6 (evCall 2 f_through (eaCons (evVar 0) (eaCons (evVar 5) eaNil)))) (sCons (sIf (ebOf (evB bAll (eaCons (evLc [3, 7] (itZip (eaCons (evCall 2 f_all_signs (eaCons (evVar 0) (eaCons (evVar 6) eaNil))) (eaCons (evVar 1) eaNil))) (gT 2 (gsCons (gN 7) (gsCons (gN 3) gsNil))) ebYes (evOp oIn (evVar 7) (evVar 3))) eaNil))) (sCons (sExp (evMR mApp (evVar 4) (eaCons (evCall 2 f_number_of (eaCons (evVar 0) (eaCons (evVar 6) eaNil))) eaNil))) sNil) sNil) sNil))) (sCons (sRet (evB bSorted (eaCons (evVar 4) eaNil))) sNil))))))))
def f_read_words : Fn := fnRun false 8 b_read_words
def b_without : Es := (sCons (sSet 2 (evM (elDisp eaNil))) (sCons (sFor (itVal (evOp oIx (evVar 0) (evC (.int 1)))) (gN 3) (sCons (sExp (evMR mApp (evVar 2) (eaCons (evB bTuple (eaCons (evLc [4] (itVal (evVar 3)) (gN 4) (ebOf (evOp oNe (evVar 4) (evVar 1))) (evOp oSub (evVar 4) (evB bInt (eaCons (evOp oGt (evVar 4) (evVar 1)) eaNil)))) eaNil)) eaNil))) sNil)) (sCons (sRet (evTup (eaCons (evOp oSub (evOp oIx (evVar 0) (evC (.int 0))) (evC (.int 1))) (eaCons (evB bTuple (eaCons (evVar 2) eaNil)) eaNil)))) sNil)))
def f_without : Fn := fnRun false 5 b_without
def b_wall : Es := (sCons (sWhile whN (ebOf (evC (.bl true))) (sCons sNil sNil)) sNil)
def f_wall : Fn := fnRun false 1 b_wall
def b_fitting : Es := (sCons (sSet 3 (evM (elDisp eaNil))) (sCons (sFor (itVal (evCall 2 f_views_of (eaCons (evVar 0) (eaCons (evVar 1) eaNil)))) (gT 2 (gsCons (gN 4) (gsCons (gN 5) gsNil))) (sCons (sIf (ebOf (evB bAll (eaCons (evLc [6, 7] (itEn (eaCons (evVar 2) eaNil)) (gT 2 (gsCons (gN 6) (gsCons (gN 7) gsNil))) ebYes (evOr (evOp oIs (evVar 7) (evC .non)) (evOp oEq (evVar 7) (evOp oIn (evVar 6) (evVar 5))))) eaNil))) (sCons (sExp (evMR mApp (evVar 3) (eaCons (evVar 4) eaNil))) sNil) sNil) sNil)) (sCons (sRet (evVar 3)) sNil)))
def f_fitting : Fn := fnRun false 8 b_fitting
end Lots
set_option Elab.async false
set_option linter.all false
set_option maxRecDepth 100000
set_option maxHeartbeats 4000000
namespace Ip
open PySem

/-! ### the readings, applied; what comes behind stands under a name of its own, so that it is looked at last -/
@[simp low] theorem evVar_ap {i : Nat} {ρ : Sl} {st : Sto} : evVar i ρ st = (match ρ[i]? with
  | some (some d) => .ok d st
  | _ => .bad) := Eq.trans rfl rfl
@[simp low] theorem evC_ap {d : D} {ρ : Sl} {st : Sto} : evC d ρ st = .ok d st := Eq.trans rfl rfl
def kOp3 (o : Sto → D → D → Option D) (x : D) : D → Sto → R D := fun y st2 => .lift (o st2 x y) st2
def kOp2 (o : Sto → D → D → Option D) (b : Ev) (ρ : Sl) : D → Sto → R D := fun x st1 => (b ρ st1).bind (kOp3 o x)
@[simp low] theorem evOp_ap {o : Sto → D → D → Option D} {a b : Ev} {ρ : Sl} {st : Sto} : evOp o a b ρ st = (a ρ st).bind (kOp2 o b ρ) := Eq.trans rfl rfl
@[simp low] theorem kOp3_0 {o : Sto → D → D → Option D} {x y : D} {st : Sto} : kOp3 o x y st = R.lift (o st x y) st := Eq.trans rfl rfl
@[simp low] theorem kOp2_0 {o : Sto → D → D → Option D} {b : Ev} {x : D} {ρ : Sl} {st : Sto} : kOp2 o b ρ x st = (b ρ st).bind (kOp3 o x) := Eq.trans rfl rfl
def kB  : D → Sto → R Bool := fun d st1 => .lift (asB d) st1
@[simp low] theorem ebOf_ap {f : Ev} {ρ : Sl} {st : Sto} : ebOf f ρ st = (f ρ st).bind kB := Eq.trans rfl rfl
@[simp low] theorem kB_0 {b : Bool} {st : Sto} : kB (.bl b) st = .ok b st := Eq.trans rfl rfl
def kAnd (b : Eb) (ρ : Sl) : Bool → Sto → R Bool := fun x st1 => if x = true then b ρ st1 else .ok false st1
@[simp low] theorem ebAnd_ap {a b : Eb} {ρ : Sl} {st : Sto} : ebAnd a b ρ st = (a ρ st).bind (kAnd b ρ) := Eq.trans rfl rfl
@[simp low] theorem kAnd_0 {b : Eb} {ρ : Sl} {st : Sto} : kAnd b ρ true st = b ρ st := Eq.trans rfl rfl
@[simp low] theorem kAnd_1 {b : Eb} {ρ : Sl} {st : Sto} : kAnd b ρ false st = .ok false st := Eq.trans rfl rfl
def kOr (b : Eb) (ρ : Sl) : Bool → Sto → R Bool := fun x st1 => if x = true then .ok true st1 else b ρ st1
@[simp low] theorem ebOr_ap {a b : Eb} {ρ : Sl} {st : Sto} : ebOr a b ρ st = (a ρ st).bind (kOr b ρ) := Eq.trans rfl rfl
@[simp low] theorem kOr_0 {b : Eb} {ρ : Sl} {st : Sto} : kOr b ρ true st = .ok true st := Eq.trans rfl rfl
@[simp low] theorem kOr_1 {b : Eb} {ρ : Sl} {st : Sto} : kOr b ρ false st = b ρ st := Eq.trans rfl rfl
def kNot  : Bool → Sto → R Bool := fun x st1 => .ok (!x) st1
@[simp low] theorem ebNot_ap {a : Eb} {ρ : Sl} {st : Sto} : ebNot a ρ st = (a ρ st).bind kNot := Eq.trans rfl rfl
@[simp low] theorem kNot_0 {x : Bool} {st : Sto} : kNot x st = .ok (!x) st := Eq.trans rfl rfl
@[simp low] theorem ebYes_ap {ρ : Sl} {st : Sto} : ebYes ρ st = .ok true st := Eq.trans rfl rfl
def kvAnd (b : Ev) (ρ : Sl) : D → Sto → R D := fun x st1 => match x with
  | .bl true => b ρ st1
  | .bl false => .ok (.bl false) st1
  | _ => .bad
@[simp low] theorem evAnd_ap {a b : Ev} {ρ : Sl} {st : Sto} : evAnd a b ρ st = (a ρ st).bind (kvAnd b ρ) := Eq.trans rfl rfl
@[simp low] theorem kvAnd_0 {b : Ev} {ρ : Sl} {st : Sto} : kvAnd b ρ (.bl true) st = b ρ st := Eq.trans rfl rfl
@[simp low] theorem kvAnd_1 {b : Ev} {ρ : Sl} {st : Sto} : kvAnd b ρ (.bl false) st = .ok (.bl false) st := Eq.trans rfl rfl
def kvOr (b : Ev) (ρ : Sl) : D → Sto → R D := fun x st1 => match x with
  | .bl false => b ρ st1
  | .bl true => .ok (.bl true) st1
  | _ => .bad
@[simp low] theorem evOr_ap {a b : Ev} {ρ : Sl} {st : Sto} : evOr a b ρ st = (a ρ st).bind (kvOr b ρ) := Eq.trans rfl rfl
@[simp low] theorem kvOr_0 {b : Ev} {ρ : Sl} {st : Sto} : kvOr b ρ (.bl true) st = .ok (.bl true) st := Eq.trans rfl rfl
@[simp low] theorem kvOr_1 {b : Ev} {ρ : Sl} {st : Sto} : kvOr b ρ (.bl false) st = b ρ st := Eq.trans rfl rfl
def kvNot  : D → Sto → R D := fun x st1 => match x with
  | .bl b => .ok (.bl (!b)) st1
  | _ => .bad
@[simp low] theorem evNot_ap {a : Ev} {ρ : Sl} {st : Sto} : evNot a ρ st = (a ρ st).bind kvNot := Eq.trans rfl rfl
@[simp low] theorem kvNot_0 {b : Bool} {st : Sto} : kvNot (.bl b) st = .ok (.bl (!b)) st := Eq.trans rfl rfl
def kNeg  : D → Sto → R D := fun x st1 => match x with
  | .int i => .ok (.int (-i)) st1
  | _ => .bad
@[simp low] theorem evNeg_ap {a : Ev} {ρ : Sl} {st : Sto} : evNeg a ρ st = (a ρ st).bind kNeg := Eq.trans rfl rfl
@[simp low] theorem kNeg_0 {i : Int} {st : Sto} : kNeg (.int i) st = .ok (.int (-i)) st := Eq.trans rfl rfl
def kIf (a b : Ev) (ρ : Sl) : Bool → Sto → R D := fun x st1 => if x = true then a ρ st1 else b ρ st1
@[simp low] theorem evIf_ap {t : Eb} {a b : Ev} {ρ : Sl} {st : Sto} : evIf t a b ρ st = (t ρ st).bind (kIf a b ρ) := Eq.trans rfl rfl
@[simp low] theorem kIf_0 {a b : Ev} {ρ : Sl} {st : Sto} : kIf a b ρ true st = a ρ st := Eq.trans rfl rfl
@[simp low] theorem kIf_1 {a b : Ev} {ρ : Sl} {st : Sto} : kIf a b ρ false st = b ρ st := Eq.trans rfl rfl
@[simp low] theorem eaNil_ap {ρ : Sl} {st : Sto} : eaNil ρ st = .ok [] st := Eq.trans rfl rfl
def kC3 (x : D) : List D → Sto → R (List D) := fun xs st2 => .ok (x :: xs) st2
def kC2 (r : Ea) (ρ : Sl) : D → Sto → R (List D) := fun x st1 => (r ρ st1).bind (kC3 x)
@[simp low] theorem eaCons_ap {a : Ev} {r : Ea} {ρ : Sl} {st : Sto} : eaCons a r ρ st = (a ρ st).bind (kC2 r ρ) := Eq.trans rfl rfl
@[simp low] theorem kC3_0 {x : D} {xs : List D} {st : Sto} : kC3 x xs st = .ok (x :: xs) st := Eq.trans rfl rfl
@[simp low] theorem kC2_0 {r : Ea} {x : D} {ρ : Sl} {st : Sto} : kC2 r ρ x st = (r ρ st).bind (kC3 x) := Eq.trans rfl rfl
def kTup  : List D → Sto → R D := fun ds st1 => if ds.length ≤ 1000 then .ok (.tup ds) st1 else .bad
@[simp low] theorem evTup_ap {g : Ea} {ρ : Sl} {st : Sto} : evTup g ρ st = (g ρ st).bind kTup := Eq.trans rfl rfl
@[simp low] theorem kTup_0 {ds : List D} {st : Sto} : kTup ds st = if ds.length ≤ 1000 then .ok (.tup ds) st else .bad := Eq.trans rfl rfl
def kDisp  : List D → Sto → R (List D) := fun ds st1 => if ds.length ≤ 1000 then .ok ds st1 else .bad
@[simp low] theorem elDisp_ap {g : Ea} {ρ : Sl} {st : Sto} : elDisp g ρ st = (g ρ st).bind kDisp := Eq.trans rfl rfl
@[simp low] theorem kDisp_0 {ds : List D} {st : Sto} : kDisp ds st = if ds.length ≤ 1000 then .ok ds st else .bad := Eq.trans rfl rfl
def kL  : List D → Sto → R D := fun ds st1 => .ok (.lst ds) st1
@[simp low] theorem evL_ap {g : Ea} {ρ : Sl} {st : Sto} : evL g ρ st = (g ρ st).bind kL := Eq.trans rfl rfl
@[simp low] theorem kL_0 {ds : List D} {st : Sto} : kL ds st = .ok (.lst ds) st := Eq.trans rfl rfl
def kM  : List D → Sto → R D := fun ds st1 => .ok (.ref st1.length) (st1 ++ [ds])
@[simp low] theorem evM_ap {g : Ea} {ρ : Sl} {st : Sto} : evM g ρ st = (g ρ st).bind kM := Eq.trans rfl rfl
@[simp low] theorem kM_0 {ds : List D} {st : Sto} : kM ds st = .ok (.ref st.length) (st ++ [ds]) := Eq.trans rfl rfl
def kT  : List D → Sto → R D := fun ds st1 => .ok (.tup ds) st1
@[simp low] theorem evT_ap {g : Ea} {ρ : Sl} {st : Sto} : evT g ρ st = (g ρ st).bind kT := Eq.trans rfl rfl
@[simp low] theorem kT_0 {ds : List D} {st : Sto} : kT ds st = .ok (.tup ds) st := Eq.trans rfl rfl
@[simp low] theorem eoNone_ap {ρ : Sl} {st : Sto} : eoNone ρ st = .ok none st := Eq.trans rfl rfl
def kSo  : D → Sto → R (Option Int) := fun d st1 => match d with
  | .int i => .ok (some i) st1
  | _ => .bad
@[simp low] theorem eoSome_ap {f : Ev} {ρ : Sl} {st : Sto} : eoSome f ρ st = (f ρ st).bind kSo := Eq.trans rfl rfl
@[simp low] theorem kSo_0 {i : Int} {st : Sto} : kSo (.int i) st = .ok (some i) st := Eq.trans rfl rfl
def kS4 (x : D) (lo : Option Int) : Option Int → Sto → R D := fun hi st3 => .lift (oSl st3 x lo hi) st3
def kS3 (h : Eo) (ρ : Sl) (x : D) : Option Int → Sto → R D := fun lo st2 => (h ρ st2).bind (kS4 x lo)
def kS2 (l h : Eo) (ρ : Sl) : D → Sto → R D := fun x st1 => (l ρ st1).bind (kS3 h ρ x)
@[simp low] theorem evSl_ap {f : Ev} {l h : Eo} {ρ : Sl} {st : Sto} : evSl f l h ρ st = (f ρ st).bind (kS2 l h ρ) := Eq.trans rfl rfl
@[simp low] theorem kS4_0 {x : D} {lo hi : Option Int} {st : Sto} : kS4 x lo hi st = .lift (oSl st x lo hi) st := Eq.trans rfl rfl
@[simp low] theorem kS3_0 {h : Eo} {x : D} {lo : Option Int} {ρ : Sl} {st : Sto} : kS3 h ρ x lo st = (h ρ st).bind (kS4 x lo) := Eq.trans rfl rfl
@[simp low] theorem kS2_0 {l h : Eo} {x : D} {ρ : Sl} {st : Sto} : kS2 l h ρ x st = (l ρ st).bind (kS3 h ρ x) := Eq.trans rfl rfl
def kRv  : D → Sto → R D := fun x st1 => .lift ((itemsL st1 x).map fun xs => .lst xs.reverse) st1
@[simp low] theorem evRevL_ap {f : Ev} {ρ : Sl} {st : Sto} : evRevL f ρ st = (f ρ st).bind kRv := Eq.trans rfl rfl
@[simp low] theorem kRv_0 {x : D} {st : Sto} : kRv x st = .lift ((itemsL st x).map fun xs => .lst xs.reverse) st := Eq.trans rfl rfl
def kH5 (o' : Sto → D → D → Option D) (y : D) : D → Sto → R D := fun w st4 => .lift (o' st4 y w) st4
def kH4 (o' : Sto → D → D → Option D) (c : Ev) (ρ : Sl) (y : D) : D → Sto → R D := fun z st3 => match z with
  | .bl true => (c ρ st3).bind (kH5 o' y)
  | .bl false => .ok (.bl false) st3
  | _ => .bad
def kH3 (o o' : Sto → D → D → Option D) (c : Ev) (ρ : Sl) (x : D) : D → Sto → R D := fun y st2 => (R.lift (o st2 x y) st2).bind (kH4 o' c ρ y)
def kH2 (o o' : Sto → D → D → Option D) (b c : Ev) (ρ : Sl) : D → Sto → R D := fun x st1 => (b ρ st1).bind (kH3 o o' c ρ x)
@[simp low] theorem evChain_ap {o o' : Sto → D → D → Option D} {a b c : Ev} {ρ : Sl} {st : Sto} : evChain o o' a b c ρ st = (a ρ st).bind (kH2 o o' b c ρ) := Eq.trans rfl rfl
@[simp low] theorem kH5_0 {o' : Sto → D → D → Option D} {y w : D} {st : Sto} : kH5 o' y w st = R.lift (o' st y w) st := Eq.trans rfl rfl
@[simp low] theorem kH4_0 {o' : Sto → D → D → Option D} {c : Ev} {y : D} {ρ : Sl} {st : Sto} : kH4 o' c ρ y (.bl true) st = (c ρ st).bind (kH5 o' y) := Eq.trans rfl rfl
@[simp low] theorem kH4_1 {o' : Sto → D → D → Option D} {c : Ev} {y : D} {ρ : Sl} {st : Sto} : kH4 o' c ρ y (.bl false) st = .ok (.bl false) st := Eq.trans rfl rfl
@[simp low] theorem kH3_0 {o o' : Sto → D → D → Option D} {c : Ev} {x y : D} {ρ : Sl} {st : Sto} : kH3 o o' c ρ x y st = (R.lift (o st x y) st).bind (kH4 o' c ρ y) := Eq.trans rfl rfl
@[simp low] theorem kH2_0 {o o' : Sto → D → D → Option D} {b c : Ev} {x : D} {ρ : Sl} {st : Sto} : kH2 o o' b c ρ x st = (b ρ st).bind (kH3 o o' c ρ x) := Eq.trans rfl rfl
def kCall (n : Nat) (f : Fn) : List D → Sto → R D := fun ds st1 => if ds.length = n then f ds st1 else .bad
@[simp low] theorem evCall_ap {n : Nat} {f : Fn} {g : Ea} {ρ : Sl} {st : Sto} : evCall n f g ρ st = (g ρ st).bind (kCall n f) := Eq.trans rfl rfl
@[simp low] theorem kCall_0 {n : Nat} {f : Fn} {ds : List D} {st : Sto} (h : ds.length = n) : kCall n f ds st = f ds st := if_pos h
def kBf (o : Sto → List D → Option D) : List D → Sto → R D := fun ds st1 => .lift (o st1 ds) st1
@[simp low] theorem evB_ap {o : Sto → List D → Option D} {g : Ea} {ρ : Sl} {st : Sto} : evB o g ρ st = (g ρ st).bind (kBf o) := Eq.trans rfl rfl
@[simp low] theorem kBf_0 {o : Sto → List D → Option D} {ds : List D} {st : Sto} : kBf o ds st = R.lift (o st ds) st := Eq.trans rfl rfl
def kIs (T : Ty) : D → Sto → R D := fun d st1 => .lift ((isD T d).map .bl) st1
@[simp low] theorem evIs_ap {T : Ty} {f : Ev} {ρ : Sl} {st : Sto} : evIs T f ρ st = (f ρ st).bind (kIs T) := Eq.trans rfl rfl
@[simp low] theorem kIs_0 {T : Ty} {d : D} {st : Sto} : kIs T d st = R.lift ((isD T d).map .bl) st := Eq.trans rfl rfl
def kMR2 (o : Sto → Nat → List D → R D) (n : Nat) : List D → Sto → R D := fun ds st2 => o st2 n ds
def kMR (o : Sto → Nat → List D → R D) (g : Ea) (ρ : Sl) : D → Sto → R D := fun d st1 => match d with
  | .ref n => (g ρ st1).bind (kMR2 o n)
  | _ => .bad
@[simp low] theorem evMR_ap {o : Sto → Nat → List D → R D} {f : Ev} {g : Ea} {ρ : Sl} {st : Sto} : evMR o f g ρ st = (f ρ st).bind (kMR o g ρ) := Eq.trans rfl rfl
@[simp low] theorem kMR2_0 {o : Sto → Nat → List D → R D} {n : Nat} {ds : List D} {st : Sto} : kMR2 o n ds st = o st n ds := Eq.trans rfl rfl
@[simp low] theorem kMR_0 {o : Sto → Nat → List D → R D} {g : Ea} {n : Nat} {ρ : Sl} {st : Sto} : kMR o g ρ (.ref n) st = (g ρ st).bind (kMR2 o n) := Eq.trans rfl rfl
def kML2 (o : Sto → List D → List D → R D) (xs : List D) : List D → Sto → R D := fun ds st2 => o st2 xs ds
def kML (o : Sto → List D → List D → R D) (g : Ea) (ρ : Sl) : D → Sto → R D := fun d st1 => match d with
  | .lst xs => (g ρ st1).bind (kML2 o xs)
  | _ => .bad
@[simp low] theorem evML_ap {o : Sto → List D → List D → R D} {f : Ev} {g : Ea} {ρ : Sl} {st : Sto} : evML o f g ρ st = (f ρ st).bind (kML o g ρ) := Eq.trans rfl rfl
@[simp low] theorem kML2_0 {o : Sto → List D → List D → R D} {xs ds : List D} {st : Sto} : kML2 o xs ds st = o st xs ds := Eq.trans rfl rfl
@[simp low] theorem kML_0 {o : Sto → List D → List D → R D} {g : Ea} {xs : List D} {ρ : Sl} {st : Sto} : kML o g ρ (.lst xs) st = (g ρ st).bind (kML2 o xs) := Eq.trans rfl rfl
def kIV  : D → Sto → R (List D) := fun d st1 => .lift (fixed d) st1
@[simp low] theorem itVal_ap {f : Ev} {ρ : Sl} {st : Sto} : itVal f ρ st = (f ρ st).bind kIV := Eq.trans rfl rfl
@[simp low] theorem kIV_0 {d : D} {st : Sto} : kIV d st = R.lift (fixed d) st := Eq.trans rfl rfl
def kIR1  : List D → Sto → R (List D) := fun ds st1 => match ds with
  | [.int j] => if -(2 ^ 62) ≤ j ∧ j < 2 ^ 62 then .ok (rng 0 j.toNat) st1 else .bad
  | _ => .bad
@[simp low] theorem itR1_ap {g : Ea} {ρ : Sl} {st : Sto} : itR1 g ρ st = (g ρ st).bind kIR1 := Eq.trans rfl rfl
@[simp low] theorem kIR1_0 {j : Int} {st : Sto} : kIR1 [.int j] st = if -(2 ^ 62) ≤ j ∧ j < 2 ^ 62 then .ok (rng 0 j.toNat) st else .bad := Eq.trans rfl rfl
def kIR2  : List D → Sto → R (List D) := fun ds st1 => match ds with
  | [.int i, .int j] => if (-(2 ^ 62) ≤ i ∧ i < 2 ^ 62) ∧ -(2 ^ 62) ≤ j ∧ j < 2 ^ 62 then .ok (rng i (j - i).toNat) st1 else .bad
  | _ => .bad
@[simp low] theorem itR2_ap {g : Ea} {ρ : Sl} {st : Sto} : itR2 g ρ st = (g ρ st).bind kIR2 := Eq.trans rfl rfl
@[simp low] theorem kIR2_0 {i j : Int} {st : Sto} : kIR2 [.int i, .int j] st = if (-(2 ^ 62) ≤ i ∧ i < 2 ^ 62) ∧ -(2 ^ 62) ≤ j ∧ j < 2 ^ 62 then .ok (rng i (j - i).toNat) st else .bad := Eq.trans rfl rfl
def kIE  : List D → Sto → R (List D) := fun ds st1 => .lift (one1 (fun d => (fixed d).map pairN) ds) st1
@[simp low] theorem itEn_ap {g : Ea} {ρ : Sl} {st : Sto} : itEn g ρ st = (g ρ st).bind kIE := Eq.trans rfl rfl
@[simp low] theorem kIE_0 {d : D} {st : Sto} : kIE [d] st = R.lift ((fixed d).map pairN) st := Eq.trans rfl rfl
def kIZ  : List D → Sto → R (List D) := fun ds st1 => .lift (zipD ds) st1
@[simp low] theorem itZip_ap {g : Ea} {ρ : Sl} {st : Sto} : itZip g ρ st = (g ρ st).bind kIZ := Eq.trans rfl rfl
@[simp low] theorem kIZ_0 {ds : List D} {st : Sto} : kIZ ds st = R.lift (zipD ds) st := Eq.trans rfl rfl
def kRg  : D → Sto → R (List D) := fun d st1 => match d with
  | .int n => if 0 ≤ n ∧ n ≤ 1000000 then .ok (rng 0 n.toNat) st1 else .bad
  | _ => .bad
@[simp low] theorem rg1__ap {f : Ev} {ρ : Sl} {st : Sto} : rg1' f ρ st = (f ρ st).bind kRg := Eq.trans rfl rfl
@[simp low] theorem kRg_0 {n : Int} {st : Sto} : kRg (.int n) st = if 0 ≤ n ∧ n ≤ 1000000 then .ok (rng 0 n.toNat) st else .bad := Eq.trans rfl rfl
theorem evLc_ap {vs : List Nat} {it : Ea} {g : Tg} {t : Eb} {e : Ev} {ρ : Sl} {st : Sto} : evLc vs it g t e ρ st = (it ρ st).bind fun ds st1 => (lcGo g t e (wipeS ρ vs) ds st1).bind lcEnd := rfl
theorem evLc2_ap {vs vs1 : List Nat} {it it1 : Ea} {g g1 : Tg} {t t1 : Eb} {e : Ev} {ρ : Sl} {st : Sto} : evLc2 vs vs1 it g t it1 g1 t1 e ρ st = (it ρ st).bind fun ds st1 => (lc2Go vs1 g t it1 g1 t1 e (wipeS ρ vs) ds st1).bind lcEnd := rfl
@[simp low] theorem gN_ap {i : Nat} {d : D} {ρ : Sl} : gN i d ρ = some (ρ.set i (some d)) := Eq.trans rfl rfl
@[simp low] theorem gsNil_ap {ρ : Sl} : gsNil [] ρ = some ρ := Eq.trans rfl rfl
@[simp low] theorem gsCons_ap {f : Tg} {g : Tgs} {d : D} {ds : List D} {ρ : Sl} : gsCons f g (d :: ds) ρ = (f d ρ).bind (g ds) := Eq.trans rfl rfl
@[simp low] theorem gT_ap {n : Nat} {f : Tgs} {ds : List D} {ρ : Sl} : gT n f (.tup ds) ρ = if ds.length = n then f ds ρ else none := Eq.trans rfl rfl
@[simp low] theorem sNil_ap {ρ : Sl} {st : Sto} : sNil ρ st = .nx ρ st := Eq.trans rfl rfl
@[simp low] theorem sCons_ap {f g : Es} {ρ : Sl} {st : Sto} : sCons f g ρ st = (f ρ st).seq g := Eq.trans rfl rfl
def kSet (i : Nat) (ρ : Sl) : D → Sto → RS := fun d st1 => .nx (ρ.set i (some d)) st1
@[simp low] theorem sSet_ap {i : Nat} {f : Ev} {ρ : Sl} {st : Sto} : sSet i f ρ st = (f ρ st).stm ρ (kSet i ρ) := Eq.trans rfl rfl
@[simp low] theorem kSet_0 {i : Nat} {d : D} {ρ : Sl} {st : Sto} : kSet i ρ d st = .nx (ρ.set i (some d)) st := Eq.trans rfl rfl
def kAsg (g : Tg) (ρ : Sl) : D → Sto → RS := fun d st1 => match g d ρ with
  | some ρ' => .nx ρ' st1
  | none => .bad
@[simp low] theorem sAsg_ap {g : Tg} {f : Ev} {ρ : Sl} {st : Sto} : sAsg g f ρ st = (f ρ st).stm ρ (kAsg g ρ) := Eq.trans rfl rfl
@[simp low] theorem kAsg_0 {g : Tg} {d : D} {ρ : Sl} {st : Sto} : kAsg g ρ d st = (match g d ρ with
  | some ρ' => .nx ρ' st
  | none => .bad) := Eq.trans rfl rfl
def kPar (i j : Nat) (ρ : Sl) : List D → Sto → RS := fun ds st1 => match ds with
  | [x, y] => .nx ((ρ.set i (some x)).set j (some y)) st1
  | _ => .bad
@[simp low] theorem sPar_ap {i j : Nat} {g : Ea} {ρ : Sl} {st : Sto} : sPar i j g ρ st = (g ρ st).stm ρ (kPar i j ρ) := Eq.trans rfl rfl
@[simp low] theorem kPar_0 {i j : Nat} {x y : D} {ρ : Sl} {st : Sto} : kPar i j ρ [x, y] st = .nx ((ρ.set i (some x)).set j (some y)) st := Eq.trans rfl rfl
def kSIf (f g : Es) (ρ : Sl) : Bool → Sto → RS := fun b st1 => if b = true then f ρ st1 else g ρ st1
@[simp low] theorem sIf_ap {t : Eb} {f g : Es} {ρ : Sl} {st : Sto} : sIf t f g ρ st = (t ρ st).stm ρ (kSIf f g ρ) := Eq.trans rfl rfl
@[simp low] theorem kSIf_0 {f g : Es} {ρ : Sl} {st : Sto} : kSIf f g ρ true st = f ρ st := Eq.trans rfl rfl
@[simp low] theorem kSIf_1 {f g : Es} {ρ : Sl} {st : Sto} : kSIf f g ρ false st = g ρ st := Eq.trans rfl rfl
def kRet  : D → Sto → RS := fun d st1 => .rt d st1
@[simp low] theorem sRet_ap {f : Ev} {ρ : Sl} {st : Sto} : sRet f ρ st = (f ρ st).stm ρ kRet := Eq.trans rfl rfl
@[simp low] theorem kRet_0 {d : D} {st : Sto} : kRet d st = .rt d st := Eq.trans rfl rfl
@[simp low] theorem sRetN_ap {ρ : Sl} {st : Sto} : sRetN ρ st = .rt .non st := Eq.trans rfl rfl
def kExp (ρ : Sl) : D → Sto → RS := fun _ st1 => .nx ρ st1
@[simp low] theorem sExp_ap {f : Ev} {ρ : Sl} {st : Sto} : sExp f ρ st = (f ρ st).stm ρ (kExp ρ) := Eq.trans rfl rfl
@[simp low] theorem kExp_0 {d : D} {ρ : Sl} {st : Sto} : kExp ρ d st = .nx ρ st := Eq.trans rfl rfl
@[simp low] theorem sExc_ap {c : Str} {ρ : Sl} {st : Sto} : sExc c ρ st = .exc c ρ st := Eq.trans rfl rfl
def kFor (g : Tg) (b : Es) (ρ : Sl) : List D → Sto → RS := fun ds st1 => forGo g b ds ρ st1
@[simp low] theorem sFor_ap {it : Ea} {g : Tg} {b : Es} {ρ : Sl} {st : Sto} : sFor it g b ρ st = (it ρ st).stm ρ (kFor g b ρ) := Eq.trans rfl rfl
@[simp low] theorem kFor_0 {g : Tg} {b : Es} {ds : List D} {ρ : Sl} {st : Sto} : kFor g b ρ ds st = forGo g b ds ρ st := Eq.trans rfl rfl
@[simp low] theorem wipeS_nil {ρ : Sl} : wipeS ρ [] = ρ := Eq.trans rfl rfl
@[simp low] theorem wipeS_cons {ρ : Sl} {v : Nat} {vs : List Nat} : wipeS ρ (v :: vs) = (wipeS ρ vs).set v none := Eq.trans rfl rfl
@[simp] theorem slots0_ap {n : Nat} {ds : List D} : slots0 n ds = ds.map some ++ List.replicate (n - ds.length) none := Eq.trans rfl rfl
@[simp] theorem fnRun_ap {keep : Bool} {n : Nat} {b : Es} {ds : List D} {st : Sto} : fnRun keep n b ds st = fnEnd keep st.length (b (slots0 n ds) st) := Eq.trans rfl rfl
@[simp] theorem fnEnd_rt {d : D} {st : Sto} : fnEnd false st.length (.rt d st) = .ok d st := by simp [fnEnd, cutVal, cutSt]
@[simp] theorem fnEnd_nx {ρ : Sl} {st : Sto} : fnEnd false st.length (.nx ρ st) = .ok .non st := by simp [fnEnd, cutSt]
@[simp] theorem fnEnd_exc {c : Str} {ρ : Sl} {st : Sto} : fnEnd false st.length (.exc c ρ st) = .exc c st := by simp [fnEnd, cutSt]
@[simp] theorem fnEnd_keep {k : Nat} {d : D} {st : Sto} : fnEnd true k (.rt d st) = .ok d st := Eq.trans rfl rfl
@[simp] theorem asB_bl {b : Bool} : asB (.bl b) = some b := Eq.trans rfl rfl
@[simp] theorem noX_ok {α : Type} {a : α} {s : Sto} : (R.ok a s).noX = .ok a s := Eq.trans rfl rfl
@[simp] theorem oAdd_int {st : Sto} {i j : Int} : oAdd st (.int i) (.int j) = some (.int (i + j)) := Eq.trans rfl rfl
@[simp] theorem oSub_int {st : Sto} {i j : Int} : oSub st (.int i) (.int j) = some (.int (i - j)) := Eq.trans rfl rfl
@[simp] theorem oLt_int {st : Sto} {i j : Int} : oLt st (.int i) (.int j) = some (.bl (decide (i < j))) := Eq.trans rfl rfl
@[simp] theorem oLe_int {st : Sto} {i j : Int} : oLe st (.int i) (.int j) = some (.bl (decide (i ≤ j))) := Eq.trans rfl rfl
@[simp] theorem oGt_int {st : Sto} {i j : Int} : oGt st (.int i) (.int j) = some (.bl (decide (j < i))) := Eq.trans rfl rfl
@[simp] theorem oGe_int {st : Sto} {i j : Int} : oGe st (.int i) (.int j) = some (.bl (decide (j ≤ i))) := Eq.trans rfl rfl
@[simp] theorem oMod_pos {st : Sto} {i j : Int} (h : 0 < j) : oMod st (.int i) (.int j) = some (.int (i % j)) := by simp [oMod, h]
@[simp] theorem isD_int_int {i : Int} : isD .int (.int i) = some true := Eq.trans rfl rfl
@[simp] theorem isD_int_tup {i : List D} : isD .int (.tup i) = some false := Eq.trans rfl rfl
@[simp] theorem isD_int_lst {i : List D} : isD .int (.lst i) = some false := Eq.trans rfl rfl
@[simp] theorem isD_int_str {i : Str} : isD .int (.str i) = some false := Eq.trans rfl rfl
@[simp] theorem isD_int_bl {i : Bool} : isD .int (.bl i) = some true := Eq.trans rfl rfl
@[simp] theorem isD_bool_int {i : Int} : isD .bool (.int i) = some false := Eq.trans rfl rfl
@[simp] theorem isD_bool_tup {i : List D} : isD .bool (.tup i) = some false := Eq.trans rfl rfl
@[simp] theorem isD_bool_lst {i : List D} : isD .bool (.lst i) = some false := Eq.trans rfl rfl
@[simp] theorem isD_bool_str {i : Str} : isD .bool (.str i) = some false := Eq.trans rfl rfl
@[simp] theorem isD_bool_bl {i : Bool} : isD .bool (.bl i) = some true := Eq.trans rfl rfl
@[simp] theorem isD_tuple_int {i : Int} : isD .tuple (.int i) = some false := Eq.trans rfl rfl
@[simp] theorem isD_tuple_tup {i : List D} : isD .tuple (.tup i) = some true := Eq.trans rfl rfl
@[simp] theorem isD_tuple_lst {i : List D} : isD .tuple (.lst i) = some false := Eq.trans rfl rfl
@[simp] theorem isD_tuple_str {i : Str} : isD .tuple (.str i) = some false := Eq.trans rfl rfl
@[simp] theorem isD_tuple_bl {i : Bool} : isD .tuple (.bl i) = some false := Eq.trans rfl rfl
@[simp] theorem isD_list_int {i : Int} : isD .list (.int i) = some false := Eq.trans rfl rfl
@[simp] theorem isD_list_tup {i : List D} : isD .list (.tup i) = some false := Eq.trans rfl rfl
@[simp] theorem isD_list_lst {i : List D} : isD .list (.lst i) = some true := Eq.trans rfl rfl
@[simp] theorem isD_list_str {i : Str} : isD .list (.str i) = some false := Eq.trans rfl rfl
@[simp] theorem isD_list_bl {i : Bool} : isD .list (.bl i) = some false := Eq.trans rfl rfl
@[simp] theorem isD_str_int {i : Int} : isD .str (.int i) = some false := Eq.trans rfl rfl
@[simp] theorem isD_str_tup {i : List D} : isD .str (.tup i) = some false := Eq.trans rfl rfl
@[simp] theorem isD_str_lst {i : List D} : isD .str (.lst i) = some false := Eq.trans rfl rfl
@[simp] theorem isD_str_str {i : Str} : isD .str (.str i) = some true := Eq.trans rfl rfl
@[simp] theorem isD_str_bl {i : Bool} : isD .str (.bl i) = some false := Eq.trans rfl rfl
@[simp] theorem items_tup {st : Sto} {xs : List D} : items st (.tup xs) = some xs := Eq.trans rfl rfl
@[simp] theorem items_lst {st : Sto} {xs : List D} : items st (.lst xs) = some xs := Eq.trans rfl rfl
@[simp] theorem items_ref {st : Sto} {n : Nat} : items st (.ref n) = st[n]? := Eq.trans rfl rfl
@[simp] theorem itemsL_lst {st : Sto} {xs : List D} : itemsL st (.lst xs) = some xs := Eq.trans rfl rfl
@[simp] theorem itemsL_ref {st : Sto} {n : Nat} : itemsL st (.ref n) = st[n]? := Eq.trans rfl rfl
@[simp] theorem fixed_tup {xs : List D} : fixed (.tup xs) = some xs := Eq.trans rfl rfl
@[simp] theorem fixed_lst {xs : List D} : fixed (.lst xs) = some xs := Eq.trans rfl rfl
@[simp] theorem one1_one {α : Type} {f : D → Option α} {d : D} : one1 f [d] = f d := Eq.trans rfl rfl
@[simp] theorem bLen_tup {st : Sto} {xs : List D} : bLen st [.tup xs] = some (.int xs.length) := Eq.trans rfl rfl
@[simp] theorem bLen_lst {st : Sto} {xs : List D} : bLen st [.lst xs] = some (.int xs.length) := Eq.trans rfl rfl
@[simp] theorem bTuple_lst {st : Sto} {xs : List D} : bTuple st [.lst xs] = some (.tup xs) := Eq.trans rfl rfl
@[simp] theorem bTuple_tup {st : Sto} {xs : List D} : bTuple st [.tup xs] = some (.tup xs) := Eq.trans rfl rfl
@[simp] theorem bAll_bls {st : Sto} {bs : List Bool} : bAll st [.lst (bs.map D.bl)] = some (.bl (bs.all id)) := by simp [bAll, blsOf_map]
@[simp] theorem bAny_bls {st : Sto} {bs : List Bool} : bAny st [.lst (bs.map D.bl)] = some (.bl (bs.any id)) := by simp [bAny, blsOf_map]
theorem lcEnd_ok {r : List D} {st : Sto} (h : r.length ≤ 1000000) : lcEnd r st = .ok (.lst r) st := by simp [lcEnd, h]

/-! ### comprehensions over encoded lists -/
theorem lcGo_enc {α : Type} {g : Tg} {t : Eb} {e : Ev} {ρ : Sl} {st : Sto} (enc : α → D) (p : α → Bool) (h : α → D) : ∀ (xs : List α), (∀ x ∈ xs, ∃ ρ1, g (enc x) ρ = some ρ1 ∧ t ρ1 st = .ok (p x) st ∧ (p x = true → e ρ1 st = .ok (h x) st)) → lcGo g t e ρ (xs.map enc) st = .ok ((xs.filter p).map h) st
  | [], _ => rfl
  | x :: xs, hs => by
    obtain ⟨ρ1, h1, h2, h3⟩ := hs x (List.mem_cons_self ..)
    have ih := lcGo_enc enc p h xs fun y hy => hs y (List.mem_cons_of_mem _ hy)
    rw [List.map_cons, lcGo, h1]
    simp only [h2, noX_ok, R.bind_ok]
    cases hp : p x with
    | true => simp [h3 hp, ih, hp]
    | false => simp [ih, hp]
/-- a whole comprehension, read off an iterator -/
theorem evLc_enc {α : Type} {vs : List Nat} {it : Ea} {g : Tg} {t : Eb} {e : Ev} {ρ : Sl} {st : Sto} (enc : α → D) (p : α → Bool) (h : α → D) (xs : List α) (hi : it ρ st = .ok (xs.map enc) st) (hl : xs.length ≤ 1000000)
    (hs : ∀ x ∈ xs, ∃ ρ1, g (enc x) (wipeS ρ vs) = some ρ1 ∧ t ρ1 st = .ok (p x) st ∧ (p x = true → e ρ1 st = .ok (h x) st)) : evLc vs it g t e ρ st = .ok (.lst ((xs.filter p).map h)) st := by
  rw [evLc_ap, hi, R.bind_ok, lcGo_enc enc p h xs hs, R.bind_ok, lcEnd_ok]
  rw [List.length_map]
  exact Nat.le_trans (List.length_filter_le _ _) hl
theorem evLc_map {α : Type} {vs : List Nat} {it : Ea} {g : Tg} {e : Ev} {ρ : Sl} {st : Sto} (enc : α → D) (h : α → D) (xs : List α) (hi : it ρ st = .ok (xs.map enc) st) (hl : xs.length ≤ 1000000)
    (hs : ∀ x ∈ xs, ∃ ρ1, g (enc x) (wipeS ρ vs) = some ρ1 ∧ e ρ1 st = .ok (h x) st) : evLc vs it g ebYes e ρ st = .ok (.lst (xs.map h)) st := by
  have z := evLc_enc (vs := vs) (it := it) (g := g) (t := ebYes) (e := e) enc (fun _ => true) h xs hi hl fun x hx => let ⟨ρ1, h1, h2⟩ := hs x hx; ⟨ρ1, h1, rfl, fun _ => h2⟩
  rw [List.filter_eq_self.mpr (fun _ _ => rfl)] at z
  exact z
theorem blsOf_fun {α : Type} (q : α → Bool) (xs : List α) : blsOf (xs.map fun x => D.bl (q x)) = some (xs.map q) := by
  have := blsOf_map (xs.map q)
  rw [List.map_map] at this
  exact this
theorem bAll_fun {α : Type} {st : Sto} (q : α → Bool) (xs : List α) : bAll st [.lst (xs.map fun x => D.bl (q x))] = some (.bl (xs.all q)) := by
  have e : bAll st [.lst (xs.map fun x => D.bl (q x))] = ((some (xs.map fun x => D.bl (q x))).bind blsOf).map fun bs => .bl (bs.all id) := rfl
  rw [e, Option.bind_some, blsOf_fun]
  simp
theorem bAny_fun {α : Type} {st : Sto} (q : α → Bool) (xs : List α) : bAny st [.lst (xs.map fun x => D.bl (q x))] = some (.bl (xs.any q)) := by
  have e : bAny st [.lst (xs.map fun x => D.bl (q x))] = ((some (xs.map fun x => D.bl (q x))).bind blsOf).map fun bs => .bl (bs.any id) := rfl
  rw [e, Option.bind_some, blsOf_fun]
  simp
theorem allLc {α : Type} {lc : Ev} {ρ : Sl} {st : Sto} {q : α → Bool} {xs : List α} {b : Bool} (h : lc ρ st = .ok (.lst (xs.map fun x => .bl (q x))) st) (hb : xs.all q = b) : evB bAll (eaCons lc eaNil) ρ st = .ok (.bl b) st := by
  rw [evB_ap, eaCons_ap, h, R.bind_ok, kC2_0, eaNil_ap, R.bind_ok, kC3_0, R.bind_ok, kBf_0, bAll_fun, hb, R.lift_some]
theorem anyLc {α : Type} {lc : Ev} {ρ : Sl} {st : Sto} {q : α → Bool} {xs : List α} {b : Bool} (h : lc ρ st = .ok (.lst (xs.map fun x => .bl (q x))) st) (hb : xs.any q = b) : evB bAny (eaCons lc eaNil) ρ st = .ok (.bl b) st := by
  rw [evB_ap, eaCons_ap, h, R.bind_ok, kC2_0, eaNil_ap, R.bind_ok, kC3_0, R.bind_ok, kBf_0, bAny_fun, hb, R.lift_some]
theorem tupLc {lc : Ev} {ρ : Sl} {st : Sto} {xs : List D} (h : lc ρ st = .ok (.lst xs) st) : evB bTuple (eaCons lc eaNil) ρ st = .ok (.tup xs) st := by
  rw [evB_ap, eaCons_ap, h]; rfl
theorem lenLc {lc : Ev} {ρ : Sl} {st : Sto} {xs : List D} (h : lc ρ st = .ok (.lst xs) st) : evB bLen (eaCons lc eaNil) ρ st = .ok (.int xs.length) st := by
  rw [evB_ap, eaCons_ap, h]; rfl
theorem evLc_id {α : Type} {vs : List Nat} {it : Ea} {g : Tg} {t : Eb} {e : Ev} {ρ : Sl} {st : Sto} (enc : α → D) (p : α → Bool) (xs : List α) (hi : it ρ st = .ok (xs.map enc) st) (hl : xs.length ≤ 1000000)
    (hs : ∀ x ∈ xs, ∃ ρ1, g (enc x) (wipeS ρ vs) = some ρ1 ∧ t ρ1 st = .ok (p x) st ∧ e ρ1 st = .ok (enc x) st) : evLc vs it g t e ρ st = .ok (.lst ((xs.filter p).map enc)) st :=
  evLc_enc enc p enc xs hi hl fun x hx => let ⟨ρ1, h1, h2, h3⟩ := hs x hx; ⟨ρ1, h1, h2, fun _ => h3⟩
theorem lc2Go_enc {α β : Type} {vs1 : List Nat} {g g1 : Tg} {t t1 : Eb} {it1 : Ea} {e : Ev} {ρ : Sl} {st : Sto} (enc : α → D) (enc1 : β → D) (f : α → List β) (p : α → β → Bool) (h : α → β → D) : ∀ (xs : List α),
    (∀ x ∈ xs, ∃ ρ1, g (enc x) ρ = some ρ1 ∧ t ρ1 st = .ok true st ∧ it1 ρ1 st = .ok ((f x).map enc1) st ∧ ∀ y ∈ f x, ∃ ρ2, g1 (enc1 y) (wipeS ρ1 vs1) = some ρ2 ∧ t1 ρ2 st = .ok (p x y) st ∧ (p x y = true → e ρ2 st = .ok (h x y) st)) →
    lc2Go vs1 g t it1 g1 t1 e ρ (xs.map enc) st = .ok (xs.flatMap fun x => ((f x).filter (p x)).map (h x)) st
  | [], _ => rfl
  | x :: xs, hs => by
    obtain ⟨ρ1, h1, h2, h3, h4⟩ := hs x (List.mem_cons_self ..)
    have ih := lc2Go_enc enc enc1 f p h xs fun y hy => hs y (List.mem_cons_of_mem _ hy)
    rw [List.map_cons, lc2Go, h1]
    have e1 := lcGo_enc enc1 (p x) (h x) (f x) h4
    simp only [h2, h3, noX_ok, R.bind_ok, if_true, e1, ih, List.flatMap_cons]
theorem evLc2_enc {α β : Type} {vs vs1 : List Nat} {it it1 : Ea} {g g1 : Tg} {t t1 : Eb} {e : Ev} {ρ : Sl} {st : Sto} (enc : α → D) (enc1 : β → D) (f : α → List β) (p : α → β → Bool) (h : α → β → D) (xs : List α) (hi : it ρ st = .ok (xs.map enc) st)
    (hl : (xs.flatMap fun x => ((f x).filter (p x)).map (h x)).length ≤ 1000000)
    (hs : ∀ x ∈ xs, ∃ ρ1, g (enc x) (wipeS ρ vs) = some ρ1 ∧ t ρ1 st = .ok true st ∧ it1 ρ1 st = .ok ((f x).map enc1) st ∧ ∀ y ∈ f x, ∃ ρ2, g1 (enc1 y) (wipeS ρ1 vs1) = some ρ2 ∧ t1 ρ2 st = .ok (p x y) st ∧ (p x y = true → e ρ2 st = .ok (h x y) st)) :
    evLc2 vs vs1 it g t it1 g1 t1 e ρ st = .ok (.lst (xs.flatMap fun x => ((f x).filter (p x)).map (h x))) st := by
  rw [evLc2_ap, hi, R.bind_ok, lc2Go_enc enc enc1 f p h xs hs, R.bind_ok, lcEnd_ok hl]
/-! ### loops over encoded lists -/
theorem forGo_ix {α : Type} {g : Tg} {b : Es} (enc : α → D) (I : Nat → Sl → Sto → Prop) : ∀ (xs : List α) (k : Nat) (ρ : Sl) (st : Sto), I k ρ st →
    (∀ (i : Nat) (x : α) (ρ : Sl) (st : Sto), xs[i]? = some x → I (k + i) ρ st → ∃ ρ1 ρ2 st2, g (enc x) ρ = some ρ1 ∧ b ρ1 st = .nx ρ2 st2 ∧ I (k + i + 1) ρ2 st2) →
    ∃ ρ' st', forGo g b (xs.map enc) ρ st = .nx ρ' st' ∧ I (k + xs.length) ρ' st'
  | [], k, ρ, st, h, _ => ⟨ρ, st, rfl, h⟩
  | x :: xs, k, ρ, st, h, hs => by
    obtain ⟨ρ1, ρ2, st2, h1, h2, h3⟩ := hs 0 x ρ st rfl h
    obtain ⟨ρ', st', e1, e2⟩ := forGo_ix enc I xs (k + 1) ρ2 st2 h3 fun i y ρ st hy hi => by
      have := hs (i + 1) y ρ st (by simpa using hy) (by rw [show k + (i + 1) = k + 1 + i by omega]; exact hi)
      rw [show k + (i + 1) + 1 = k + 1 + i + 1 by omega] at this
      exact this
    refine ⟨ρ', st', ?_, by rw [List.length_cons, show k + (xs.length + 1) = k + 1 + xs.length by omega]; exact e2⟩
    rw [List.map_cons, forGo, h1]
    simp only [h2, RS.turn_nx, e1]
/-- a state that is folded -/
theorem forGo_fold {α β : Type} {g : Tg} {b : Es} {st : Sto} (enc : α → D) (I : β → Sl → Prop) (f : β → α → β) : ∀ (xs : List α) (s : β) (ρ : Sl), I s ρ →
    (∀ (x : α) (s : β) (ρ : Sl), x ∈ xs → I s ρ → ∃ ρ1 ρ2, g (enc x) ρ = some ρ1 ∧ b ρ1 st = .nx ρ2 st ∧ I (f s x) ρ2) →
    ∃ ρ', forGo g b (xs.map enc) ρ st = .nx ρ' st ∧ I (xs.foldl f s) ρ'
  | [], s, ρ, h, _ => ⟨ρ, rfl, h⟩
  | x :: xs, s, ρ, h, hs => by
    obtain ⟨ρ1, ρ2, h1, h2, h3⟩ := hs x s ρ (List.mem_cons_self ..) h
    obtain ⟨ρ', e1, e2⟩ := forGo_fold enc I f xs (f s x) ρ2 h3 fun y s ρ hy => hs y s ρ (List.mem_cons_of_mem _ hy)
    refine ⟨ρ', ?_, e2⟩
    rw [List.map_cons, forGo, h1]
    simp only [h2, RS.turn_nx, e1]
/-- a loop that may return -/
theorem forGo_ret {α : Type} {g : Tg} {b : Es} {st : Sto} (enc : α → D) (I : Sl → Prop) (f : α → Option D) : ∀ (xs : List α) (ρ : Sl), I ρ →
    (∀ (x : α) (ρ : Sl), x ∈ xs → I ρ → ∃ ρ1, g (enc x) ρ = some ρ1 ∧ ((∃ d, f x = some d ∧ b ρ1 st = .rt d st) ∨ (f x = none ∧ ∃ ρ2, b ρ1 st = .nx ρ2 st ∧ I ρ2))) →
    (∃ d, xs.findSome? f = some d ∧ forGo g b (xs.map enc) ρ st = .rt d st) ∨ (xs.findSome? f = none ∧ ∃ ρ', forGo g b (xs.map enc) ρ st = .nx ρ' st ∧ I ρ')
  | [], ρ, h, _ => .inr ⟨rfl, ρ, rfl, h⟩
  | x :: xs, ρ, h, hs => by
    obtain ⟨ρ1, h1, h2⟩ := hs x ρ (List.mem_cons_self ..) h
    rw [List.map_cons, forGo, h1, List.findSome?_cons]
    rcases h2 with ⟨d, e1, e2⟩ | ⟨e1, ρ2, e2, e3⟩
    · rw [e1]
      exact .inl ⟨d, rfl, by simp only [e2, RS.turn_rt]⟩
    · rw [e1]
      simp only [e2, RS.turn_nx]
      exact forGo_ret enc I f xs ρ2 e3 fun y ρ hy => hs y ρ (List.mem_cons_of_mem _ hy)
theorem rng0 (n : Nat) : rng 0 n = (List.range n).map fun (i : Nat) => D.int i := by
  unfold rng
  congr 1
  funext i
  simp
end Ip
set_option Elab.async false
set_option linter.all false
set_option maxRecDepth 100000
set_option maxHeartbeats 4000000
namespace Lw
open PySem Ip Lots

/-! ### plans, cases as data -/
abbrev dI (n : Nat) : D := .int (n : Int)
def dL (l : List Nat) : D := .tup (l.map dI)
abbrev Pl := Nat × List (List Nat)
def dP (p : Pl) : D := .tup [dI p.1, .tup (p.2.map dL)]
/-- ascending, below m -/
def Asc (m : Nat) (l : List Nat) : Prop := l.Pairwise (· < ·) ∧ ∀ x ∈ l, x < m
structure OkP (p : Pl) : Prop where
  one : 1 ≤ p.1
  ten : p.1 ≤ 10
  lots : p.2.length ≤ 10
  asc : ∀ l ∈ p.2, Asc p.1 l
theorem Asc.len {m : Nat} {l : List Nat} (h : Asc m l) : l.length ≤ m := by
  have nd : l.Nodup := h.1.imp fun h => Nat.ne_of_lt h
  have : l ⊆ List.range m := fun x hx => List.mem_range.mpr (h.2 x hx)
  have := nd.length_le_of_subset this
  simpa using this
@[simp] theorem okS_int {i : Int} : okS (.int i) = true := Eq.trans rfl rfl
theorem okSs_map {α : Type} {f : α → D} {l : List α} (h : ∀ x ∈ l, okS (f x) = true) : okSs (l.map f) = true := by
  induction l with
  | nil => rfl
  | cons x l ih =>
    show (okS (f x) && okSs (l.map f)) = true
    rw [h x (List.mem_cons_self ..), ih fun y hy => h y (List.mem_cons_of_mem _ hy)]
    rfl
@[simp] theorem okSs_ints {l : List Nat} : okSs (l.map dI) = true := okSs_map fun _ _ => rfl
@[simp] theorem okS_dL {l : List Nat} : okS (dL l) = true := okSs_ints
theorem pys_fun {α : Type} {f : α → D} {g : α → PyData} (h : ∀ x, py (f x) = g x) (l : List α) : pys (l.map f) = l.map g := by
  rw [pys_map, List.map_map]
  exact List.map_congr_left fun x _ => h x
theorem depthAll_le {n : Nat} : ∀ {l : List PyData}, (∀ x ∈ l, x.depth ≤ n) → PyData.depthAll l ≤ n
  | [], _ => Nat.zero_le _
  | x :: l, h => by
    have h1 := h x (List.mem_cons_self ..)
    have h2 := depthAll_le (l := l) fun y hy => h y (List.mem_cons_of_mem _ hy)
    simp only [PyData.depthAll]
    exact Nat.max_le.mpr ⟨h1, h2⟩
theorem depth_tup {l : List PyData} : (PyData.tuple l).depth = PyData.depthAll l + 1 := by simp [PyData.depth]
theorem depth_lst {l : List PyData} : (PyData.list l).depth = PyData.depthAll l + 1 := by simp [PyData.depth]
theorem depth_dL {l : List Nat} : (py (dL l)).depth ≤ 1 := by
  show (PyData.tuple (pys (l.map dI))).depth ≤ 1
  rw [depth_tup, pys_fun (f := dI) (g := fun (n : Nat) => PyData.int n) (fun _ => rfl)]
  have : PyData.depthAll (l.map fun (n : Nat) => PyData.int n) ≤ 0 := depthAll_le fun x hx => by
    obtain ⟨n, _, rfl⟩ := List.mem_map.mp hx
    simp [PyData.depth]
  omega
@[simp] theorem okD_int {i : Int} : okD (.int i) = true := Eq.trans rfl rfl
@[simp] theorem okD_dL {l : List Nat} : okD (dL l) = true := by
  unfold okD
  rw [okS_dL, Bool.true_and, decide_eq_true_eq]
  exact Nat.le_trans depth_dL (by decide)
@[simp] theorem eqD_int {i j : Int} : eqD (.int i) (.int j) = decide (i = j) := by
  show PyData.eqv (.int i) (.int j) = _
  simp [PyData.eqv]
  rfl
theorem eqvAll_ints : ∀ {a b : List Nat}, PyData.eqvAll (pys (a.map dI)) (pys (b.map dI)) = decide (a = b)
  | [], [] => by simp [pys, PyData.eqvAll]
  | [], _ :: _ => by simp [pys, PyData.eqvAll]
  | _ :: _, [] => by simp [pys, PyData.eqvAll]
  | x :: a, y :: b => by
    have ih := eqvAll_ints (a := a) (b := b)
    simp only [List.map_cons, pys, py, PyData.eqvAll, PyData.eqv, ih]
    by_cases h : x = y
    · subst h; simp
    · have : ((x : Int) == (y : Int)) = false := by
        rw [beq_eq_false_iff_ne]
        omega
      rw [this]
      simp [h]
@[simp] theorem eqD_dL {a b : List Nat} : eqD (dL a) (dL b) = decide (a = b) := by
  show PyData.eqv (.tuple (pys (a.map dI))) (.tuple (pys (b.map dI))) = _
  rw [PyData.eqv, eqvAll_ints]
theorem inD_ints {l : List Nat} {a : Nat} : inD (l.map dI) (dI a) = decide (a ∈ l) := by
  unfold inD
  rw [List.any_map, Bool.eq_iff_iff, List.any_eq_true, decide_eq_true_eq]
  constructor
  · rintro ⟨x, hx, e⟩
    have e : eqD (dI x) (dI a) = true := e
    rw [eqD_int, decide_eq_true_eq] at e
    have : x = a := by omega
    exact this ▸ hx
  · exact fun h => ⟨a, h, by show eqD (dI a) (dI a) = true; simp⟩
@[simp] theorem oIn_dL {st : Sto} {a : Nat} {l : List Nat} : oIn st (dI a) (dL l) = some (.bl (decide (a ∈ l))) := by
  unfold oIn dL
  simp [inD_ints]
@[simp] theorem oNotIn_dL {st : Sto} {a : Nat} {l : List Nat} : oNotIn st (dI a) (dL l) = some (.bl (decide (a ∉ l))) := by
  unfold oNotIn dL
  simp [inD_ints]
@[simp] theorem oEq_int {st : Sto} {i j : Int} : oEq st (.int i) (.int j) = some (.bl (decide (i = j))) := by simp [oEq, deref]
@[simp] theorem oNe_int {st : Sto} {i j : Int} : oNe st (.int i) (.int j) = some (.bl (!decide (i = j))) := by simp [oNe, deref]
@[simp] theorem deref_dL {st : Sto} {l : List Nat} : deref st (dL l) = dL l := Eq.trans rfl rfl
@[simp] theorem oEq_dL {st : Sto} {a b : List Nat} : oEq st (dL a) (dL b) = some (.bl (decide (a = b))) := by simp [oEq]
@[simp] theorem oNe_dL {st : Sto} {a b : List Nat} : oNe st (dL a) (dL b) = some (.bl (!decide (a = b))) := by simp [oNe]
@[simp] theorem fixed_dL {l : List Nat} : fixed (dL l) = some (l.map dI) := Eq.trans rfl rfl
@[simp] theorem bLen_dL {st : Sto} {l : List Nat} : bLen st [dL l] = some (.int l.length) := by simp [dL]
@[simp] theorem isD_tuple_dL {l : List Nat} : isD .tuple (dL l) = some true := Eq.trans rfl rfl
@[simp] theorem atI_nat {α : Type} {xs : List α} {i : Nat} : L2.atI xs (i : Int) = xs[i]? := by
  unfold L2.atI L2.ixN
  by_cases h : i < xs.length
  · rw [if_pos (by omega), if_pos (by omega)]
    simp
  · rw [if_pos (by omega), if_neg (by omega), List.getElem?_eq_none (by omega)]
    rfl
@[simp] theorem atI_0 {α : Type} {xs : List α} : L2.atI xs 0 = xs[0]? := atI_nat (i := 0)
@[simp] theorem atI_1 {α : Type} {xs : List α} : L2.atI xs 1 = xs[1]? := atI_nat (i := 1)
@[simp] theorem oIx_dP0 {st : Sto} {p : Pl} : oIx st (dP p) (.int 0) = some (dI p.1) := by simp [oIx, dP]
@[simp] theorem oIx_dP1 {st : Sto} {p : Pl} : oIx st (dP p) (.int 1) = some (.tup (p.2.map dL)) := by simp [oIx, dP]
@[simp] theorem bLen_dP {st : Sto} {p : Pl} : bLen st [dP p] = some (.int 2) := by simp [dP]
@[simp] theorem isD_tuple_dP {p : Pl} : isD .tuple (dP p) = some true := Eq.trans rfl rfl

theorem kIR1_nat {j : Nat} (h : j ≤ 1000000) {st : Sto} : kIR1 [dI j] st = .ok ((List.range j).map dI) st := by
  rw [kIR1_0, if_pos (by omega), rng0]
  simp
theorem kIR1_nat1 {j : Nat} (h : j ≤ 100000) {st : Sto} : kIR1 [.int ((j : Int) + 1)] st = .ok ((List.range (j + 1)).map dI) st := kIR1_nat (j := j + 1) (by omega)
/-! ### is_whole .. need_view -/
@[simp] theorem is_whole_int (v lo hi : Int) (st : Sto) : f_is_whole [.int v, .int lo, .int hi] st = .ok (.bl (decide (lo ≤ v) && decide (v ≤ hi))) st := by
  simp [f_is_whole, b_is_whole]
  by_cases h : lo ≤ v <;> simp [h]
theorem zip_tail {l : List Nat} : pairZ (l.map dI) (l.map dI).tail = (l.zip l.tail).map fun q => .tup [dI q.1, dI q.2] := by
  unfold pairZ
  rw [← List.map_tail, List.zip_map, List.map_map]
  rfl
theorem all_tail : ∀ {l : List Nat}, l.Pairwise (· < ·) → ((l.zip l.tail).all fun q => decide ((q.1 : Int) < (q.2 : Int))) = true
  | [], _ => rfl
  | [_], _ => rfl
  | x :: y :: l, h => by
    have h2 := List.pairwise_cons.mp h
    have ih := all_tail h2.2
    show (((x, y) :: ((y :: l).zip l)).all _) = true
    rw [List.all_cons]
    have e : ((y :: l).zip l).all (fun q => decide ((q.1 : Int) < (q.2 : Int))) = true := ih
    rw [e, Bool.and_true, decide_eq_true_eq]
    have := h2.1 y (List.mem_cons_self ..)
    omega
theorem is_rising_ok {m : Nat} {l : List Nat} (h : Asc m l) (hl : l.length ≤ 1000) (st : Sto) : f_is_rising [dL l, dI m] st = .ok (.bl true) st := by
  have c1 : evLc [2] (itVal (evVar 0)) (gN 2) ebYes (evCall 3 f_is_whole (eaCons (evVar 2) (eaCons (evC (.int 0)) (eaCons (evOp oSub (evVar 1) (evC (.int 1))) eaNil)))) [some (dL l), some (dI m), none, none] st = .ok (.lst (l.map fun (x : Nat) => .bl (decide ((0 : Int) ≤ (x : Int)) && decide ((x : Int) ≤ (m : Int) - 1)))) st :=
    evLc_map dI _ l (by simp) (by omega) fun x hx => ⟨_, rfl, by simp⟩
  have c2 : evLc [2, 3] (itZip (eaCons (evVar 0) (eaCons (evSl (evVar 0) (eoSome (evC (.int 1))) eoNone) eaNil))) (gT 2 (gsCons (gN 2) (gsCons (gN 3) gsNil))) ebYes (evOp oLt (evVar 2) (evVar 3)) [some (dL l), some (dI m), none, none] st = .ok (.lst ((l.zip l.tail).map fun q => .bl (decide ((q.1 : Int) < (q.2 : Int))))) st := by
    refine evLc_map (fun q => .tup [dI q.1, dI q.2]) _ _ ?_ (by simp; omega) fun x hx => ⟨_, rfl, by simp⟩
    have e : cutD (l.map dI) (some 1) none = (l.map dI).tail := by
      unfold cutD
      have e1 : HT.sIx (l.map dI).length 0 (some 1) = min 1 (l.map dI).length := HT.sIx_nat _ 0 1
      rw [e1]
      show List.take ((l.map dI).length - _) _ = _
      by_cases hz : l.length = 0
      · rw [List.length_eq_zero_iff.mp hz]; rfl
      · have : min 1 (l.map dI).length = 1 := by simp; omega
        rw [this, List.drop_one]
        rw [List.take_of_length_le]
        simp
    simp [dL, oSl, e, zipD, zip_tail]
  have a1 : (l.all fun (x : Nat) => decide ((0 : Int) ≤ (x : Int)) && decide ((x : Int) ≤ (m : Int) - 1)) = true := by
    rw [List.all_eq_true]
    intro x hx
    have := h.2 x hx
    simp
    omega
  have d1 := allLc c1 a1
  have d2 := allLc c2 (all_tail h.1)
  simp [f_is_rising, b_is_rising, d1, d2]
end Lw
namespace Lw
open PySem Ip Lots
theorem fits_plan_ok {p : Pl} (h : OkP p) (st : Sto) : f_fits_plan [dP p] st = .ok (.bl true) st := by
  have c1 : evLc [1] (itVal (evOp oIx (evVar 0) (evC (.int 1)))) (gN 1) ebYes (evCall 2 f_is_rising (eaCons (evVar 1) (eaCons (evOp oIx (evVar 0) (evC (.int 0))) eaNil))) [some (dP p), none] st = .ok (.lst (p.2.map fun _ => .bl true)) st :=
    evLc_map dL _ p.2 (by simp) (by have := h.lots; omega) fun l hl => ⟨_, rfl, by
      have := (h.asc l hl).len
      have := h.ten
      simp [is_rising_ok (h.asc l hl) (by omega)]⟩
  have d1 := allLc c1 (b := true) (by simp)
  have h1 := h.one
  have h2 := h.ten
  have h3 := h.lots
  have e1 : decide ((1 : Int) ≤ (p.1 : Int)) = true := by simp; omega
  have e2 : decide ((p.1 : Int) ≤ 10) = true := by simp; omega
  have e3 : decide ((10 : Int) < (p.2.length : Int)) = false := by simp; omega
  simp [f_fits_plan, b_fits_plan, d1, e1, e2, e3]
@[simp] theorem need_plan_ok {p : Pl} (h : OkP p) (st : Sto) : f_need_plan [dP p] st = .ok .non st := by
  simp [f_need_plan, b_need_plan, fits_plan_ok h]
theorem need_case_ok {p : Pl} {c : List Nat} (h : OkP p) (hc : Asc p.1 c) (st : Sto) : f_need_case [dP p, dL c] st = .ok .non st := by
  have := hc.len
  have := h.ten
  simp [f_need_case, b_need_case, is_rising_ok hc (by omega)]
theorem need_view_ok {m : Nat} {c : List Nat} (hm : m ≤ 1000) (hc : Asc m c) (st : Sto) : f_need_view [dI m, dL c] st = .ok .non st := by
  have := hc.len
  simp [f_need_view, b_need_view, is_rising_ok hc (by omega)]
theorem need_number_ok {v lo hi : Int} (h1 : lo ≤ v) (h2 : v ≤ hi) (st : Sto) : f_need_number [.int v, .int lo, .int hi] st = .ok .non st := by
  simp [f_need_number, b_need_number, h1, h2]
theorem need_both_ok {p : Pl} {m : Nat} (h : OkP p) (hm : m ≤ 10) (st : Sto) : f_need_both [dP p, dI m] st = .ok .non st := by
  simp [f_need_both, b_need_both, need_plan_ok h, need_number_ok (v := m) (lo := 0) (hi := 10) (by omega) (by omega)]

/-! ### what a case shows, in which lots a thing is -/
def view (p : Pl) (c : List Nat) : List Nat := (p.2.zipIdx.filter fun q => q.1.any fun t => decide (t ∈ c)).map (·.2)
def lotsOf (p : Pl) (t : Nat) : List Nat := (p.2.zipIdx.filter fun q => decide (t ∈ q.1)).map (·.2)
def encL (q : List Nat × Nat) : D := .tup [dI q.2, dL q.1]
theorem pairN_lots {p : Pl} : pairN (p.2.map dL) = p.2.zipIdx.map encL := by
  unfold pairN
  rw [List.zipIdx_map, List.map_map]
  rfl
theorem view_of_ok {p : Pl} (h : OkP p) (c : List Nat) (st : Sto) : f_view_of [dP p, dL c] st = .ok (dL (view p c)) st := by
  have c2 : ∀ q ∈ p.2.zipIdx, evLc [4] (itVal (evVar 3)) (gN 4) ebYes (evOp oIn (evVar 4) (evVar 1)) [some (dP p), some (dL c), some (dI q.2), some (dL q.1), none] st = .ok (.lst (q.1.map fun t => .bl (decide (t ∈ c)))) st := fun q hq => by
    have := (h.asc q.1 (List.fst_mem_of_mem_zipIdx hq)).len
    have := h.ten
    exact evLc_map dI _ q.1 (by simp) (by omega) fun t _ => ⟨_, rfl, by simp⟩
  have c1 : evLc [2, 3] (itEn (eaCons (evOp oIx (evVar 0) (evC (.int 1))) eaNil)) (gT 2 (gsCons (gN 2) (gsCons (gN 3) gsNil))) (ebOf (evB bAny (eaCons (evLc [4] (itVal (evVar 3)) (gN 4) ebYes (evOp oIn (evVar 4) (evVar 1))) eaNil))) (evVar 2) [some (dP p), some (dL c), none, none, none] st
      = .ok (.lst ((p.2.zipIdx.filter fun q => q.1.any fun t => decide (t ∈ c)).map fun q => dI q.2)) st := by
    refine evLc_enc encL _ _ _ (by simp [pairN_lots]) (by have := h.lots; simp; omega) fun q hq => ⟨_, rfl, ?_, fun _ => by simp⟩
    have d2 := anyLc (c2 q hq) rfl
    simp [d2]
  have d1 := tupLc c1
  have e : D.tup ((p.2.zipIdx.filter fun q => q.1.any fun t => decide (t ∈ c)).map fun q => dI q.2) = dL (view p c) := by
    unfold dL view
    rw [List.map_map]; rfl
  rw [e] at d1
  simp [f_view_of, b_view_of, d1]
theorem lots_of_ok {p : Pl} (h : OkP p) (t : Nat) (st : Sto) : f_lots_of [dP p, dI t] st = .ok (dL (lotsOf p t)) st := by
  have c1 : evLc [2, 3] (itEn (eaCons (evOp oIx (evVar 0) (evC (.int 1))) eaNil)) (gT 2 (gsCons (gN 2) (gsCons (gN 3) gsNil))) (ebOf (evOp oIn (evVar 1) (evVar 3))) (evVar 2) [some (dP p), some (dI t), none, none] st
      = .ok (.lst ((p.2.zipIdx.filter fun q => decide (t ∈ q.1)).map fun q => dI q.2)) st :=
    evLc_enc encL _ _ _ (by simp [pairN_lots]) (by have := h.lots; simp; omega) fun q hq => ⟨_, rfl, by simp, fun _ => by simp⟩
  have d1 := tupLc c1
  have e : D.tup ((p.2.zipIdx.filter fun q => decide (t ∈ q.1)).map fun q => dI q.2) = dL (lotsOf p t) := by
    unfold dL lotsOf
    rw [List.map_map]; rfl
  rw [e] at d1
  simp [f_lots_of, b_lots_of, d1]
theorem shown_ok {p : Pl} {c : List Nat} (h : OkP p) (hc : Asc p.1 c) (st : Sto) : f_shown [dP p, dL c] st = .ok (dL (view p c)) st := by
  simp [f_shown, b_shown, need_plan_ok h, need_case_ok h hc, view_of_ok h]

/-! ### all cases -/
def genC (k : Nat) : Nat → List (List Nat)
  | 0 => [[]]
  | i + 1 => genC k i ++ ((genC k i).filter fun c => decide (c.length < k)).map (· ++ [i])
def leL (a b : List Nat) : Bool := leD (dL a) (dL b)
def cases (m k : Nat) : List (List Nat) := (genC k m).mergeSort leL
theorem genC_len {k : Nat} : ∀ i, (genC k i).length ≤ 2 ^ i
  | 0 => Nat.le_refl _
  | i + 1 => by
    have ih := genC_len (k := k) i
    have := List.length_filter_le (fun c : List Nat => decide (c.length < k)) (genC k i)
    simp only [genC, List.length_append, List.length_map]
    rw [Nat.pow_succ]
    omega
theorem genC_mem {k : Nat} : ∀ {i : Nat} {c : List Nat}, c ∈ genC k i ↔ Asc i c ∧ c.length ≤ k
  | 0, c => by
    simp only [genC, List.mem_singleton]
    constructor
    · rintro rfl
      exact ⟨⟨.nil, fun _ h => nomatch h⟩, Nat.zero_le _⟩
    · rintro ⟨h, _⟩
      exact List.eq_nil_iff_forall_not_mem.mpr fun x hx => absurd (h.2 x hx) (Nat.not_lt_zero _)
  | i + 1, c => by
    simp only [genC, List.mem_append, List.mem_map, List.mem_filter, decide_eq_true_eq]
    constructor
    · rintro (h | ⟨d, ⟨h, hl⟩, rfl⟩)
      · obtain ⟨⟨h1, h2⟩, h3⟩ := genC_mem.mp h
        exact ⟨⟨h1, fun x hx => Nat.lt_succ_of_lt (h2 x hx)⟩, h3⟩
      · obtain ⟨⟨h1, h2⟩, h3⟩ := genC_mem.mp h
        refine ⟨⟨?_, fun x hx => ?_⟩, ?_⟩
        · rw [List.pairwise_append]
          exact ⟨h1, List.pairwise_singleton _ _, fun a ha b hb => by rw [List.mem_singleton.mp hb]; exact h2 a ha⟩
        · rcases List.mem_append.mp hx with hx | hx
          · exact Nat.lt_succ_of_lt (h2 x hx)
          · rw [List.mem_singleton.mp hx]; exact Nat.lt_succ_self _
        · rw [List.length_append, List.length_singleton]; omega
    · rintro ⟨⟨h1, h2⟩, h3⟩
      by_cases hi : i ∈ c
      · right
        obtain ⟨a, b, rfl⟩ := List.append_of_mem hi
        rw [List.pairwise_append] at h1
        obtain ⟨p1, p2, p3⟩ := h1
        have hb : b = [] := List.eq_nil_iff_forall_not_mem.mpr fun x hx => by
          have q1 := (List.pairwise_cons.mp p2).1 x hx
          have q2 := h2 x (List.mem_append_right _ (List.mem_cons_of_mem _ hx))
          omega
        subst hb
        rw [List.length_append, List.length_singleton] at h3
        exact ⟨a, ⟨genC_mem.mpr ⟨⟨p1, fun x hx => p3 x hx i (List.mem_singleton.mpr rfl)⟩, by omega⟩, by omega⟩, rfl⟩
      · left
        exact genC_mem.mpr ⟨⟨h1, fun x hx => by
          have q := h2 x hx
          have : x ≠ i := fun e => hi (e ▸ hx)
          omega⟩, h3⟩
theorem genC_nodup {k : Nat} : ∀ i, (genC k i).Nodup
  | 0 => by simp [genC]
  | i + 1 => by
    have ih := genC_nodup (k := k) i
    simp only [genC]
    rw [List.nodup_append]
    refine ⟨ih, ?_, ?_⟩
    · exact List.Pairwise.map _ (fun a b hab e => hab (List.append_cancel_right e)) (ih.filter _)
    · intro a ha b hb e
      subst e
      obtain ⟨d, _, rfl⟩ := List.mem_map.mp hb
      have := (genC_mem.mp ha).1.2 i (List.mem_append_right _ (List.mem_singleton.mpr rfl))
      omega
theorem srt_dL {xs : List (List Nat)} : srtOk (xs.map dL) = true := by
  unfold srtOk
  simp only [Bool.and_eq_true, List.all_eq_true]
  refine ⟨⟨⟨okSs_map fun _ _ => okS_dL, ?_⟩, ?_⟩, ?_⟩
  · intro x hx y hy
    obtain ⟨a, _, rfl⟩ := List.mem_map.mp hx
    obtain ⟨b, _, rfl⟩ := List.mem_map.mp hy
    show PySem.W.alike (.tuple (pys (a.map dI))) (.tuple (pys (b.map dI))) = true
    have e : ∀ l : List Nat, pys (l.map dI) = (l.map fun (n : Nat) => (n : Int)).map PyData.int := fun l => by
      rw [pys_map, List.map_map, List.map_map]; rfl
    rw [e, e]
    rw [PySem.W.alike]
    exact PySem.W.alike_ints _ _
  · intro x hx
    obtain ⟨a, _, rfl⟩ := List.mem_map.mp hx
    rfl
  · intro x hx
    obtain ⟨a, _, rfl⟩ := List.mem_map.mp hx
    rw [decide_eq_true_eq]
    exact Nat.le_trans depth_dL (by decide)
@[simp] theorem bSorted_dL {st : Sto} {xs : List (List Nat)} : bSorted st [.lst (xs.map dL)] = some (.lst ((xs.mergeSort leL).map dL)) := by
  have e : bSorted st [.lst (xs.map dL)] = if srtOk (xs.map dL) = true then some (.lst ((xs.map dL).mergeSort leD)) else none := rfl
  rw [e, srt_dL, if_pos rfl, ← List.map_mergeSort (r := leL) (s := leD) (f := dL) fun _ _ _ _ => rfl]
theorem cases_of_ok {m : Nat} (hm : m ≤ 10) (k : Nat) (st : Sto) : f_cases_of [dI m, dI k] st = .ok (.lst ((cases m k).map dL)) st := by
  have hp : ∀ i, i ≤ 10 → (genC k i).length ≤ 1024 := fun i hi => Nat.le_trans (genC_len i) (by
    have := Nat.pow_le_pow_right (n := 2) (by decide) hi
    exact Nat.le_trans this (by decide))
  obtain ⟨ρ', st', e1, rfl, o1, o2, rfl⟩ := forGo_ix (g := gN 3) (b := sCons (sSet 2 (evOp oAdd (evVar 2) (evLc [4] (itVal (evVar 2)) (gN 4) (ebOf (evOp oLt (evB bLen (eaCons (evVar 4) eaNil)) (evVar 1))) (evOp oAdd (evVar 4) (evTup (eaCons (evVar 3) eaNil)))))) sNil) dI
    (fun i ρ st' => st' = st ∧ ∃ o1 o2, ρ = [some (dI m), some (dI k), some (.lst ((genC k i).map dL)), o1, o2]) (List.range m) 0 [some (dI m), some (dI k), some (.lst ((genC k 0).map dL)), none, none] st ⟨rfl, none, none, rfl⟩ (fun i x ρ st' hx ⟨e1, o1, o2, e2⟩ => by
      subst e1 e2
      obtain ⟨hi, rfl⟩ := List.getElem?_eq_some_iff.mp hx
      rw [List.getElem_range]
      rw [List.length_range] at hi
      have hl := hp i (by omega)
      have c1 : evLc [4] (itVal (evVar 2)) (gN 4) (ebOf (evOp oLt (evB bLen (eaCons (evVar 4) eaNil)) (evVar 1))) (evOp oAdd (evVar 4) (evTup (eaCons (evVar 3) eaNil))) [some (dI m), some (dI k), some (.lst ((genC k i).map dL)), some (dI i), o2] st' = .ok (.lst (((genC k i).filter fun c => decide (c.length < k)).map fun c => dL (c ++ [i]))) st' := by
        refine evLc_enc dL _ _ _ (by simp) (by omega) fun c hc => ⟨_, rfl, by simp, fun _ => ?_⟩
        have := ((genC_mem.mp hc).1).len
        have e : oAdd st' (dL c) (.tup [dI i]) = some (dL (c ++ [i])) := by
          unfold dL
          simp only [oAdd, List.length_map, List.length_singleton]
          rw [if_pos (by omega), List.map_append]
          rfl
        simp [e]
      have e : oAdd st' (.lst ((genC k i).map dL)) (.lst (((genC k i).filter fun c => decide (c.length < k)).map fun c => dL (c ++ [i]))) = some (.lst ((genC k (i + 1)).map dL)) := by
        have := List.length_filter_le (fun c : List Nat => decide (c.length < k)) (genC k i)
        simp only [oAdd, itemsR, List.length_map]
        rw [if_pos (by omega), genC, List.map_append, List.map_map]
        rfl
      refine ⟨_, [some (dI m), some (dI k), some (.lst ((genC k (i + 1)).map dL)), some (dI i), o2], st', rfl, ?_, rfl, some (dI i), o2, ?_⟩
      · simp [c1, e]
      · simp)
  rw [Nat.zero_add, List.length_range] at e1
  have e0 : genC k 0 = [[]] := rfl
  rw [e0] at e1
  have r : kIR1 [dI m] st' = _ := kIR1_nat (by omega)
  have z : (List.map dL [[]]) = [D.tup []] := rfl
  rw [z] at e1
  simp [f_cases_of, b_cases_of, r, e1, cases]
end Lw
set_option Elab.async false
set_option linter.all false
set_option maxRecDepth 100000
set_option maxHeartbeats 4000000
namespace Lw
open PySem Ip Lots

theorem cases_mem {m k : Nat} {c : List Nat} : c ∈ cases m k ↔ Asc m c ∧ c.length ≤ k := by
  unfold cases
  rw [List.mem_mergeSort, genC_mem]
theorem cases_nodup (m k : Nat) : (cases m k).Nodup := (List.mergeSort_perm _ _).nodup_iff.mpr (genC_nodup m)
theorem cases_len {m k : Nat} (hm : m ≤ 10) : (cases m k).length ≤ 1024 := by
  unfold cases
  rw [List.length_mergeSort]
  exact Nat.le_trans (genC_len m) (Nat.le_trans (Nat.pow_le_pow_right (by decide) hm) (by decide))

/-! ### whether the plainest reading is right -/
def others (p : Pl) (t k : Nat) : List (List Nat) := (List.range (k + 1)).flatMap fun n => ((cases p.1 k).filter fun c => !decide (t ∈ c)).filter fun c => decide (c.length = n)
theorem others_mem {p : Pl} {t k : Nat} {c : List Nat} : c ∈ others p t k ↔ Asc p.1 c ∧ c.length ≤ k ∧ t ∉ c := by
  unfold others
  simp only [List.mem_flatMap, List.mem_range, List.mem_filter, decide_eq_true_eq, cases_mem, Bool.not_eq_true', decide_eq_false_iff_not]
  constructor
  · rintro ⟨n, hn, ⟨⟨h1, h2⟩, h3⟩, h4⟩
    exact ⟨h1, h2, h3⟩
  · rintro ⟨h1, h2, h3⟩
    exact ⟨c.length, by omega, ⟨⟨h1, h2⟩, h3⟩, rfl⟩
theorem filt_len (l : List (List Nat)) : ∀ k, ((List.range k).flatMap fun n => l.filter fun c => decide (c.length = n)).length ≤ l.length
  | 0 => Nat.zero_le _
  | k + 1 => by
    have go : ∀ k, ((List.range k).flatMap fun n => l.filter fun c => decide (c.length = n)).length = (l.filter fun c => decide (c.length < k)).length := fun k => by
      induction k with
      | zero =>
        have z : l.filter (fun c : List Nat => decide (c.length < 0)) = [] := by
          rw [List.filter_eq_nil_iff]
          intro a _
          simp
        rw [z]; rfl
      | succ k ih =>
        rw [List.range_succ, List.flatMap_append, List.length_append, ih]
        clear ih
        simp only [List.flatMap_cons, List.flatMap_nil, List.append_nil]
        induction l with
        | nil => rfl
        | cons x l ih =>
          simp only [List.filter_cons]
          by_cases h1 : x.length < k
          · have h2 : ¬ x.length = k := by omega
            have h3 : x.length < k + 1 := by omega
            simp only [h1, h2, h3, decide_true, decide_false, if_true, Bool.false_eq_true, if_false, List.length_cons]
            omega
          · by_cases h2 : x.length = k
            · have h3 : x.length < k + 1 := by omega
              simp only [h1, h2, h3, decide_true, decide_false, if_true, Bool.false_eq_true, if_false, List.length_cons]
              simp only [Nat.lt_irrefl, decide_false, Bool.false_eq_true, if_false, Nat.lt_succ_self, decide_true, if_true, List.length_cons]
              omega
            · have h3 : ¬ x.length < k + 1 := by omega
              simp only [h1, h2, h3, decide_false, Bool.false_eq_true, if_false]
              exact ih
    rw [go]
    exact List.length_filter_le _ _
theorem others_len {p : Pl} {t k : Nat} (hp : OkP p) : (others p t k).length ≤ 1024 :=
  Nat.le_trans (filt_len _ _) (Nat.le_trans (List.length_filter_le _ _) (cases_len hp.ten))
theorem others_of_ok {p : Pl} {t k : Nat} (hp : OkP p) (hk : k ≤ 1000) (st : Sto) : f_others_of [dP p, dI t, dI k] st = .ok (.lst ((others p t k).map dL)) st := by
  have c1 : evLc [4] (itVal (evCall 2 f_cases_of (eaCons (evOp oIx (evVar 0) (evC (.int 0))) (eaCons (evVar 2) eaNil)))) (gN 4) (ebOf (evOp oNotIn (evVar 1) (evVar 4))) (evVar 4) [some (dP p), some (dI t), some (dI k), none, none, none] st
      = .ok (.lst (((cases p.1 k).filter fun c => !decide (t ∈ c)).map dL)) st :=
    evLc_id dL _ _ (by simp [cases_of_ok hp.ten]) (by have := cases_len (k := k) hp.ten; omega) fun c hc => ⟨_, rfl, by simp, by simp⟩
  have c2 : evLc2 [4, 5] [4] (itR1 (eaCons (evOp oAdd (evVar 2) (evC (.int 1))) eaNil)) (gN 5) ebYes (itVal (evVar 3)) (gN 4) (ebOf (evOp oEq (evB bLen (eaCons (evVar 4) eaNil)) (evVar 5))) (evVar 4) [some (dP p), some (dI t), some (dI k), some (.lst (((cases p.1 k).filter fun c => !decide (t ∈ c)).map dL)), none, none] st
      = .ok (.lst ((List.range (k + 1)).flatMap fun (n : Nat) => (((cases p.1 k).filter fun c => !decide (t ∈ c)).filter fun c => decide (c.length = n)).map dL)) st := by
    refine evLc2_enc dI dL (fun (_ : Nat) => (cases p.1 k).filter fun c => !decide (t ∈ c)) (fun (n : Nat) (c : List Nat) => decide (c.length = n)) (fun (_ : Nat) (c : List Nat) => dL c) (List.range (k + 1)) ?_ ?_ ?_
    · simp [kIR1_nat1 (j := k) (by omega)]
    · have e : ∀ n : Nat, ((((cases p.1 k).filter fun c => !decide (t ∈ c)).filter fun c => decide (c.length = n)).map dL).length = (((cases p.1 k).filter fun c => !decide (t ∈ c)).filter fun c => decide (c.length = n)).length := fun n => List.length_map ..
      rw [List.length_flatMap]
      simp only [e]
      rw [← List.length_flatMap]
      have := others_len (t := t) (k := k) hp
      unfold others at this
      omega
    · intro n hn
      refine ⟨_, rfl, rfl, by simp, fun c hc => ⟨_, rfl, ?_, fun _ => by simp⟩⟩
      simp
      omega
  have e : ((List.range (k + 1)).flatMap fun n => (((cases p.1 k).filter fun c => !decide (t ∈ c)).filter fun c => decide (c.length = n)).map dL) = (others p t k).map dL := by
    unfold others
    rw [List.map_flatMap]
  rw [e] at c2
  simp [f_others_of, b_others_of, c1, c2]
def left (p : Pl) (t : Nat) (o : List Nat) : Nat := ((lotsOf p t).filter fun n => !decide (n ∈ view p o)).length
theorem lotsOf_len {p : Pl} {t : Nat} : (lotsOf p t).length ≤ p.2.length := by
  unfold lotsOf
  rw [List.length_map]
  exact Nat.le_trans (List.length_filter_le _ _) (by simp)
theorem view_len {p : Pl} {c : List Nat} : (view p c).length ≤ p.2.length := by
  unfold view
  rw [List.length_map]
  exact Nat.le_trans (List.length_filter_le _ _) (by simp)
theorem left_of_ok {p : Pl} {t : Nat} {o : List Nat} (hp : OkP p) (st : Sto) : f_left_of [dP p, dI t, dL o] st = .ok (dI (left p t o)) st := by
  have c1 : evLc [4] (itVal (evCall 2 f_lots_of (eaCons (evVar 0) (eaCons (evVar 1) eaNil)))) (gN 4) (ebOf (evOp oNotIn (evVar 4) (evVar 3))) (evVar 4) [some (dP p), some (dI t), some (dL o), some (dL (view p o)), none] st
      = .ok (.lst (((lotsOf p t).filter fun n => !decide (n ∈ view p o)).map dI)) st :=
    evLc_id dI _ _ (by simp [lots_of_ok hp]) (by have := lotsOf_len (p := p) (t := t); have := hp.lots; omega) fun c hc => ⟨_, rfl, by simp, by simp⟩
  have d1 := lenLc c1
  rw [List.length_map] at d1
  simp [f_left_of, b_left_of, view_of_ok hp, d1]
  rfl
/-- the first pair of a thing and as few others as can be -/
def hid1 (p : Pl) (t : Nat) (b : Option (Nat × List Nat)) (o : List Nat) : Option (Nat × List Nat) := if left p t o = 0 then (match b with
  | none => some (t, o)
  | some q => if o.length < q.2.length then some (t, o) else b) else b
def hid (p : Pl) (k : Nat) : Option (Nat × List Nat) := (List.range p.1).foldl (fun b t => (others p t k).foldl (hid1 p t) b) none
def encB : Option (Nat × List Nat) → D
  | none => .non
  | some q => .tup [dI q.1, dL q.2]
@[simp] theorem oIs_dN {st : Sto} : oIs st .non .non = some (.bl true) := Eq.trans rfl rfl
@[simp] theorem oIs_tup {st : Sto} {xs : List D} : oIs st (.tup xs) .non = some (.bl false) := Eq.trans rfl rfl
theorem hidden_in_ok {p : Pl} {k : Nat} (hp : OkP p) (hk : k ≤ 1000) (st : Sto) : f_hidden_in [dP p, dI k] st = .ok (encB (hid p k)) st := by
  have inner : ∀ (t : Nat) (b : Option (Nat × List Nat)) (o4 : Option D), ∃ o4', forGo (gN 4) (sCons (sIf (ebAnd (ebOf (evOp oEq (evCall 3 f_left_of (eaCons (evVar 0) (eaCons (evVar 3) (eaCons (evVar 4) eaNil)))) (evC (.int 0)))) (ebOr (ebOf (evOp oIs (evVar 2) (evC .non))) (ebOf (evOp oLt (evB bLen (eaCons (evVar 4) eaNil)) (evB bLen (eaCons (evOp oIx (evVar 2) (evC (.int 1))) eaNil)))))) (sCons (sSet 2 (evTup (eaCons (evVar 3) (eaCons (evVar 4) eaNil)))) sNil) sNil) sNil)
      ((others p t k).map dL) [some (dP p), some (dI k), some (encB b), some (dI t), o4] st = .nx [some (dP p), some (dI k), some (encB ((others p t k).foldl (hid1 p t) b)), some (dI t), o4'] st := fun t b o4 => by
    obtain ⟨ρ', e1, o4', rfl⟩ := forGo_fold (st := st) (g := gN 4) (b := sCons (sIf (ebAnd (ebOf (evOp oEq (evCall 3 f_left_of (eaCons (evVar 0) (eaCons (evVar 3) (eaCons (evVar 4) eaNil)))) (evC (.int 0)))) (ebOr (ebOf (evOp oIs (evVar 2) (evC .non))) (ebOf (evOp oLt (evB bLen (eaCons (evVar 4) eaNil)) (evB bLen (eaCons (evOp oIx (evVar 2) (evC (.int 1))) eaNil)))))) (sCons (sSet 2 (evTup (eaCons (evVar 3) (eaCons (evVar 4) eaNil)))) sNil) sNil) sNil) dL
      (fun b ρ => ∃ o4, ρ = [some (dP p), some (dI k), some (encB b), some (dI t), o4]) (hid1 p t) (others p t k) b [some (dP p), some (dI k), some (encB b), some (dI t), o4] ⟨o4, rfl⟩ (fun o b ρ _ hρ => by
        obtain ⟨o4, rfl⟩ := hρ
        by_cases h0 : left p t o = 0
        · cases b with
          | none =>
            refine ⟨_, _, rfl, (by simp [left_of_ok hp, h0, encB]; try exact rfl), some (dL o), ?_⟩
            simp [hid1, h0, encB]
          | some q =>
            by_cases hq : o.length < q.2.length
            · refine ⟨_, _, rfl, (by simp [left_of_ok hp, h0, encB, oIx, hq]; try exact rfl), some (dL o), ?_⟩
              simp [hid1, h0, encB, hq]
            · refine ⟨_, _, rfl, (by simp [left_of_ok hp, h0, encB, oIx, hq]; try exact rfl), some (dL o), ?_⟩
              simp [hid1, h0, encB, hq]
        · refine ⟨_, _, rfl, (by simp [left_of_ok hp, h0]; try exact rfl), some (dL o), ?_⟩
          simp [hid1, h0])
    exact ⟨o4', e1⟩
  obtain ⟨ρ', e1, o3, o4, rfl⟩ := forGo_fold (st := st) (g := gN 3) (b := sCons (sFor (itVal (evCall 3 f_others_of (eaCons (evVar 0) (eaCons (evVar 3) (eaCons (evVar 1) eaNil))))) (gN 4) (sCons (sIf (ebAnd (ebOf (evOp oEq (evCall 3 f_left_of (eaCons (evVar 0) (eaCons (evVar 3) (eaCons (evVar 4) eaNil)))) (evC (.int 0)))) (ebOr (ebOf (evOp oIs (evVar 2) (evC .non))) (ebOf (evOp oLt (evB bLen (eaCons (evVar 4) eaNil)) (evB bLen (eaCons (evOp oIx (evVar 2) (evC (.int 1))) eaNil)))))) (sCons (sSet 2 (evTup (eaCons (evVar 3) (eaCons (evVar 4) eaNil)))) sNil) sNil) sNil)) sNil) dI
    (fun b ρ => ∃ o3 o4, ρ = [some (dP p), some (dI k), some (encB b), o3, o4]) (fun b t => (others p t k).foldl (hid1 p t) b) (List.range p.1) none [some (dP p), some (dI k), some (encB none), none, none] ⟨none, none, rfl⟩ (fun t b ρ _ hρ => by
      obtain ⟨o3, o4, rfl⟩ := hρ
      obtain ⟨o4', e2⟩ := inner t b o4
      exact ⟨_, _, rfl, (by simp [others_of_ok hp hk, e2]; try exact rfl), some (dI t), o4', rfl⟩)
  have r : kIR1 [dI p.1] st = _ := kIR1_nat (by have := hp.ten; omega)
  have z : encB none = .non := rfl
  rw [z] at e1
  have z2 : (List.range p.1).foldl (fun b t => (others p t k).foldl (hid1 p t) b) none = hid p k := rfl
  rw [z2] at e1
  simp [f_hidden_in, b_hidden_in, r, e1]
end Lw
set_option Elab.async false
set_option linter.all false
set_option maxRecDepth 100000
set_option maxHeartbeats 4000000
namespace Lw
open PySem Ip Lots

def isN {α : Type} : Option α → Bool
  | none => true
  | some _ => false
@[simp] theorem oIs_encB {st : Sto} {b : Option (Nat × List Nat)} : oIs st (encB b) .non = some (.bl (isN b)) := by cases b <;> rfl
theorem is_read_ok {p : Pl} {k : Nat} (hp : OkP p) (hk : k ≤ 1000) (st : Sto) : f_is_read [dP p, dI k] st = .ok (.bl (isN (hid p k))) st := by
  simp [f_is_read, b_is_read, hidden_in_ok hp hk]
theorem reads_ok {p : Pl} {k : Nat} (hp : OkP p) (hk : k ≤ 10) (st : Sto) : f_reads [dP p, dI k] st = .ok (.bl (isN (hid p k))) st := by
  simp [f_reads, b_reads, need_both_ok hp hk, is_read_ok (k := k) hp (by omega)]
theorem hidden_ok {p : Pl} {k : Nat} (hp : OkP p) (hk : k ≤ 10) (st : Sto) : f_hidden [dP p, dI k] st = .ok (encB (hid p k)) st := by
  simp [f_hidden, b_hidden, need_both_ok hp hk, hidden_in_ok (k := k) hp (by omega)]
/-- the last of a list of numbers, or None -/
def encM : Option Nat → D
  | none => .non
  | some n => dI n
def readL (p : Pl) : List Nat := (List.range (p.1 + 1)).filter fun k => isN (hid p k)
@[simp] theorem deref_lst {st : Sto} {xs : List D} : deref st (.lst xs) = .lst xs := Eq.trans rfl rfl
theorem depth_intsL {l : List Nat} : (py (.lst (l.map dI))).depth ≤ 1 := by
  show (PyData.list (pys (l.map dI))).depth ≤ 1
  rw [depth_lst, pys_fun (f := dI) (g := fun (n : Nat) => PyData.int n) (fun _ => rfl)]
  have : PyData.depthAll (l.map fun (n : Nat) => PyData.int n) ≤ 0 := depthAll_le fun x hx => by
    obtain ⟨n, _, rfl⟩ := List.mem_map.mp hx
    simp [PyData.depth]
  omega
@[simp] theorem okD_intsL {l : List Nat} : okD (.lst (l.map dI)) = true := by
  unfold okD
  have : okS (.lst (l.map dI)) = true := okSs_ints
  rw [this, Bool.true_and, decide_eq_true_eq]
  exact Nat.le_trans depth_intsL (by decide)
theorem okD_nil : okD (.lst []) = true := rfl
theorem oNe_nil {st : Sto} {l : List Nat} : oNe st (.lst (l.map dI)) (.lst []) = some (.bl (!decide (l = []))) := by
  have e : eqD (.lst (l.map dI)) (.lst []) = decide (l = []) := by
    show PyData.eqv (.list (pys (l.map dI))) (.list (pys ([].map dI))) = _
    rw [PyData.eqv, eqvAll_ints]
  simp [oNe, e, okD_nil]
theorem atI_last {α : Type} {xs : List α} : L2.atI xs (-1) = xs.getLast? := by
  unfold L2.atI L2.ixN
  rw [if_neg (by omega), List.getLast?_eq_getElem?]
  cases xs with
  | nil => rfl
  | cons x xs =>
    rw [if_pos (by simp only [List.length_cons]; omega)]
    show (x :: xs)[((-1 : Int) + ((x :: xs).length : Nat)).toNat]? = _
    congr 1
    simp only [List.length_cons]
    omega
theorem most_read_ok {p : Pl} (hp : OkP p) (st : Sto) : f_most_read [dP p] st = .ok (encM (readL p).getLast?) st := by
  have h10 := hp.ten
  have c1 : evLc [2] (itR1 (eaCons (evOp oAdd (evOp oIx (evVar 0) (evC (.int 0))) (evC (.int 1))) eaNil)) (gN 2) (ebOf (evCall 2 f_is_read (eaCons (evVar 0) (eaCons (evVar 2) eaNil)))) (evVar 2) [some (dP p), none, none] st = .ok (.lst ((readL p).map dI)) st :=
    evLc_id dI _ _ (by simp [kIR1_nat1 (j := p.1) (by omega)]) (by simp; omega) fun k hk => ⟨_, rfl, by
      have := List.mem_range.mp hk
      simp [is_read_ok (k := k) hp (by omega)], by simp⟩
  cases hl : (readL p).getLast? with
  | none =>
    have e : readL p = [] := List.getLast?_eq_none_iff.mp hl
    have z : oNe st (.lst []) (.lst []) = some (.bl false) := oNe_nil (l := [])
    simp [f_most_read, b_most_read, need_plan_ok hp, c1, z, e, encM]
  | some n =>
    have e : readL p ≠ [] := fun z => by rw [z] at hl; cases hl
    simp [f_most_read, b_most_read, need_plan_ok hp, c1, oNe_nil, e, encM, oIx, atI_last, hl]

/-! ### margin -/
def marL (p : Pl) (k : Nat) : List Nat := (List.range p.1).flatMap fun t => (others p t k).map (left p t)
theorem intsOf_nat {l : List Nat} : intsOf (l.map dI) = some (l.map fun (n : Nat) => (n : Int)) := by
  have := intsOf_map (l.map fun (n : Nat) => (n : Int))
  rw [List.map_map] at this
  exact this
def minN : List Nat → Option Nat
  | [] => none
  | x :: r => some (r.foldl min x)
def maxN : List Nat → Option Nat
  | [] => none
  | x :: r => some (r.foldl max x)
theorem foldl_minN : ∀ (r : List Nat) (x : Nat), (r.map fun (n : Nat) => (n : Int)).foldl min (x : Int) = ((r.foldl min x : Nat) : Int)
  | [], _ => rfl
  | y :: r, x => by
    rw [List.map_cons, List.foldl_cons, List.foldl_cons, ← foldl_minN r (min x y)]
    congr 1
    omega
theorem foldl_maxN : ∀ (r : List Nat) (x : Nat), (r.map fun (n : Nat) => (n : Int)).foldl max (x : Int) = ((r.foldl max x : Nat) : Int)
  | [], _ => rfl
  | y :: r, x => by
    rw [List.map_cons, List.foldl_cons, List.foldl_cons, ← foldl_maxN r (max x y)]
    congr 1
    omega
theorem bMin_nat {st : Sto} {l : List Nat} {n : Nat} (h : minN l = some n) : bMin st [.lst (l.map dI)] = some (dI n) := by
  have e : bMin st [.lst (l.map dI)] = ((intsOf (l.map dI)).bind minI).map .int := rfl
  rw [e, intsOf_nat, Option.bind_some]
  cases l with
  | nil => cases h
  | cons x r =>
    cases h
    rw [List.map_cons, minI, foldl_minN]
    rfl
theorem bMax_nat {st : Sto} {l : List Nat} {n : Nat} (h : maxN l = some n) : bMax st [.lst (l.map dI)] = some (dI n) := by
  have e : bMax st [.lst (l.map dI)] = ((intsOf (l.map dI)).bind maxI).map .int := rfl
  rw [e, intsOf_nat, Option.bind_some]
  cases l with
  | nil => cases h
  | cons x r =>
    cases h
    rw [List.map_cons, maxI, foldl_maxN]
    rfl
theorem marL_len {p : Pl} {k : Nat} (hp : OkP p) : ∀ n, ((List.range n).flatMap fun t => (others p t k).map (left p t)).length ≤ n * 1024
  | 0 => by simp
  | n + 1 => by
    rw [List.range_succ, List.flatMap_append, List.length_append]
    have h1 := marL_len (k := k) hp n
    have h2 := others_len (t := n) (k := k) hp
    simp only [List.flatMap_cons, List.flatMap_nil, List.append_nil, List.length_map]
    omega
theorem margin_ok {p : Pl} {k n : Nat} (hp : OkP p) (hk : k ≤ 10) (hn : minN (marL p k) = some n) (st : Sto) : f_margin [dP p, dI k] st = .ok (dI n) st := by
  have h10 := hp.ten
  obtain ⟨ρ', st', e1, rfl, o3, o4, rfl⟩ := forGo_ix (g := gN 3) (b := sCons (sSet 2 (evOp oAdd (evVar 2) (evLc [4] (itVal (evCall 3 f_others_of (eaCons (evVar 0) (eaCons (evVar 3) (eaCons (evVar 1) eaNil))))) (gN 4) ebYes (evCall 3 f_left_of (eaCons (evVar 0) (eaCons (evVar 3) (eaCons (evVar 4) eaNil))))))) sNil) dI
    (fun i ρ st' => st' = st ∧ ∃ o3 o4, ρ = [some (dP p), some (dI k), some (.lst (((List.range i).flatMap fun t => (others p t k).map (left p t)).map dI)), o3, o4]) (List.range p.1) 0 [some (dP p), some (dI k), some (.lst []), none, none] st ⟨rfl, none, none, rfl⟩ (fun i x ρ st' hx ⟨e1, o3, o4, e2⟩ => by
      subst e1 e2
      obtain ⟨hi, rfl⟩ := List.getElem?_eq_some_iff.mp hx
      rw [List.getElem_range]
      rw [List.length_range] at hi
      rw [Nat.zero_add]
      have c1 : evLc [4] (itVal (evCall 3 f_others_of (eaCons (evVar 0) (eaCons (evVar 3) (eaCons (evVar 1) eaNil))))) (gN 4) ebYes (evCall 3 f_left_of (eaCons (evVar 0) (eaCons (evVar 3) (eaCons (evVar 4) eaNil)))) [some (dP p), some (dI k), some (.lst (((List.range i).flatMap fun t => (others p t k).map (left p t)).map dI)), some (dI i), o4] st' = .ok (.lst ((others p i k).map fun o => dI (left p i o))) st' :=
        evLc_map dL _ _ (by simp [others_of_ok (k := k) hp (by omega)]) (by have := others_len (t := i) (k := k) hp; omega) fun o _ => ⟨_, rfl, by simp [left_of_ok hp]⟩
      have e : oAdd st' (.lst (((List.range i).flatMap fun t => (others p t k).map (left p t)).map dI)) (.lst ((others p i k).map fun o => dI (left p i o))) = some (.lst (((List.range (i + 1)).flatMap fun t => (others p t k).map (left p t)).map dI)) := by
        have h1 := marL_len (k := k) hp i
        have h2 := others_len (t := i) (k := k) hp
        simp only [oAdd, itemsR, List.length_map]
        rw [if_pos (by omega), List.range_succ, List.flatMap_append, List.map_append]
        simp only [List.flatMap_cons, List.flatMap_nil, List.append_nil, List.map_map]
        rfl
      refine ⟨_, [some (dP p), some (dI k), some (.lst (((List.range (i + 1)).flatMap fun t => (others p t k).map (left p t)).map dI)), some (dI i), o4], st', rfl, ?_, rfl, some (dI i), o4, rfl⟩
      simp [c1, e])
  rw [Nat.zero_add, List.length_range] at e1
  have r : kIR1 [dI p.1] st' = _ := kIR1_nat (by omega)
  have z : ((List.range p.1).flatMap fun t => (others p t k).map (left p t)) = marL p k := rfl
  rw [z] at e1
  simp [f_margin, b_margin, need_both_ok hp hk, r, e1, bMin_nat hn]

/-! ### telling -/
abbrev Row := List Nat × List Nat
def encR (q : Row) : D := .tup [dL q.1, dL q.2]
def rows (p : Pl) (k : Nat) : List Row := (cases p.1 k).map fun c => (c, view p c)
theorem views_of_ok {p : Pl} {k : Nat} (hp : OkP p) (st : Sto) : f_views_of [dP p, dI k] st = .ok (.lst ((rows p k).map encR)) st := by
  have c1 : evLc [2] (itVal (evCall 2 f_cases_of (eaCons (evOp oIx (evVar 0) (evC (.int 0))) (eaCons (evVar 1) eaNil)))) (gN 2) ebYes (evTup (eaCons (evVar 2) (eaCons (evCall 2 f_view_of (eaCons (evVar 0) (eaCons (evVar 2) eaNil))) eaNil))) [some (dP p), some (dI k), none] st = .ok (.lst ((cases p.1 k).map fun c => .tup [dL c, dL (view p c)])) st :=
    evLc_map dL _ _ (by simp [cases_of_ok hp.ten]) (by have := cases_len (k := k) hp.ten; omega) fun c _ => ⟨_, rfl, by simp [view_of_ok hp]⟩
  have e : ((cases p.1 k).map fun c => D.tup [dL c, dL (view p c)]) = (rows p k).map encR := by
    unfold rows
    rw [List.map_map]; rfl
  rw [e] at c1
  simp [f_views_of, b_views_of, c1]
def alk1 (rs : List Row) (q : Row × Nat) : Option Row := (rs.drop (q.2 + 1)).findSome? fun r => if q.1.2 = r.2 then some (q.1.1, r.1) else none
def alk (rs : List Row) : Option Row := rs.zipIdx.findSome? (alk1 rs)
def encRo : Option Row → D
  | none => .non
  | some q => encR q
theorem rows_len {p : Pl} {k : Nat} (hp : OkP p) : (rows p k).length ≤ 1024 := by
  unfold rows
  rw [List.length_map]
  exact cases_len hp.ten
def encRi (q : Row × Nat) : D := .tup [dI q.2, encR q.1]
theorem pairN_rows {rs : List Row} : pairN (rs.map encR) = rs.zipIdx.map encRi := by
  unfold pairN
  rw [List.zipIdx_map, List.map_map]
  rfl
theorem oSl_from {st : Sto} {xs : List D} {i : Nat} : oSl st (.lst xs) (some ((i : Int) + 1)) none = some (.lst (xs.drop (i + 1))) := by
  show some (D.lst (cutD xs (some ((i : Int) + 1)) none)) = _
  unfold cutD
  have e1 : HT.sIx xs.length 0 (some ((i : Int) + 1)) = min (i + 1) xs.length := HT.sIx_nat _ 0 (i + 1)
  rw [e1, HT.sIx_none]
  congr 2
  by_cases h : i + 1 ≤ xs.length
  · rw [Nat.min_eq_left h, List.take_of_length_le]
    simp
  · rw [Nat.min_eq_right (by omega), List.drop_of_length_le (Nat.le_refl _), List.drop_of_length_le (by omega), List.take_nil]
theorem findSome_map {α β γ : Type} (g : α → Option β) (e : β → γ) : ∀ xs : List α, (xs.findSome? fun x => (g x).map e) = (xs.findSome? g).map e
  | [] => rfl
  | x :: xs => by
    rw [List.findSome?_cons, List.findSome?_cons, findSome_map g e xs]
    cases g x <;> rfl
theorem first_alike_ok {p : Pl} {k : Nat} (hp : OkP p) (st : Sto) : f_first_alike [dP p, dI k] st = .ok (encRo (alk (rows p k))) st := by
  generalize hrs : rows p k = rs
  have out := forGo_ret (st := st) (g := gT 2 (gsCons (gN 3) (gsCons (gT 2 (gsCons (gN 4) (gsCons (gN 5) gsNil))) gsNil))) (b := sCons (sFor (itVal (evSl (evVar 2) (eoSome (evOp oAdd (evVar 3) (evC (.int 1)))) eoNone)) (gT 2 (gsCons (gN 6) (gsCons (gN 7) gsNil))) (sCons (sIf (ebOf (evOp oEq (evVar 5) (evVar 7))) (sCons (sRet (evTup (eaCons (evVar 4) (eaCons (evVar 6) eaNil)))) sNil) sNil) sNil)) sNil) encRi
    (fun ρ => ∃ o3 o4 o5 o6 o7, ρ = [some (dP p), some (dI k), some (.lst (rs.map encR)), o3, o4, o5, o6, o7]) (fun q => (alk1 rs q).map encR) rs.zipIdx [some (dP p), some (dI k), some (.lst (rs.map encR)), none, none, none, none, none] ⟨none, none, none, none, none, rfl⟩ (fun q ρ _ hρ => by
      obtain ⟨o3, o4, o5, o6, o7, rfl⟩ := hρ
      refine ⟨_, rfl, ?_⟩
      have inn := forGo_ret (st := st) (g := gT 2 (gsCons (gN 6) (gsCons (gN 7) gsNil))) (b := sCons (sIf (ebOf (evOp oEq (evVar 5) (evVar 7))) (sCons (sRet (evTup (eaCons (evVar 4) (eaCons (evVar 6) eaNil)))) sNil) sNil) sNil) encR
        (fun ρ => ∃ o6 o7, ρ = [some (dP p), some (dI k), some (.lst (rs.map encR)), some (dI q.2), some (dL q.1.1), some (dL q.1.2), o6, o7]) (fun r => (if q.1.2 = r.2 then some (q.1.1, r.1) else none : Option Row).map encR) (rs.drop (q.2 + 1)) [some (dP p), some (dI k), some (.lst (rs.map encR)), some (dI q.2), some (dL q.1.1), some (dL q.1.2), o6, o7] ⟨o6, o7, rfl⟩ (fun r ρ _ hρ => by
          obtain ⟨o6, o7, rfl⟩ := hρ
          refine ⟨_, rfl, ?_⟩
          by_cases h : q.1.2 = r.2
          · left
            refine ⟨_, by rw [if_pos h]; rfl, ?_⟩
            simp [h, encR]
          · right
            refine ⟨by rw [if_neg h]; rfl, _, ?_, some (dL r.1), some (dL r.2), rfl⟩
            simp [h])
      rw [findSome_map (fun r : Row => if q.1.2 = r.2 then some (q.1.1, r.1) else none)] at inn
      have e : (rs.drop (q.2 + 1)).map encR = (rs.map encR).drop (q.2 + 1) := List.map_drop ..
      rw [e] at inn
      rcases inn with ⟨d, h1, h2⟩ | ⟨h1, ρ', h2, o6', o7', rfl⟩
      · left
        exact ⟨d, h1, by simp [oSl_from, h2]⟩
      · right
        exact ⟨h1, _, (by simp [oSl_from, h2]; try exact rfl), some (dI q.2), some (dL q.1.1), some (dL q.1.2), o6', o7', rfl⟩)
  rw [findSome_map] at out
  have z : rs.zipIdx.findSome? (alk1 rs) = alk rs := rfl
  rw [z] at out
  have v : f_views_of [dP p, dI k] st = .ok (.lst (rs.map encR)) st := by rw [views_of_ok hp, hrs]
  rcases out with ⟨d, h1, h2⟩ | ⟨h1, ρ', h2, _⟩
  · obtain ⟨r, h3, rfl⟩ := Option.map_eq_some_iff.mp h1
    simp [f_first_alike, b_first_alike, v, pairN_rows, h2, h3, encRo]
  · have h3 : alk rs = none := Option.map_eq_none_iff.mp h1
    simp [f_first_alike, b_first_alike, v, pairN_rows, h2, h3, encRo]
/-- how many lots are in one of two views alone -/
def apartN (v w : List Nat) : Nat := (v.filter fun n => !decide (n ∈ w)).length + (w.filter fun n => !decide (n ∈ v)).length
theorem apart_ok {v w : List Nat} (hv : v.length ≤ 1000) (hw : w.length ≤ 1000) (st : Sto) : f_apart [dL v, dL w] st = .ok (dI (apartN v w)) st := by
  have c1 : evLc [2] (itVal (evVar 0)) (gN 2) (ebOf (evOp oNotIn (evVar 2) (evVar 1))) (evVar 2) [some (dL v), some (dL w), none] st = .ok (.lst ((v.filter fun n => !decide (n ∈ w)).map dI)) st :=
    evLc_id dI _ _ (by simp) (by omega) fun n _ => ⟨_, rfl, by simp, by simp⟩
  have c2 : evLc [2] (itVal (evVar 1)) (gN 2) (ebOf (evOp oNotIn (evVar 2) (evVar 0))) (evVar 2) [some (dL v), some (dL w), none] st = .ok (.lst ((w.filter fun n => !decide (n ∈ v)).map dI)) st :=
    evLc_id dI _ _ (by simp) (by omega) fun n _ => ⟨_, rfl, by simp, by simp⟩
  have d1 := lenLc c1
  have d2 := lenLc c2
  rw [List.length_map] at d1 d2
  simp [f_apart, b_apart, d1, d2, apartN]
/-- the least number of lots that are in one of two views alone, n at most -/
def gapN (rs : List Row) (n : Nat) : Nat := rs.zipIdx.foldl (fun f q => (rs.drop (q.2 + 1)).foldl (fun f r => min f (apartN q.1.2 r.2)) f) n
theorem bMin2 {st : Sto} {a b : Nat} : bMin st [dI a, dI b] = some (dI (min a b)) := by
  show some (D.int (if (b : Int) < (a : Int) then (b : Int) else (a : Int))) = _
  congr 2
  split <;> omega
theorem rows_view {p : Pl} {k : Nat} {r : Row} (h : r ∈ rows p k) : r.2 = view p r.1 ∧ r.1 ∈ cases p.1 k := by
  unfold rows at h
  obtain ⟨c, hc, rfl⟩ := List.mem_map.mp h
  exact ⟨rfl, hc⟩
theorem gap_of_ok {p : Pl} {k : Nat} (hp : OkP p) (st : Sto) : f_gap_of [dP p, dI k] st = .ok (dI (gapN (rows p k) p.2.length)) st := by
  have hv : ∀ r ∈ rows p k, r.2.length ≤ 1000 := fun r hr => by
    rw [(rows_view hr).1]
    have := view_len (p := p) (c := r.1)
    have := hp.lots
    omega
  generalize hrs : rows p k = rs at hv
  obtain ⟨ρ', e1, o4, o5, o6, o7, o8, rfl⟩ := forGo_fold (st := st) (g := gT 2 (gsCons (gN 4) (gsCons (gT 2 (gsCons (gN 5) (gsCons (gN 6) gsNil))) gsNil))) (b := sCons (sFor (itVal (evSl (evVar 2) (eoSome (evOp oAdd (evVar 4) (evC (.int 1)))) eoNone)) (gT 2 (gsCons (gN 7) (gsCons (gN 8) gsNil))) (sCons (sSet 3 (evB bMin (eaCons (evVar 3) (eaCons (evCall 2 f_apart (eaCons (evVar 6) (eaCons (evVar 8) eaNil))) eaNil)))) sNil)) sNil) encRi
    (fun f ρ => ∃ o4 o5 o6 o7 o8, ρ = [some (dP p), some (dI k), some (.lst (rs.map encR)), some (dI f), o4, o5, o6, o7, o8]) (fun f q => (rs.drop (q.2 + 1)).foldl (fun f r => min f (apartN q.1.2 r.2)) f) rs.zipIdx p.2.length [some (dP p), some (dI k), some (.lst (rs.map encR)), some (dI p.2.length), none, none, none, none, none] ⟨none, none, none, none, none, rfl⟩ (fun q f ρ hq hρ => by
      obtain ⟨o4, o5, o6, o7, o8, rfl⟩ := hρ
      have hq1 : q.1 ∈ rs := List.fst_mem_of_mem_zipIdx hq
      obtain ⟨ρ', e2, o7', o8', rfl⟩ := forGo_fold (st := st) (g := gT 2 (gsCons (gN 7) (gsCons (gN 8) gsNil))) (b := sCons (sSet 3 (evB bMin (eaCons (evVar 3) (eaCons (evCall 2 f_apart (eaCons (evVar 6) (eaCons (evVar 8) eaNil))) eaNil)))) sNil) encR
        (fun f ρ => ∃ o7 o8, ρ = [some (dP p), some (dI k), some (.lst (rs.map encR)), some (dI f), some (dI q.2), some (dL q.1.1), some (dL q.1.2), o7, o8]) (fun f r => min f (apartN q.1.2 r.2)) (rs.drop (q.2 + 1)) f [some (dP p), some (dI k), some (.lst (rs.map encR)), some (dI f), some (dI q.2), some (dL q.1.1), some (dL q.1.2), o7, o8] ⟨o7, o8, rfl⟩ (fun r f ρ hr hρ => by
          obtain ⟨o7, o8, rfl⟩ := hρ
          refine ⟨_, _, rfl, ?_, some (dL r.1), some (dL r.2), rfl⟩
          have m : bMin st [D.int f, D.int (apartN q.1.2 r.2)] = _ := bMin2
          simp [apart_ok (hv q.1 hq1) (hv r (List.mem_of_mem_drop hr)), m])
      have e : (rs.drop (q.2 + 1)).map encR = (rs.map encR).drop (q.2 + 1) := List.map_drop ..
      rw [e] at e2
      refine ⟨_, _, rfl, (by simp [oSl_from, e2]; try exact rfl), some (dI q.2), some (dL q.1.1), some (dL q.1.2), o7', o8', rfl⟩)
  have v : f_views_of [dP p, dI k] st = .ok (.lst (rs.map encR)) st := by rw [views_of_ok hp, hrs]
  have z : rs.zipIdx.foldl (fun f q => (rs.drop (q.2 + 1)).foldl (fun f r => min f (apartN q.1.2 r.2)) f) p.2.length = gapN rs p.2.length := rfl
  rw [z] at e1
  simp [f_gap_of, b_gap_of, v, pairN_rows, e1]
@[simp] theorem oIs_encRo {st : Sto} {b : Option Row} : oIs st (encRo b) .non = some (.bl (isN b)) := by cases b <;> rfl
theorem tells_ok {p : Pl} {k : Nat} (hp : OkP p) (hk : k ≤ 10) (st : Sto) : f_tells [dP p, dI k] st = .ok (.bl (isN (alk (rows p k)))) st := by
  simp [f_tells, b_tells, need_both_ok hp hk, first_alike_ok hp]
theorem alike_pair_ok {p : Pl} {k : Nat} (hp : OkP p) (hk : k ≤ 10) (st : Sto) : f_alike_pair [dP p, dI k] st = .ok (encRo (alk (rows p k))) st := by
  simp [f_alike_pair, b_alike_pair, need_both_ok hp hk, first_alike_ok hp]
def tellL (p : Pl) : List Nat := (List.range (p.1 + 1)).filter fun k => isN (alk (rows p k))
theorem most_told_ok {p : Pl} {n : Nat} (hp : OkP p) (hn : maxN (tellL p) = some n) (st : Sto) : f_most_told [dP p] st = .ok (dI n) st := by
  have h10 := hp.ten
  have c1 : evLc [1] (itR1 (eaCons (evOp oAdd (evOp oIx (evVar 0) (evC (.int 0))) (evC (.int 1))) eaNil)) (gN 1) (ebOf (evOp oIs (evCall 2 f_first_alike (eaCons (evVar 0) (eaCons (evVar 1) eaNil))) (evC .non))) (evVar 1) [some (dP p), none] st = .ok (.lst ((tellL p).map dI)) st :=
    evLc_id dI _ _ (by simp [kIR1_nat1 (j := p.1) (by omega)]) (by simp; omega) fun k hk => ⟨_, rfl, by simp [first_alike_ok hp], by simp⟩
  simp [f_most_told, b_most_told, need_plan_ok hp, c1, bMax_nat hn]
theorem gap_ok {p : Pl} {k : Nat} (hp : OkP p) (h1 : 1 ≤ k) (hk : k ≤ 10) (st : Sto) : f_gap [dP p, dI k] st = .ok (dI (gapN (rows p k) p.2.length)) st := by
  simp [f_gap, b_gap, need_plan_ok hp, need_number_ok (v := k) (lo := 1) (hi := 10) (by omega) (by omega), gap_of_ok hp]
def mendN (g : Nat) : Option Nat := if g = 0 then none else some ((g - 1) / 2)
theorem mends_ok {p : Pl} {k : Nat} (hp : OkP p) (h1 : 1 ≤ k) (hk : k ≤ 10) (st : Sto) : f_mends [dP p, dI k] st = .ok (encM (mendN (gapN (rows p k) p.2.length))) st := by
  generalize hg : gapN (rows p k) p.2.length = g
  have e : f_gap_of [dP p, dI k] st = .ok (dI g) st := by rw [gap_of_ok hp, hg]
  by_cases h0 : g = 0
  · simp [f_mends, b_mends, need_plan_ok hp, need_number_ok (v := k) (lo := 1) (hi := 10) (by omega) (by omega), e, h0, mendN, encM]
  · have d : oDiv st (.int ((g : Int) - 1)) (.int 2) = some (dI ((g - 1) / 2)) := by
      have : ((g : Int) - 1) / 2 = (((g - 1) / 2 : Nat) : Int) := by omega
      unfold oDiv
      simp only
      rw [if_pos ⟨by decide, by decide⟩, this]
    simp [f_mends, b_mends, need_plan_ok hp, need_number_ok (v := k) (lo := 1) (hi := 10) (by omega) (by omega), e, h0, mendN, encM, d]
def forL (p : Pl) (v : List Nat) (k : Nat) : List (List Nat) := ((rows p k).filter fun r => decide (r.2 = v)).map (·.1)
theorem cases_for_ok {p : Pl} {v : List Nat} {k : Nat} (hp : OkP p) (hv : Asc p.2.length v) (hk : k ≤ 10) (st : Sto) : f_cases_for [dP p, dL v, dI k] st = .ok (.lst ((forL p v k).map dL)) st := by
  have hl := hp.lots
  have c1 : evLc [3, 4] (itVal (evCall 2 f_views_of (eaCons (evVar 0) (eaCons (evVar 2) eaNil)))) (gT 2 (gsCons (gN 3) (gsCons (gN 4) gsNil))) (ebOf (evOp oEq (evVar 4) (evVar 1))) (evVar 3) [some (dP p), some (dL v), some (dI k), none, none] st = .ok (.lst (((rows p k).filter fun r => decide (r.2 = v)).map fun r => dL r.1)) st :=
    evLc_enc encR _ _ _ (by simp [views_of_ok hp]) (by have := rows_len (k := k) hp; omega) fun r _ => ⟨_, rfl, by simp, fun _ => by simp⟩
  have e : (((rows p k).filter fun r => decide (r.2 = v)).map fun r => dL r.1) = (forL p v k).map dL := by
    unfold forL
    rw [List.map_map]; rfl
  rw [e] at c1
  have nv := need_view_ok (m := p.2.length) (c := v) (by omega) hv st
  simp [f_cases_for, b_cases_for, need_plan_ok hp, need_number_ok (v := k) (lo := 0) (hi := 10) (by omega) (by omega), nv, c1]
/-- the least distance, and the cases with it -/
def nearR (p : Pl) (v : List Nat) (k : Nat) : List (Nat × List Nat) := (rows p k).map fun r => (apartN v r.2, r.1)
def encN (q : Nat × List Nat) : D := .tup [dI q.1, dL q.2]
theorem nearest_ok {p : Pl} {v : List Nat} {k n : Nat} (hp : OkP p) (hv : Asc p.2.length v) (hk : k ≤ 10) (hn : minN ((nearR p v k).map (·.1)) = some n) (st : Sto) :
    f_nearest [dP p, dL v, dI k] st = .ok (.tup [dI n, .lst ((((nearR p v k).filter fun q => decide (q.1 = n)).map (·.2)).map dL)]) st := by
  have hl := hp.lots
  have hvl := hv.len
  have hrl := rows_len (k := k) hp
  have hw : ∀ r ∈ rows p k, r.2.length ≤ 1000 := fun r hr => by
    rw [(rows_view hr).1]
    have := view_len (p := p) (c := r.1)
    omega
  have c1 : evLc [5, 6] (itVal (evCall 2 f_views_of (eaCons (evVar 0) (eaCons (evVar 2) eaNil)))) (gT 2 (gsCons (gN 5) (gsCons (gN 6) gsNil))) ebYes (evTup (eaCons (evCall 2 f_apart (eaCons (evVar 1) (eaCons (evVar 6) eaNil))) (eaCons (evVar 5) eaNil))) [some (dP p), some (dL v), some (dI k), none, none, none, none, none] st = .ok (.lst ((rows p k).map fun r => encN (apartN v r.2, r.1))) st :=
    evLc_map encR _ _ (by simp [views_of_ok hp]) (by omega) fun r hr => ⟨_, rfl, by simp [apart_ok (v := v) (by omega) (hw r hr), encN]⟩
  have e : ((rows p k).map fun r => encN (apartN v r.2, r.1)) = (nearR p v k).map encN := by
    unfold nearR
    rw [List.map_map]; rfl
  rw [e] at c1
  have hnl : (nearR p v k).length ≤ 1000000 := by
    unfold nearR
    rw [List.length_map]; omega
  have c2 : evLc [5, 7] (itVal (evVar 3)) (gT 2 (gsCons (gN 7) (gsCons (gN 5) gsNil))) ebYes (evVar 7) [some (dP p), some (dL v), some (dI k), some (.lst ((nearR p v k).map encN)), none, none, none, none] st = .ok (.lst (((nearR p v k).map (·.1)).map dI)) st := by
    have := evLc_map (st := st) (vs := [5, 7]) (it := itVal (evVar 3)) (g := gT 2 (gsCons (gN 7) (gsCons (gN 5) gsNil))) (e := evVar 7) (ρ := [some (dP p), some (dL v), some (dI k), some (.lst ((nearR p v k).map encN)), none, none, none, none]) encN (fun q => dI q.1) (nearR p v k) (by simp) hnl fun q _ => ⟨_, rfl, by simp⟩
    rw [this, List.map_map]; rfl
  have c3 : evLc [5, 7] (itVal (evVar 3)) (gT 2 (gsCons (gN 7) (gsCons (gN 5) gsNil))) (ebOf (evOp oEq (evVar 7) (evVar 4))) (evVar 5) [some (dP p), some (dL v), some (dI k), some (.lst ((nearR p v k).map encN)), some (dI n), none, none, none] st = .ok (.lst ((((nearR p v k).filter fun q => decide (q.1 = n)).map (·.2)).map dL)) st := by
    have := evLc_enc (st := st) (vs := [5, 7]) (it := itVal (evVar 3)) (g := gT 2 (gsCons (gN 7) (gsCons (gN 5) gsNil))) (t := ebOf (evOp oEq (evVar 7) (evVar 4))) (e := evVar 5) (ρ := [some (dP p), some (dL v), some (dI k), some (.lst ((nearR p v k).map encN)), some (dI n), none, none, none]) encN (fun q => decide (q.1 = n)) (fun q => dL q.2) (nearR p v k) (by simp) hnl fun q _ => ⟨_, rfl, by simp; omega, fun _ => by simp⟩
    rw [this, List.map_map]; rfl
  have nv := need_view_ok (m := p.2.length) (c := v) (by omega) hv st
  have d2 : evB bMin (eaCons (evLc [5, 7] (itVal (evVar 3)) (gT 2 (gsCons (gN 7) (gsCons (gN 5) gsNil))) ebYes (evVar 7)) eaNil) [some (dP p), some (dL v), some (dI k), some (.lst ((nearR p v k).map encN)), none, none, none, none] st = .ok (dI n) st := by
    rw [evB_ap, eaCons_ap, c2, R.bind_ok, kC2_0, eaNil_ap, R.bind_ok, kC3_0, R.bind_ok, kBf_0, bMin_nat hn, R.lift_some]
  generalize (((nearR p v k).filter fun q => decide (q.1 = n)).map (·.2)).map dL = L at c3 ⊢
  simp [f_nearest, b_nearest, need_plan_ok hp, need_number_ok (v := k) (lo := 0) (hi := 10) (by omega) (by omega), nv, c1, d2, c3]
/-- the suspects of a view -/
def susp (p : Pl) (v : List Nat) : List Nat := (List.range p.1).filter fun t => (lotsOf p t).all fun n => decide (n ∈ v)
theorem suspects_ok {p : Pl} {v : List Nat} (hp : OkP p) (hv : Asc p.2.length v) (st : Sto) : f_suspects [dP p, dL v] st = .ok (dL (susp p v)) st := by
  have hl := hp.lots
  have h10 := hp.ten
  have c2 : ∀ t, evLc [3] (itVal (evCall 2 f_lots_of (eaCons (evVar 0) (eaCons (evVar 2) eaNil)))) (gN 3) ebYes (evOp oIn (evVar 3) (evVar 1)) [some (dP p), some (dL v), some (dI t), none] st = .ok (.lst ((lotsOf p t).map fun n => .bl (decide (n ∈ v)))) st := fun t =>
    evLc_map dI _ _ (by simp [lots_of_ok hp]) (by have := lotsOf_len (p := p) (t := t); omega) fun n _ => ⟨_, rfl, by simp⟩
  have c1 : evLc [2] (itR1 (eaCons (evOp oIx (evVar 0) (evC (.int 0))) eaNil)) (gN 2) (ebOf (evB bAll (eaCons (evLc [3] (itVal (evCall 2 f_lots_of (eaCons (evVar 0) (eaCons (evVar 2) eaNil)))) (gN 3) ebYes (evOp oIn (evVar 3) (evVar 1))) eaNil))) (evVar 2) [some (dP p), some (dL v), none, none] st = .ok (.lst ((susp p v).map dI)) st :=
    evLc_id dI _ _ (by simp [kIR1_nat (j := p.1) (by omega)]) (by simp; omega) fun t _ => ⟨_, rfl, by simp [allLc (c2 t) rfl], by simp⟩
  have d1 := tupLc c1
  have nv := need_view_ok (m := p.2.length) (c := v) (by omega) hv st
  have e : D.tup ((susp p v).map dI) = dL (susp p v) := rfl
  rw [e] at d1
  simp [f_suspects, b_suspects, need_plan_ok hp, nv, d1]
end Lw
set_option Elab.async false
set_option linter.all false
set_option maxRecDepth 100000
set_option maxHeartbeats 4000000
namespace Lw
open PySem Ip Lots

/-! ### draws -/
theorem oMul_ok {st : Sto} {i j : Int} (hi : i.natAbs < 2 ^ 200) (hj : j.natAbs < 2 ^ 200) : oMul st (.int i) (.int j) = some (.int (i * j)) := by
  have e : 2 ^ 200 ≤ 2 ^ 4000 := Nat.pow_le_pow_right (by decide) (by decide)
  show (if i.natAbs < 2 ^ 4000 ∧ j.natAbs < 2 ^ 4000 then some (D.int (i * j)) else none) = _
  rw [if_pos ⟨Nat.lt_of_lt_of_le hi e, Nat.lt_of_lt_of_le hj e⟩]
theorem oDiv_ok {st : Sto} {i j : Int} (h0 : 0 < j) (hj : j.natAbs < 2 ^ 200) : oDiv st (.int i) (.int j) = some (.int (i / j)) := by
  have e : 2 ^ 200 ≤ 2 ^ 4000 := Nat.pow_le_pow_right (by decide) (by decide)
  show (if 0 < j ∧ j.natAbs < 2 ^ 4000 then some (D.int (i / j)) else none) = _
  rw [if_pos ⟨h0, Nat.lt_of_lt_of_le hj e⟩]
@[simp] theorem bLen_scr {st : Sto} {xs : List D} : bLen st [.scr xs] = some (.int xs.length) := Eq.trans rfl rfl
@[simp] theorem items_scr {st : Sto} {xs : List D} : items st (.scr xs) = some xs := Eq.trans rfl rfl
theorem law_cell_ok {s : List Int} {k : Nat} (hk : k ≤ 1000) (hs : s.length ≤ 1000) (st : Sto) : ∃ v : Int, f_law_cell [.scr (s.map D.int), dI k] st = .ok (.int v) st := by
  have m : oMul st (.int 7919) (.int (k : Int)) = some (.int (7919 * (k : Int))) := oMul_ok (by decide) (Nat.lt_of_lt_of_le (by omega : (k : Int).natAbs < 1001) (by decide))
  by_cases h : k < s.length
  · have e : oIx st (.scr (s.map D.int)) (.int (k : Int)) = some (.int s[k]) := by
      simp [oIx, h]
    exact ⟨s[k], by simp [f_law_cell, b_law_cell, h, e]⟩
  · by_cases h0 : s = []
    · subst h0
      have hlt : decide ((k : Int) < 0) = false := decide_eq_false (by omega)
      exact ⟨7919 * (k : Int) + 101, by simp [f_law_cell, b_law_cell, m, hlt]⟩
    · have hl : 0 < s.length := List.length_pos_iff.mpr h0
      have hm : k % s.length < s.length := Nat.mod_lt _ hl
      have e1 : oMod st (.int (k : Int)) (.int (s.length : Int)) = some (.int ((k % s.length : Nat) : Int)) := by
        rw [oMod_pos (by omega)]
        rfl
      have e : oIx st (.scr (s.map D.int)) (.int ((k % s.length : Nat) : Int)) = some (.int s[k % s.length]) := by
        have a : L2.atI (s.map D.int) ((k % s.length : Nat) : Int) = (s.map D.int)[k % s.length]? := atI_nat
        show (some (s.map D.int)).bind (fun xs => L2.atI xs _) = _
        rw [Option.bind_some, a, List.getElem?_map, List.getElem?_eq_getElem hm]
        rfl
      have h0' : ¬ ((s.length : Int) = 0) := by omega
      have e2 : oMod st (.int s[k % s.length]) (.int 1000003) = some (.int (s[k % s.length] % 1000003)) := oMod_pos (by decide)
      refine ⟨s[k % s.length] % 1000003 + 7919 * (k : Int), ?_⟩
      have hlt : decide ((k : Int) < (s.length : Int)) = false := by simp; omega
      have hne : decide ((s.length : Int) = 0) = false := by simp [h0]
      simp only [f_law_cell, b_law_cell, fnRun_ap, slots0_ap, sCons_ap, sIf_ap, ebOf_ap, evOp_ap, evB_ap, eaCons_ap, evVar_ap, List.map_cons, List.map_nil, List.length_cons, List.length_nil, List.cons_append, List.nil_append, Nat.sub_self, List.replicate, List.append_nil, List.getElem?_cons_zero, List.getElem?_cons_succ, Ip.R.bind_ok, kC2_0, eaNil_ap, kC3_0, kBf_0, bLen_scr, List.length_map, Ip.R.lift_some, kOp2_0, kOp3_0, oLt_int, kB_0, hlt, Ip.R.stm_ok, kSIf_1, sNil_ap, RS.seq_nx, evC_ap, oEq_int, hne, sRet_ap, e1, e, e2, m, oAdd_int, kRet_0, RS.seq_rt, fnEnd_rt]
/-- the law's primes -/
def prs : List D := [.int 2147483647, .int 2147483629, .int 2147483587, .int 2147483579, .int 2147483563, .int 2147483549, .int 2147483543, .int 2147483497]
theorem prime_at (st : Sto) (i : Int) : ∃ q : Int, oIx st (.tup prs) (.int (i % 8)) = some (.int q) ∧ 0 < q ∧ q < 2147483648 := by
  have h : i % 8 = 0 ∨ i % 8 = 1 ∨ i % 8 = 2 ∨ i % 8 = 3 ∨ i % 8 = 4 ∨ i % 8 = 5 ∨ i % 8 = 6 ∨ i % 8 = 7 := by omega
  rcases h with h | h | h | h | h | h | h | h <;> rw [h] <;> exact ⟨_, rfl, by decide, by decide⟩
theorem natAbs_lt {i : Int} {n : Nat} (h0 : 0 ≤ i) (h : i < n) : i.natAbs < n := by omega
theorem le200 {n : Nat} {i : Int} (h : i.natAbs < n) (hn : n ≤ 2 ^ 200) : i.natAbs < 2 ^ 200 := Nat.lt_of_lt_of_le h hn

/-- a list of ints as a mutable list -/
abbrev dZ (ns : List Int) : List D := ns.map D.int
theorem law_draws_ok {s : List Int} {k many base : Nat} (hk : k ≤ 1000) (hs : s.length ≤ 1000) (hm : many ≤ 1000) (hb : 0 < base) (hb2 : base ≤ 10 ^ 9) (st : Sto) :
    ∃ ns : List Int, ns.length = many ∧ f_law_draws [.scr (s.map D.int), dI k, dI many, dI base] st = .ok (.ref st.length) (st ++ [dZ ns]) := by
  obtain ⟨v, hv⟩ := law_cell_ok hk hs st
  have p18 : ∀ st : Sto, oPow st (.int 10) (.int 18) = some (.int (10 ^ 18)) := fun st => rfl
  have r0 : ∃ r : Int, 0 ≤ r ∧ (sIf (ebOf (evOp oGe (evVar 5) (evOp oPow (evC (.int 10)) (evC (.int 18))))) (sCons (sSet 6 (evVar 5)) sNil) sNil [some (.scr (s.map D.int)), some (dI k), some (dI many), some (dI base), some (.tup prs), some (.int v), some (.int 0), none, none, none] st) = .nx [some (.scr (s.map D.int)), some (dI k), some (dI many), some (dI base), some (.tup prs), some (.int v), some (.int r), none, none, none] st := by
    by_cases h : (10 : Int) ^ 18 ≤ v
    · have hd : decide ((10 : Int) ^ 18 ≤ v) = true := decide_eq_true h
      refine ⟨v, by omega, ?_⟩
      simp only [sIf_ap, ebOf_ap, evOp_ap, evVar_ap, evC_ap, Ip.R.bind_ok, kOp2_0, kOp3_0, p18, Ip.R.lift_some, oGe_int, hd, kB_0, Ip.R.stm_ok, kSIf_0, sCons_ap, sSet_ap, kSet_0, RS.seq_nx, sNil_ap, List.getElem?_cons_zero, List.getElem?_cons_succ, List.set_cons_zero, List.set_cons_succ]
    · have hd : decide ((10 : Int) ^ 18 ≤ v) = false := decide_eq_false h
      refine ⟨0, by omega, ?_⟩
      simp only [sIf_ap, ebOf_ap, evOp_ap, evVar_ap, evC_ap, Ip.R.bind_ok, kOp2_0, kOp3_0, p18, Ip.R.lift_some, oGe_int, hd, kB_0, Ip.R.stm_ok, kSIf_1, sNil_ap, List.getElem?_cons_zero, List.getElem?_cons_succ]
  obtain ⟨r, hr, er⟩ := r0
  have loop := forGo_ix (g := gN 8) (b := sCons (sSet 9 (evOp oMul (evOp oMod (evVar 5) (evOp oIx (evVar 4) (evOp oMod (evVar 8) (evC (.int 8))))) (evOp oAdd (evC (.int 48271)) (evOp oMul (evOp oMul (evC (.int 2)) (evVar 8)) (evVar 8))))) (sCons (sSet 9 (evOp oAdd (evOp oAdd (evVar 9) (evOp oMul (evOp oMul (evC (.int 7919)) (evOp oAdd (evVar 8) (evC (.int 1)))) (evOp oAdd (evVar 8) (evC (.int 1))))) (evOp oMul (evC (.int 104729)) (evVar 1)))) (sCons (sSet 9 (evOp oMod (evVar 9) (evOp oIx (evVar 4) (evOp oMod (evOp oAdd (evOp oMul (evC (.int 3)) (evVar 8)) (evVar 1)) (evC (.int 8)))))) (sCons (sSet 9 (evOp oMod (evOp oMul (evOp oMul (evVar 9) (evVar 9)) (evVar 9)) (evOp oIx (evVar 4) (evOp oMod (evOp oAdd (evVar 8) (evC (.int 5))) (evC (.int 8)))))) (sCons (sIf (ebOf (evOp oGt (evVar 6) (evC (.int 0)))) (sCons (sSet 9 (evVar 6)) sNil) sNil) (sCons (sExp (evMR mApp (evVar 7) (eaCons (evOp oMod (evVar 9) (evVar 3)) eaNil))) (sCons (sSet 6 (evOp oDiv (evVar 6) (evVar 3))) sNil))))))) dI
    (fun i ρ st' => ∃ (ns : List Int) (r : Int) (o8 o9 : Option D), ns.length = i ∧ 0 ≤ r ∧ st' = st ++ [dZ ns] ∧ ρ = [some (.scr (s.map D.int)), some (dI k), some (dI many), some (dI base), some (.tup prs), some (.int v), some (.int r), some (.ref st.length), o8, o9])
    (List.range many) 0 [some (.scr (s.map D.int)), some (dI k), some (dI many), some (dI base), some (.tup prs), some (.int v), some (.int r), some (.ref st.length), none, none] (st ++ [[]]) ⟨[], r, none, none, rfl, hr, rfl, rfl⟩ (fun i x ρ st' hx hI => by
      obtain ⟨ns, r, o8, o9, hn, hr, rfl, rfl⟩ := hI
      obtain ⟨hi, rfl⟩ := List.getElem?_eq_some_iff.mp hx
      rw [List.getElem_range]
      rw [List.length_range] at hi
      rw [Nat.zero_add] at hn ⊢
      generalize hst : st ++ [dZ ns] = st1
      obtain ⟨q1, e1, p1, l1⟩ := prime_at st1 (i : Int)
      obtain ⟨q2, e2, p2, l2⟩ := prime_at st1 (3 * (i : Int) + (k : Int))
      obtain ⟨q3, e3, p3, l3⟩ := prime_at st1 ((i : Int) + 5)
      have m1 : oMod st1 (.int (i : Int)) (.int 8) = some (.int ((i : Int) % 8)) := oMod_pos (by decide)
      have m2 : oMod st1 (.int v) (.int q1) = some (.int (v % q1)) := oMod_pos p1
      have v1 := Int.emod_nonneg v (by omega : q1 ≠ 0)
      have v2 := Int.emod_lt_of_pos v p1
      have B : 10 ^ 20 ≤ 2 ^ 200 := by decide
      have m3 : oMul st1 (.int 2) (.int (i : Int)) = some (.int (2 * (i : Int))) := oMul_ok (by decide) (le200 (n := 10 ^ 20) (by omega) B)
      have m4 : oMul st1 (.int (2 * (i : Int))) (.int (i : Int)) = some (.int (2 * (i : Int) * (i : Int))) := oMul_ok (le200 (n := 10 ^ 20) (by omega) B) (le200 (n := 10 ^ 20) (by omega) B)
      have b4 : 2 * (i : Int) * (i : Int) ≤ 2000 * 1000 := Int.mul_le_mul (by omega) (by omega) (by omega) (by omega)
      have b4' : 0 ≤ 2 * (i : Int) * (i : Int) := Int.mul_nonneg (by omega) (by omega)
      generalize hw : 2 * (i : Int) * (i : Int) = w4 at m4 b4 b4'
      have m5 : oMul st1 (.int (v % q1)) (.int (48271 + w4)) = some (.int (v % q1 * (48271 + w4))) := oMul_ok (le200 (n := 10 ^ 20) (by omega) B) (le200 (n := 10 ^ 20) (by omega) B)
      generalize v % q1 * (48271 + w4) = a1 at m5
      have m6 : oMul st1 (.int 7919) (.int ((i : Int) + 1)) = some (.int (7919 * ((i : Int) + 1))) := oMul_ok (by decide) (le200 (n := 10 ^ 20) (by omega) B)
      have m7 : oMul st1 (.int (7919 * ((i : Int) + 1))) (.int ((i : Int) + 1)) = some (.int (7919 * ((i : Int) + 1) * ((i : Int) + 1))) := oMul_ok (le200 (n := 10 ^ 20) (by omega) B) (le200 (n := 10 ^ 20) (by omega) B)
      generalize 7919 * ((i : Int) + 1) * ((i : Int) + 1) = w7 at m7
      have m8 : oMul st1 (.int 104729) (.int (k : Int)) = some (.int (104729 * (k : Int))) := oMul_ok (by decide) (le200 (n := 10 ^ 20) (by omega) B)
      have m9 : oMul st1 (.int 3) (.int (i : Int)) = some (.int (3 * (i : Int))) := oMul_ok (by decide) (le200 (n := 10 ^ 20) (by omega) B)
      have m10 : oMod st1 (.int (3 * (i : Int) + (k : Int))) (.int 8) = some (.int ((3 * (i : Int) + (k : Int)) % 8)) := oMod_pos (by decide)
      generalize ha2 : a1 + w7 + 104729 * (k : Int) = a2
      have m11 : oMod st1 (.int a2) (.int q2) = some (.int (a2 % q2)) := oMod_pos p2
      have c1 := Int.emod_nonneg a2 (by omega : q2 ≠ 0)
      have c2 := Int.emod_lt_of_pos a2 p2
      generalize a2 % q2 = a3 at m11 c1 c2
      have c3 : a3 * a3 ≤ 2147483648 * 2147483648 := Int.mul_le_mul (by omega) (by omega) (by omega) (by omega)
      have c4 : 0 ≤ a3 * a3 := Int.mul_nonneg c1 c1
      have m12 : oMul st1 (.int a3) (.int a3) = some (.int (a3 * a3)) := oMul_ok (le200 (n := 10 ^ 20) (by omega) B) (le200 (n := 10 ^ 20) (by omega) B)
      generalize a3 * a3 = a4 at m12 c3 c4
      have m13 : oMul st1 (.int a4) (.int a3) = some (.int (a4 * a3)) := oMul_ok (le200 (n := 10 ^ 20) (by omega) B) (le200 (n := 10 ^ 20) (by omega) B)
      generalize a4 * a3 = a5 at m13
      have m14 : oMod st1 (.int ((i : Int) + 5)) (.int 8) = some (.int (((i : Int) + 5) % 8)) := oMod_pos (by decide)
      have m15 : oMod st1 (.int a5) (.int q3) = some (.int (a5 % q3)) := oMod_pos p3
      generalize a5 % q3 = a6 at m15
      -- the number that is appended
      have fin : ∀ z : Int, oMod st1 (.int z) (.int (base : Int)) = some (.int (z % (base : Int))) := fun z => oMod_pos (by omega)
      have dv : oDiv (st ++ [dZ (ns ++ [(if 0 < r then r else a6) % (base : Int)])]) (.int r) (.int (base : Int)) = some (.int (r / (base : Int))) := oDiv_ok (by omega) (le200 (n := 10 ^ 20) (by omega) B)
      have ap : ∀ z : Int, mApp st1 st.length [.int z] = .ok .non (st ++ [dZ (ns ++ [z])]) := fun z => by
        subst hst
        unfold mApp
        have e : (st ++ [dZ ns])[st.length]? = some (dZ ns) := by simp
        rw [e]
        dsimp only
        rw [if_pos (by simp; omega)]
        simp
      refine ⟨_, [some (.scr (s.map D.int)), some (dI k), some (dI many), some (dI base), some (.tup prs), some (.int v), some (.int (r / (base : Int))), some (.ref st.length), some (dI i), some (.int (if 0 < r then r else a6))], st ++ [dZ (ns ++ [(if 0 < r then r else a6) % (base : Int)])], rfl, ?_, ns ++ [(if 0 < r then r else a6) % (base : Int)], r / (base : Int), some (dI i), some (.int (if 0 < r then r else a6)), by simp [hn], Int.ediv_nonneg hr (by omega), rfl, rfl⟩
      by_cases h0 : 0 < r
      · have hd : decide ((0 : Int) < r) = true := decide_eq_true h0
        rw [if_pos h0] at dv ⊢
        simp only [sCons_ap, sSet_ap, sIf_ap, sExp_ap, ebOf_ap, evOp_ap, evMR_ap, kMR_0, kMR2_0, eaCons_ap, eaNil_ap, kC2_0, kC3_0, evVar_ap, evC_ap, gN_ap, Ip.R.bind_ok, kOp2_0, kOp3_0, Ip.R.lift_some, oGt_int, oAdd_int, kB_0, Ip.R.stm_ok, kSIf_0, kSIf_1, kSet_0, kExp_0, RS.seq_nx, sNil_ap, List.getElem?_cons_zero, List.getElem?_cons_succ, List.set_cons_zero, List.set_cons_succ,
          m1, e1, m2, m3, m4, m5, m6, m7, m8, ha2, m9, m10, e2, m11, m12, m13, m14, e3, m15, hd, fin, ap, dv]
      · have hd : decide ((0 : Int) < r) = false := decide_eq_false h0
        rw [if_neg h0] at dv ⊢
        simp only [sCons_ap, sSet_ap, sIf_ap, sExp_ap, ebOf_ap, evOp_ap, evMR_ap, kMR_0, kMR2_0, eaCons_ap, eaNil_ap, kC2_0, kC3_0, evVar_ap, evC_ap, gN_ap, Ip.R.bind_ok, kOp2_0, kOp3_0, Ip.R.lift_some, oGt_int, oAdd_int, kB_0, Ip.R.stm_ok, kSIf_0, kSIf_1, kSet_0, kExp_0, RS.seq_nx, sNil_ap, List.getElem?_cons_zero, List.getElem?_cons_succ, List.set_cons_zero, List.set_cons_succ,
          m1, e1, m2, m3, m4, m5, m6, m7, m8, ha2, m9, m10, e2, m11, m12, m13, m14, e3, m15, hd, fin, ap, dv])
  obtain ⟨ρ', st', e1, ns, r', o8, o9, hn, hr', rfl, rfl⟩ := loop
  rw [Nat.zero_add, List.length_range] at hn
  refine ⟨ns, hn, ?_⟩
  have rg : kIR1 [dI many] (st ++ [[]]) = _ := kIR1_nat (by omega)
  have hv2 : f_law_cell [.scr (s.map D.int), .int (k : Int)] st = .ok (.int v) st := hv
  have s1 : evTup (eaCons (evC (.int 2147483647)) (eaCons (evC (.int 2147483629)) (eaCons (evC (.int 2147483587)) (eaCons (evC (.int 2147483579)) (eaCons (evC (.int 2147483563)) (eaCons (evC (.int 2147483549)) (eaCons (evC (.int 2147483543)) (eaCons (evC (.int 2147483497)) eaNil)))))))) [some (.scr (s.map D.int)), some (dI k), some (dI many), some (dI base), none, none, none, none, none, none] st = .ok (.tup prs) st := rfl
  have s2 : elDisp eaNil [some (.scr (s.map D.int)), some (dI k), some (dI many), some (dI base), some (.tup prs), some (.int v), some (.int r), none, none, none] st = .ok [] st := rfl
  simp [f_law_draws, b_law_draws, s1, hv2, er, s2, rg, e1]

/-! ### drawing from a bag: the b-th list of the store -/
def Bag (b : Nat) (st : Sto) : Prop := ∃ ns : List Int, st[b]? = some (dZ ns)
def Drw (b : Nat) (st st' : Sto) : Prop := ∃ ns : List Int, st' = st.set b (dZ ns)
theorem Bag.refl {b : Nat} {st : Sto} (h : Bag b st) : Drw b st st := by
  obtain ⟨ns, e⟩ := h
  refine ⟨ns, ?_⟩
  obtain ⟨hl, e'⟩ := List.getElem?_eq_some_iff.mp e
  rw [← e', List.set_getElem_self]
theorem Drw.trans {b : Nat} {st st1 st2 : Sto} (h : Drw b st st1) (k : Drw b st1 st2) : Drw b st st2 := by
  obtain ⟨ns, rfl⟩ := h
  obtain ⟨ms, rfl⟩ := k
  exact ⟨ms, List.set_set ..⟩
theorem Drw.len {b : Nat} {st st1 : Sto} (h : Drw b st st1) : st1.length = st.length := by
  obtain ⟨ns, rfl⟩ := h
  exact List.length_set
theorem Drw.bag {b : Nat} {st st1 : Sto} (h : Drw b st st1) (k : Bag b st) : Bag b st1 := by
  obtain ⟨ns, rfl⟩ := h
  obtain ⟨ms, e⟩ := k
  exact ⟨ns, List.getElem?_set_self (List.getElem?_eq_some_iff.mp e).1⟩
theorem Drw.other {b n : Nat} {st st1 : Sto} (h : Drw b st st1) (hn : b ≠ n) : st1[n]? = st[n]? := by
  obtain ⟨ns, rfl⟩ := h
  exact List.getElem?_set_ne hn
theorem fnEnd_rt_of {k : Nat} {d : D} {st : Sto} (h : st.length = k) : fnEnd false k (.rt d st) = .ok d st := by subst h; exact fnEnd_rt
theorem fnEnd_nx_of {k : Nat} {ρ : Sl} {st : Sto} (h : st.length = k) : fnEnd false k (.nx ρ st) = .ok .non st := by subst h; exact fnEnd_nx
theorem okSs_dZ {ns : List Int} : okSs (dZ ns) = true := by
  induction ns with
  | nil => rfl
  | cons n ns ih => exact ih
theorem okD_dZ {ns : List Int} : okD (.lst (dZ ns)) = true := by
  unfold okD
  have h : okS (.lst (dZ ns)) = true := okSs_dZ
  rw [h, Bool.true_and, decide_eq_true_eq]
  show (PyData.list (pys (dZ ns))).depth ≤ 64
  rw [depth_lst, pys_map]
  have : PyData.depthAll ((dZ ns).map py) ≤ 0 := depthAll_le fun x hx => by
    obtain ⟨d, hd, rfl⟩ := List.mem_map.mp hx
    obtain ⟨n, _, rfl⟩ := List.mem_map.mp hd
    simp [py, PyData.depth]
  omega
theorem oNe_bag {st : Sto} {b : Nat} {ns : List Int} (h : st[b]? = some (dZ ns)) : oNe st (.ref b) (.lst []) = some (.bl (!decide (ns = []))) := by
  have e1 : deref st (.ref b) = .lst (dZ ns) := by
    show (match st[b]? with
      | some xs => D.lst xs
      | none => .ref b) = _
    rw [h]
  have e2 : deref st (.lst []) = .lst [] := rfl
  have e3 : eqD (.lst (dZ ns)) (.lst []) = decide (ns = []) := by
    cases ns with
    | nil => rfl
    | cons n ns =>
      show PyData.eqv (.list (pys (dZ (n :: ns)))) (.list (pys [])) = _
      rw [PyData.eqv]
      simp [pys, PyData.eqvAll, dZ]
  unfold oNe
  rw [e1, e2, okD_dZ, e3, if_pos ⟨rfl, rfl⟩]
theorem law_take_ok {b m : Nat} {st : Sto} (h : Bag b st) (hm : 0 < m) : ∃ t st', t < m ∧ Drw b st st' ∧ f_law_take [.ref b, dI m] st = .ok (dI t) st' := by
  obtain ⟨ns, e⟩ := h
  have ne := oNe_bag e
  cases ns with
  | nil =>
    have e0 : oMod st (.int 0) (.int (m : Int)) = some (dI 0) := oMod_pos (by omega)
    have bi : bInt st [.int 0] = some (.int 0) := rfl
    exact ⟨0, st, hm, Bag.refl ⟨[], e⟩, by simp [f_law_take, b_law_take, ne, e0, bi]⟩
  | cons n ns =>
    have hp : mPop st b [.int 0] = .ok (.int n) (st.set b (dZ ns)) := by
      unfold mPop
      rw [e]
      rfl
    have bi : ∀ st : Sto, bInt st [.int n] = some (.int n) := fun _ => rfl
    have e0 : oMod (st.set b (dZ ns)) (.int n) (.int (m : Int)) = some (dI (n % (m : Int)).toNat) := by
      rw [oMod_pos (by omega)]
      have := Int.emod_nonneg n (by omega : (m : Int) ≠ 0)
      show some (D.int _) = some (D.int _)
      congr 2
      omega
    have h1 := Int.emod_nonneg n (by omega : (m : Int) ≠ 0)
    have h2 := Int.emod_lt_of_pos n (by omega : 0 < (m : Int))
    refine ⟨(n % (m : Int)).toNat, _, by omega, ⟨ns, rfl⟩, ?_⟩
    have fe := fnEnd_rt_of (k := st.length) (d := dI (n % (m : Int)).toNat) (st := st.set b (dZ ns)) (List.length_set ..)
    simp [f_law_take, b_law_take, ne, e0, hp, bi]
    exact fe
theorem law_choice_ok {b : Nat} {st : Sto} {xs : List D} (h : Bag b st) (hx : xs ≠ []) : ∃ (t : Nat) (st' : Sto) (d : D), xs[t]? = some d ∧ Drw b st st' ∧ f_law_choice [.ref b, .lst xs] st = .ok d st' := by
  obtain ⟨t, st', ht, hd, e⟩ := law_take_ok (m := xs.length) h (List.length_pos_iff.mpr hx)
  refine ⟨t, st', xs[t], List.getElem?_eq_getElem ht, hd, ?_⟩
  have ix : oIx st' (.lst xs) (.int (t : Int)) = some xs[t] := by
    show (some xs).bind (fun ys => L2.atI ys (t : Int)) = _
    rw [Option.bind_some, atI_nat, List.getElem?_eq_getElem ht]
  have e' : f_law_take [.ref b, .int (xs.length : Int)] st = _ := e
  simp [f_law_choice, b_law_choice, e', ix, fnEnd_rt_of hd.len]
/-! ### comprehensions and loops that draw -/
theorem lcGo_drw {α : Type} {b : Nat} {g : Tg} {t : Eb} {e : Ev} {ρ : Sl} (enc : α → D) : ∀ (xs : List α) (st : Sto), Bag b st →
    (∀ x ∈ xs, ∀ st, Bag b st → ∃ ρ1 c st1, g (enc x) ρ = some ρ1 ∧ t ρ1 st = .ok c st1 ∧ Drw b st st1 ∧ e ρ1 st1 = .ok (enc x) st1) → ∃ (ys : List α) (st' : Sto), ys.Sublist xs ∧ Drw b st st' ∧ lcGo g t e ρ (xs.map enc) st = .ok (ys.map enc) st'
  | [], st, h, _ => ⟨[], st, .slnil, h.refl, rfl⟩
  | x :: xs, st, h, hs => by
    obtain ⟨ρ1, c, st1, h1, h2, h3, h4⟩ := hs x (List.mem_cons_self ..) st h
    obtain ⟨ys, st', k1, k2, k3⟩ := lcGo_drw enc xs st1 (h3.bag h) fun y hy => hs y (List.mem_cons_of_mem _ hy)
    rw [List.map_cons, lcGo, h1]
    simp only [h2, noX_ok, R.bind_ok]
    cases c with
    | true => exact ⟨x :: ys, st', k1.cons₂ x, h3.trans k2, by simp [h4, k3]⟩
    | false => exact ⟨ys, st', k1.cons x, h3.trans k2, by simp [k3]⟩
theorem evLc_drw {α : Type} {b : Nat} {vs : List Nat} {it : Ea} {g : Tg} {t : Eb} {e : Ev} {ρ : Sl} {st : Sto} (enc : α → D) (xs : List α) (hi : it ρ st = .ok (xs.map enc) st) (hl : xs.length ≤ 1000000) (hb : Bag b st)
    (hs : ∀ x ∈ xs, ∀ st, Bag b st → ∃ ρ1 c st1, g (enc x) (wipeS ρ vs) = some ρ1 ∧ t ρ1 st = .ok c st1 ∧ Drw b st st1 ∧ e ρ1 st1 = .ok (enc x) st1) : ∃ (ys : List α) (st' : Sto), ys.Sublist xs ∧ Drw b st st' ∧ evLc vs it g t e ρ st = .ok (.lst (ys.map enc)) st' := by
  obtain ⟨ys, st', h1, h2, h3⟩ := lcGo_drw enc xs st hb hs
  refine ⟨ys, st', h1, h2, ?_⟩
  rw [evLc_ap, hi, R.bind_ok, h3, R.bind_ok, lcEnd_ok]
  rw [List.length_map]
  exact Nat.le_trans h1.length_le hl
theorem whGo_ix {t : Eb} {f : Es} (I : Nat → Sl → Sto → Prop) : ∀ (n k fuel : Nat) (ρ : Sl) (st : Sto), n < fuel → I k ρ st →
    (∀ i ρ st, i < k + n → k ≤ i → I i ρ st → ∃ st1 ρ2 st2, t ρ st = .ok true st1 ∧ f ρ st1 = .nx ρ2 st2 ∧ I (i + 1) ρ2 st2) → (∀ ρ st, I (k + n) ρ st → ∃ st1, t ρ st = .ok false st1 ∧ st1 = st) → ∃ ρ' st', whGo t f fuel ρ st = .nx ρ' st' ∧ I (k + n) ρ' st'
  | 0, k, 0, _, _, h, _, _, _ => absurd h (Nat.lt_irrefl _)
  | _ + 1, k, 0, _, _, h, _, _, _ => absurd h (Nat.not_lt_zero _)
  | 0, k, fuel + 1, ρ, st, _, hI, _, he => by
    obtain ⟨st1, h1, rfl⟩ := he ρ st hI
    exact ⟨ρ, st1, by simp [whGo, h1], hI⟩
  | n + 1, k, fuel + 1, ρ, st, hf, hI, hs, he => by
    obtain ⟨st1, ρ2, st2, h1, h2, h3⟩ := hs k ρ st (by omega) (Nat.le_refl _) hI
    obtain ⟨ρ', st', e1, e2⟩ := whGo_ix I n (k + 1) fuel ρ2 st2 (by omega) h3 (fun i ρ st a b => hs i ρ st (by omega) (by omega)) (by rw [show k + 1 + n = k + (n + 1) by omega]; exact he)
    refine ⟨ρ', st', ?_, by rw [show k + (n + 1) = k + 1 + n by omega]; exact e2⟩
    simp [whGo, h1, h2, e1]
end Lw
set_option Elab.async false
set_option linter.all false
set_option maxRecDepth 100000
set_option maxHeartbeats 4000000
namespace Lw
open PySem Ip Lots

/-! ### order -/
theorem leL_eq (a b : List Nat) : leL a b = decide ((a.map fun (n : Nat) => (n : Int)) ≤ (b.map fun (n : Nat) => (n : Int))) := by
  have h := congrFun (congrFun (PySem.W.dataLe_rows (fun (l : List Nat) => l.map fun (n : Nat) => (n : Int))) a) b
  have e : ∀ l : List Nat, pys (l.map dI) = (l.map fun (n : Nat) => (n : Int)).map PyData.int := fun l => by
    rw [pys_map, List.map_map, List.map_map]; rfl
  have g : leL a b = PySem.W.dataLe false (fun (l : List Nat) => PyData.list ((l.map fun (n : Nat) => (n : Int)).map .int)) a b := by
    show (!PySem.W.dataLt (.tuple (pys (b.map dI))) (.tuple (pys (a.map dI)))) = (!PySem.W.dataLt (.list _) (.list _))
    rw [e, e, PySem.W.dataLt_tuple, PySem.W.dataLt_list]
  rw [g, h]
theorem castL_inj : ∀ {a b : List Nat}, (a.map fun (n : Nat) => (n : Int)) = (b.map fun (n : Nat) => (n : Int)) → a = b
  | [], [], _ => rfl
  | [], _ :: _, h => by simp at h
  | _ :: _, [], h => by simp at h
  | x :: a, y :: b, h => by
    rw [List.map_cons, List.map_cons] at h
    obtain ⟨h1, h2⟩ := List.cons.inj h
    rw [castL_inj h2, show x = y by omega]
theorem leL_antisymm {a b : List Nat} (h1 : leL a b = true) (h2 : leL b a = true) : a = b := by
  rw [leL_eq, decide_eq_true_eq] at h1 h2
  have e := List.le_antisymm h1 h2
  exact castL_inj e
theorem leL_trans (a b c : List Nat) (h1 : leL a b = true) (h2 : leL b c = true) : leL a c = true := by
  rw [leL_eq, decide_eq_true_eq] at *
  exact List.le_trans h1 h2
theorem leL_total (a b : List Nat) : (leL a b || leL b a) = true := by
  rw [leL_eq, leL_eq, Bool.or_eq_true, decide_eq_true_eq, decide_eq_true_eq]
  exact List.le_total _ _
theorem leD_int {i j : Int} : leD (.int i) (.int j) = decide (i ≤ j) := by
  show (!PySem.W.dataLt (.int j) (.int i)) = _
  rw [PySem.W.dataLt_int, PySem.W.not_lt_int]
def leN (a b : Nat) : Bool := decide (a ≤ b)
theorem leN_trans (a b c : Nat) (h1 : leN a b = true) (h2 : leN b c = true) : leN a c = true := by
  unfold leN at *
  rw [decide_eq_true_eq] at *
  omega
theorem leN_total (a b : Nat) : (leN a b || leN b a) = true := by
  unfold leN
  rw [Bool.or_eq_true, decide_eq_true_eq, decide_eq_true_eq]
  omega
def sortN (l : List Nat) : List Nat := l.mergeSort leN
def sortL (l : List (List Nat)) : List (List Nat) := l.mergeSort leL
theorem sortN_perm (l : List Nat) : (sortN l).Perm l := List.mergeSort_perm ..
theorem sortL_perm (l : List (List Nat)) : (sortL l).Perm l := List.mergeSort_perm ..
theorem sortN_mem {l : List Nat} {x : Nat} : x ∈ sortN l ↔ x ∈ l := List.mem_mergeSort
theorem sortN_sorted (l : List Nat) : (sortN l).Pairwise fun a b => leN a b = true := List.pairwise_mergeSort leN_trans leN_total l
theorem sortL_sorted (l : List (List Nat)) : (sortL l).Pairwise fun a b => leL a b = true := List.pairwise_mergeSort leL_trans leL_total l
theorem sortN_asc {l : List Nat} (h : l.Nodup) : (sortN l).Pairwise (· < ·) := by
  have h1 := sortN_sorted l
  have h2 : (sortN l).Nodup := (sortN_perm l).nodup_iff.mpr h
  refine (h1.and h2).imp fun {a b} ⟨x, y⟩ => ?_
  unfold leN at x
  rw [decide_eq_true_eq] at x
  omega
/-- sorted lists with the same members, once each, are one -/
theorem asc_unique {a b : List Nat} (ha : a.Pairwise (· < ·)) (hb : b.Pairwise (· < ·)) (h : ∀ x, x ∈ a ↔ x ∈ b) : a = b := by
  have na : a.Nodup := ha.imp Nat.ne_of_lt
  have nb : b.Nodup := hb.imp Nat.ne_of_lt
  exact ((List.perm_ext_iff_of_nodup na nb).mpr h).eq_of_pairwise (fun x y _ _ h1 h2 => by omega) ha hb
theorem srtL_unique {a b : List (List Nat)} (ha : a.Pairwise fun a b => leL a b = true) (hb : b.Pairwise fun a b => leL a b = true) (na : a.Nodup) (nb : b.Nodup) (h : ∀ x, x ∈ a ↔ x ∈ b) : a = b :=
  ((List.perm_ext_iff_of_nodup na nb).mpr h).eq_of_pairwise (fun x y _ _ h1 h2 => leL_antisymm h1 h2) ha hb
theorem srt_ints {l : List Nat} : srtOk (l.map dI) = true := by
  unfold srtOk
  simp only [Bool.and_eq_true, List.all_eq_true]
  refine ⟨⟨⟨okSs_ints, ?_⟩, ?_⟩, ?_⟩
  · intro x hx y hy
    obtain ⟨a, _, rfl⟩ := List.mem_map.mp hx
    obtain ⟨b, _, rfl⟩ := List.mem_map.mp hy
    show PySem.W.alike (.int a) (.int b) = true
    simp [PySem.W.alike]
  · intro x hx
    obtain ⟨a, _, rfl⟩ := List.mem_map.mp hx
    rfl
  · intro x hx
    obtain ⟨a, _, rfl⟩ := List.mem_map.mp hx
    rfl
theorem bSorted_ints {st : Sto} {xs : List Nat} : bSorted st [.lst (xs.map dI)] = some (.lst ((sortN xs).map dI)) := by
  have e : bSorted st [.lst (xs.map dI)] = if srtOk (xs.map dI) = true then some (.lst ((xs.map dI).mergeSort leD)) else none := rfl
  rw [e, srt_ints, if_pos rfl]
  unfold sortN
  rw [← List.map_mergeSort (r := leN) (s := leD) (f := dI) fun a _ b _ => by
    unfold leN
    rw [leD_int, Bool.eq_iff_iff, decide_eq_true_eq, decide_eq_true_eq]
    omega]
theorem cases_sorted (m k : Nat) : (cases m k).Pairwise fun a b => leL a b = true := List.pairwise_mergeSort leL_trans leL_total _
end Lw
set_option Elab.async false
set_option linter.all false
set_option maxRecDepth 100000
set_option maxHeartbeats 4000000
namespace Lw
open PySem Ip Lots

/-! ### members, and what is least: plain words about plans -/
theorem zip_mem {α : Type} {l : List α} {q : α × Nat} : q ∈ l.zipIdx ↔ l[q.2]? = some q.1 := by
  rw [List.mem_iff_getElem?]
  constructor
  · rintro ⟨i, hi⟩
    rw [List.getElem?_zipIdx] at hi
    obtain ⟨x, hx, rfl⟩ := Option.map_eq_some_iff.mp hi
    simpa using hx
  · intro h
    refine ⟨q.2, ?_⟩
    rw [List.getElem?_zipIdx, h]
    simp
theorem zip_snd {α : Type} (l : List α) : (l.zipIdx.map (·.2)) = List.range l.length := by
  rw [List.range_eq_range']
  exact List.zipIdx_map_snd 0 l
theorem view_mem {p : Pl} {c : List Nat} {n : Nat} : n ∈ view p c ↔ ∃ l, p.2[n]? = some l ∧ ∃ t ∈ l, t ∈ c := by
  unfold view
  simp only [List.mem_map, List.mem_filter, List.any_eq_true, decide_eq_true_eq]
  constructor
  · rintro ⟨q, ⟨h1, t, h2, h3⟩, rfl⟩
    exact ⟨q.1, zip_mem.mp h1, t, h2, h3⟩
  · rintro ⟨l, h1, t, h2, h3⟩
    exact ⟨(l, n), ⟨zip_mem.mpr h1, t, h2, h3⟩, rfl⟩
theorem lots_mem {p : Pl} {t n : Nat} : n ∈ lotsOf p t ↔ ∃ l, p.2[n]? = some l ∧ t ∈ l := by
  unfold lotsOf
  simp only [List.mem_map, List.mem_filter, decide_eq_true_eq]
  constructor
  · rintro ⟨q, ⟨h1, h2⟩, rfl⟩
    exact ⟨q.1, zip_mem.mp h1, h2⟩
  · rintro ⟨l, h1, h2⟩
    exact ⟨(l, n), ⟨zip_mem.mpr h1, h2⟩, rfl⟩
theorem filt_asc {α : Type} {l : List α} (f : α × Nat → Bool) : Asc l.length ((l.zipIdx.filter f).map (·.2)) := by
  have h : ((l.zipIdx.filter f).map (·.2)).Sublist (List.range l.length) := by
    rw [← zip_snd l]
    exact List.filter_sublist.map _
  exact ⟨List.pairwise_lt_range.sublist h, fun x hx => List.mem_range.mp (h.subset hx)⟩
theorem view_asc (p : Pl) (c : List Nat) : Asc p.2.length (view p c) := filt_asc _
theorem lots_asc (p : Pl) (t : Nat) : Asc p.2.length (lotsOf p t) := filt_asc _
theorem Asc.filter {m : Nat} {l : List Nat} (h : Asc m l) (f : Nat → Bool) : Asc m (l.filter f) := ⟨h.1.filter f, fun x hx => h.2 x (List.mem_filter.mp hx).1⟩
theorem Asc.nodup {m : Nat} {l : List Nat} (h : Asc m l) : l.Nodup := h.1.imp Nat.ne_of_lt
theorem Asc.ext {m k : Nat} {a b : List Nat} (ha : Asc m a) (hb : Asc k b) (h : ∀ x, x ∈ a ↔ x ∈ b) : a = b := asc_unique ha.1 hb.1 h
theorem susp_mem {p : Pl} {v : List Nat} {t : Nat} : t ∈ susp p v ↔ t < p.1 ∧ ∀ n ∈ lotsOf p t, n ∈ v := by
  unfold susp
  rw [List.mem_filter, List.mem_range, List.all_eq_true]
  simp only [decide_eq_true_eq]
theorem susp_asc (p : Pl) (v : List Nat) : Asc p.1 (susp p v) := by
  have h : (susp p v).Sublist (List.range p.1) := List.filter_sublist
  exact ⟨List.pairwise_lt_range.sublist h, fun x hx => List.mem_range.mp (h.subset hx)⟩
/-! ### the first hidden pair: nothing is shorter -/
def Hid (p : Pl) (k t : Nat) (c : List Nat) : Prop := t < p.1 ∧ c ∈ others p t k ∧ left p t c = 0
theorem hid1_inv (p : Pl) (t : Nat) : ∀ (cs : List (List Nat)) (b : Option (Nat × List Nat)),
    ((cs.foldl (hid1 p t) b = none ↔ b = none ∧ ∀ c ∈ cs, left p t c ≠ 0) ∧
    ∀ q, cs.foldl (hid1 p t) b = some q → (b = some q ∨ (q.1 = t ∧ q.2 ∈ cs ∧ left p t q.2 = 0)) ∧ (∀ r, b = some r → q.2.length ≤ r.2.length) ∧ ∀ c ∈ cs, left p t c = 0 → q.2.length ≤ c.length)
  | [], b => by
    refine ⟨by simp, fun q h => ⟨.inl h, fun r hr => ?_, fun _ h => nomatch h⟩⟩
    have h : b = some q := h
    rw [h] at hr; cases hr
    exact Nat.le_refl _
  | c :: cs, b => by
    obtain ⟨ih1, ih2⟩ := hid1_inv p t cs (hid1 p t b c)
    rw [List.foldl_cons]
    by_cases h0 : left p t c = 0
    · have hs : ∃ r, hid1 p t b c = some r ∧ (b = some r ∨ r = (t, c)) ∧ r.2.length ≤ c.length ∧ ∀ r', b = some r' → r.2.length ≤ r'.2.length := by
        cases b with
        | none => exact ⟨(t, c), by simp [hid1, h0], .inr rfl, Nat.le_refl _, fun _ h => nomatch h⟩
        | some r =>
          by_cases hl : c.length < r.2.length
          · exact ⟨(t, c), by simp [hid1, h0, hl], .inr rfl, Nat.le_refl _, fun r' hr => by cases hr; exact Nat.le_of_lt hl⟩
          · exact ⟨r, by simp [hid1, h0, hl], .inl rfl, by omega, fun r' hr => by cases hr; exact Nat.le_refl _⟩
      obtain ⟨r, e, hr1, hr2, hr3⟩ := hs
      rw [e] at ih1 ih2 ⊢
      refine ⟨?_, fun q hq => ?_⟩
      · constructor
        · intro h
          exact absurd (ih1.mp h).1 (by simp)
        · rintro ⟨_, h⟩
          exact absurd h0 (h c (List.mem_cons_self ..))
      · obtain ⟨k1, k2, k3⟩ := ih2 q hq
        have kr := k2 r rfl
        refine ⟨?_, fun r' hr' => Nat.le_trans kr (hr3 r' hr'), fun d hd hd0 => ?_⟩
        · rcases k1 with k1 | ⟨k1, k4, k5⟩
          · cases k1
            rcases hr1 with hr1 | hr1
            · exact .inl hr1
            · subst hr1
              exact .inr ⟨rfl, List.mem_cons_self .., h0⟩
          · exact .inr ⟨k1, List.mem_cons_of_mem _ k4, k5⟩
        · rcases List.mem_cons.mp hd with rfl | hd
          · exact Nat.le_trans kr hr2
          · exact k3 d hd hd0
    · have e : hid1 p t b c = b := by simp [hid1, h0]
      rw [e] at ih1 ih2 ⊢
      refine ⟨?_, fun q hq => ?_⟩
      · rw [ih1]
        simp only [List.mem_cons, forall_eq_or_imp]
        exact ⟨fun ⟨a, b⟩ => ⟨a, h0, b⟩, fun ⟨a, _, b⟩ => ⟨a, b⟩⟩
      · obtain ⟨k1, k2, k3⟩ := ih2 q hq
        refine ⟨k1.imp id fun ⟨a, b, c⟩ => ⟨a, List.mem_cons_of_mem _ b, c⟩, k2, fun d hd hd0 => ?_⟩
        rcases List.mem_cons.mp hd with rfl | hd
        · exact absurd hd0 h0
        · exact k3 d hd hd0
theorem hid_inv (p : Pl) (k : Nat) : ∀ (ts : List Nat) (b : Option (Nat × List Nat)),
    ((ts.foldl (fun b t => (others p t k).foldl (hid1 p t) b) b = none ↔ b = none ∧ ∀ t ∈ ts, ∀ c ∈ others p t k, left p t c ≠ 0) ∧
    ∀ q, ts.foldl (fun b t => (others p t k).foldl (hid1 p t) b) b = some q → (b = some q ∨ (q.1 ∈ ts ∧ q.2 ∈ others p q.1 k ∧ left p q.1 q.2 = 0)) ∧ (∀ r, b = some r → q.2.length ≤ r.2.length) ∧ ∀ t ∈ ts, ∀ c ∈ others p t k, left p t c = 0 → q.2.length ≤ c.length)
  | [], b => by
    refine ⟨by simp, fun q h => ⟨.inl h, fun r hr => ?_, fun _ h => nomatch h⟩⟩
    have h : b = some q := h
    rw [h] at hr; cases hr
    exact Nat.le_refl _
  | t :: ts, b => by
    obtain ⟨ih1, ih2⟩ := hid_inv p k ts ((others p t k).foldl (hid1 p t) b)
    obtain ⟨g1, g2⟩ := hid1_inv p t (others p t k) b
    rw [List.foldl_cons]
    refine ⟨?_, fun q hq => ?_⟩
    · rw [ih1, g1]
      simp only [List.mem_cons, forall_eq_or_imp]
      exact ⟨fun ⟨⟨a, b⟩, c⟩ => ⟨a, b, c⟩, fun ⟨a, b, c⟩ => ⟨⟨a, b⟩, c⟩⟩
    · obtain ⟨k1, k2, k3⟩ := ih2 q hq
      have mid : ∀ c ∈ others p t k, left p t c = 0 → q.2.length ≤ c.length := fun c hc h0 => by
        cases hm : (others p t k).foldl (hid1 p t) b with
        | none => exact absurd h0 ((g1.mp hm).2 c hc)
        | some m => exact Nat.le_trans (k2 m hm) ((g2 m hm).2.2 c hc h0)
      have ini : ∀ r, b = some r → q.2.length ≤ r.2.length := fun r hr => by
        cases hm : (others p t k).foldl (hid1 p t) b with
        | none =>
          have := (g1.mp hm).1
          rw [hr] at this; cases this
        | some m => exact Nat.le_trans (k2 m hm) ((g2 m hm).2.1 r hr)
      refine ⟨?_, ini, fun u hu c hc h0 => ?_⟩
      · rcases k1 with k1 | ⟨k1, k4, k5⟩
        · rcases (g2 q k1).1 with h | ⟨h1, h2, h3⟩
          · exact .inl h
          · right
            rw [h1]
            exact ⟨List.mem_cons_self .., h2, h3⟩
        · exact .inr ⟨List.mem_cons_of_mem _ k1, k4, k5⟩
      · rcases List.mem_cons.mp hu with rfl | hu
        · exact mid c hc h0
        · exact k3 u hu c hc h0
theorem hid_none {p : Pl} {k : Nat} : hid p k = none ↔ ∀ t c, ¬ Hid p k t c := by
  unfold hid
  rw [(hid_inv p k (List.range p.1) none).1]
  constructor
  · rintro ⟨_, h⟩ t c ⟨h1, h2, h3⟩
    exact h t (List.mem_range.mpr h1) c h2 h3
  · intro h
    exact ⟨rfl, fun t ht c hc h0 => h t c ⟨List.mem_range.mp ht, hc, h0⟩⟩
theorem hid_some {p : Pl} {k : Nat} {q : Nat × List Nat} (h : hid p k = some q) : Hid p k q.1 q.2 ∧ ∀ t c, Hid p k t c → q.2.length ≤ c.length := by
  obtain ⟨h1, _, h3⟩ := (hid_inv p k (List.range p.1) none).2 q h
  refine ⟨?_, fun t c ⟨a, b, d⟩ => h3 t (List.mem_range.mpr a) c b d⟩
  rcases h1 with h1 | ⟨h1, h2, h4⟩
  · cases h1
  · exact ⟨List.mem_range.mp h1, h2, h4⟩
/-! ### least and greatest numbers -/
theorem foldl_min_le : ∀ (r : List Nat) (x : Nat), (r.foldl min x = x ∨ r.foldl min x ∈ r) ∧ r.foldl min x ≤ x ∧ ∀ y ∈ r, r.foldl min x ≤ y
  | [], x => ⟨.inl rfl, Nat.le_refl _, fun _ h => nomatch h⟩
  | z :: r, x => by
    obtain ⟨h1, h2, h3⟩ := foldl_min_le r (min x z)
    rw [List.foldl_cons]
    refine ⟨?_, by omega, fun y hy => ?_⟩
    · rcases h1 with h1 | h1
      · rw [h1]
        by_cases hz : x ≤ z
        · exact .inl (by omega)
        · right
          rw [Nat.min_eq_right (by omega)]
          exact List.mem_cons_self ..
      · exact .inr (List.mem_cons_of_mem _ h1)
    · rcases List.mem_cons.mp hy with rfl | hy
      · omega
      · exact h3 y hy
theorem minN_is {l : List Nat} {n : Nat} : minN l = some n ↔ n ∈ l ∧ ∀ x ∈ l, n ≤ x := by
  cases l with
  | nil => simp [minN]
  | cons x r =>
    obtain ⟨h1, h2, h3⟩ := foldl_min_le r x
    have e : minN (x :: r) = some (r.foldl min x) := rfl
    rw [e, Option.some.injEq]
    have mem : r.foldl min x ∈ x :: r := by
      rcases h1 with h1 | h1
      · rw [h1]; exact List.mem_cons_self ..
      · exact List.mem_cons_of_mem _ h1
    have low : ∀ y ∈ x :: r, r.foldl min x ≤ y := fun y hy => by
      rcases List.mem_cons.mp hy with rfl | hy
      · exact h2
      · exact h3 y hy
    constructor
    · rintro rfl
      exact ⟨mem, low⟩
    · rintro ⟨a, b⟩
      exact Nat.le_antisymm (low n a) (b _ mem)
theorem minN_ex {l : List Nat} (h : l ≠ []) : ∃ n, minN l = some n := by
  cases l with
  | nil => exact absurd rfl h
  | cons x r => exact ⟨_, rfl⟩
theorem maxN_ex {l : List Nat} (h : l ≠ []) : ∃ n, maxN l = some n := by
  cases l with
  | nil => exact absurd rfl h
  | cons x r => exact ⟨_, rfl⟩
theorem minN_eq {a b : List Nat} (h : ∀ x, x ∈ a ↔ x ∈ b) : minN a = minN b := by
  cases e : minN a with
  | none =>
    cases a with
    | nil =>
      have : b = [] := List.eq_nil_iff_forall_not_mem.mpr fun x hx => nomatch (h x).mpr hx
      rw [this]; rfl
    | cons _ _ => cases e
  | some n =>
    obtain ⟨h1, h2⟩ := minN_is.mp e
    exact (minN_is.mpr ⟨(h n).mp h1, fun x hx => h2 x ((h x).mpr hx)⟩).symm
theorem mar_mem {p : Pl} {k n : Nat} : n ∈ marL p k ↔ ∃ t c, t < p.1 ∧ c ∈ others p t k ∧ left p t c = n := by
  unfold marL
  simp only [List.mem_flatMap, List.mem_range, List.mem_map]
  constructor
  · rintro ⟨t, h1, c, h2, h3⟩
    exact ⟨t, c, h1, h2, h3⟩
  · rintro ⟨t, c, h1, h2, h3⟩
    exact ⟨t, h1, c, h2, h3⟩
theorem nil_asc {m : Nat} : Asc m [] := ⟨.nil, fun _ h => nomatch h⟩
theorem mar_ne {p : Pl} {k : Nat} (hp : OkP p) : marL p k ≠ [] := fun e => by
  have : left p 0 [] ∈ marL p k := mar_mem.mpr ⟨0, [], hp.one, others_mem.mpr ⟨nil_asc, Nat.zero_le _, fun h => nomatch h⟩, rfl⟩
  rw [e] at this
  cases this
/-! ### pairs of rows -/
theorem find_none {α β : Type} {f : α → Option β} {l : List α} : l.findSome? f = none ↔ ∀ x ∈ l, f x = none := by
  induction l with
  | nil => simp
  | cons x l ih =>
    rw [List.findSome?_cons]
    cases h : f x with
    | none => simp [h, ih]
    | some y => simp [h]
theorem alk_none {rs : List Row} : alk rs = none ↔ ∀ (i j : Nat) (a b : Row), i < j → rs[i]? = some a → rs[j]? = some b → a.2 ≠ b.2 := by
  unfold alk
  rw [find_none]
  constructor
  · intro h i j a b hij ha hb e
    have := h (a, i) (zip_mem.mpr ha)
    unfold alk1 at this
    rw [find_none] at this
    have hb' : b ∈ rs.drop (i + 1) := List.mem_iff_getElem?.mpr ⟨j - (i + 1), by rw [List.getElem?_drop, show i + 1 + (j - (i + 1)) = j by omega]; exact hb⟩
    have := this b hb'
    rw [if_pos e] at this
    cases this
  · intro h q hq
    unfold alk1
    rw [find_none]
    intro r hr
    obtain ⟨j, hj⟩ := List.mem_iff_getElem?.mp hr
    rw [List.getElem?_drop] at hj
    exact if_neg (h q.2 (q.2 + 1 + j) q.1 r (by omega) (zip_mem.mp hq) hj)
theorem rows_get {p : Pl} {k i : Nat} : (rows p k)[i]? = ((cases p.1 k)[i]?).map fun c => (c, view p c) := List.getElem?_map ..
theorem alk_rows {p : Pl} {k : Nat} : alk (rows p k) = none ↔ ∀ c ∈ cases p.1 k, ∀ d ∈ cases p.1 k, c ≠ d → view p c ≠ view p d := by
  rw [alk_none]
  constructor
  · intro h c hc d hd hcd e
    obtain ⟨i, hi⟩ := List.mem_iff_getElem?.mp hc
    obtain ⟨j, hj⟩ := List.mem_iff_getElem?.mp hd
    have ri : (rows p k)[i]? = some (c, view p c) := by rw [rows_get, hi]; rfl
    have rj : (rows p k)[j]? = some (d, view p d) := by rw [rows_get, hj]; rfl
    rcases Nat.lt_trichotomy i j with q | q | q
    · exact h i j _ _ q ri rj e
    · subst q
      rw [hi] at hj
      cases hj
      exact hcd rfl
    · exact h j i _ _ q rj ri e.symm
  · intro h i j a b hij ha hb e
    rw [rows_get] at ha hb
    obtain ⟨c, hc, rfl⟩ := Option.map_eq_some_iff.mp ha
    obtain ⟨d, hd, rfl⟩ := Option.map_eq_some_iff.mp hb
    refine h c (List.mem_of_getElem? hc) d (List.mem_of_getElem? hd) (fun z => ?_) e
    subst z
    have := ndx (cases_nodup p.1 k) hc hd
    omega
theorem apart_comm (v w : List Nat) : apartN v w = apartN w v := by unfold apartN; omega
/-- the least of n and the distances -/
structure GapIs (p : Pl) (k n g : Nat) : Prop where
  le : g ≤ n
  low : ∀ c ∈ cases p.1 k, ∀ d ∈ cases p.1 k, c ≠ d → g ≤ apartN (view p c) (view p d)
  at_ : g = n ∨ ∃ c ∈ cases p.1 k, ∃ d ∈ cases p.1 k, c ≠ d ∧ g = apartN (view p c) (view p d)
theorem GapIs.unique {p : Pl} {k n g h : Nat} (a : GapIs p k n g) (b : GapIs p k n h) : g = h := by
  refine Nat.le_antisymm ?_ ?_
  · rcases b.at_ with rfl | ⟨c, hc, d, hd, hn, rfl⟩
    · exact a.le
    · exact a.low c hc d hd hn
  · rcases a.at_ with rfl | ⟨c, hc, d, hd, hn, rfl⟩
    · exact b.le
    · exact b.low c hc d hd hn
theorem foldl_minf {α : Type} (f : α → Nat) : ∀ (l : List α) (n : Nat), l.foldl (fun g r => min g (f r)) n ≤ n ∧ (∀ r ∈ l, l.foldl (fun g r => min g (f r)) n ≤ f r) ∧ (l.foldl (fun g r => min g (f r)) n = n ∨ ∃ r ∈ l, l.foldl (fun g r => min g (f r)) n = f r)
  | [], n => ⟨Nat.le_refl _, fun _ h => (nomatch h), .inl rfl⟩
  | x :: l, n => by
    obtain ⟨h1, h2, h3⟩ := foldl_minf f l (min n (f x))
    rw [List.foldl_cons]
    refine ⟨by omega, fun r hr => ?_, ?_⟩
    · rcases List.mem_cons.mp hr with rfl | hr
      · omega
      · exact h2 r hr
    · rcases h3 with h3 | ⟨r, hr, h3⟩
      · by_cases hx : n ≤ f x
        · exact .inl (by omega)
        · exact .inr ⟨x, List.mem_cons_self .., by omega⟩
      · exact .inr ⟨r, List.mem_cons_of_mem _ hr, h3⟩
theorem foldl_minff {α β : Type} (l : α → List β) (f : α → β → Nat) : ∀ (xs : List α) (n : Nat),
    xs.foldl (fun g q => (l q).foldl (fun g r => min g (f q r)) g) n ≤ n ∧ (∀ q ∈ xs, ∀ r ∈ l q, xs.foldl (fun g q => (l q).foldl (fun g r => min g (f q r)) g) n ≤ f q r) ∧
      (xs.foldl (fun g q => (l q).foldl (fun g r => min g (f q r)) g) n = n ∨ ∃ q ∈ xs, ∃ r ∈ l q, xs.foldl (fun g q => (l q).foldl (fun g r => min g (f q r)) g) n = f q r)
  | [], n => ⟨Nat.le_refl _, fun _ h => (nomatch h), .inl rfl⟩
  | x :: xs, n => by
    obtain ⟨h1, h2, h3⟩ := foldl_minff l f xs ((l x).foldl (fun g r => min g (f x r)) n)
    obtain ⟨g1, g2, g3⟩ := foldl_minf (f x) (l x) n
    rw [List.foldl_cons]
    refine ⟨Nat.le_trans h1 g1, fun q hq r hr => ?_, ?_⟩
    · rcases List.mem_cons.mp hq with rfl | hq
      · exact Nat.le_trans h1 (g2 r hr)
      · exact h2 q hq r hr
    · rcases h3 with h3 | ⟨q, hq, r, hr, h3⟩
      · rw [h3]
        rcases g3 with g3 | ⟨r, hr, g3⟩
        · exact .inl g3
        · exact .inr ⟨x, List.mem_cons_self .., r, hr, g3⟩
      · exact .inr ⟨q, List.mem_cons_of_mem _ hq, r, hr, h3⟩
theorem gapN_is (p : Pl) (k n : Nat) : GapIs p k n (gapN (rows p k) n) := by
  obtain ⟨h1, h2, h3⟩ := foldl_minff (fun (q : Row × Nat) => (rows p k).drop (q.2 + 1)) (fun q r => apartN q.1.2 r.2) (rows p k).zipIdx n
  have e : (rows p k).zipIdx.foldl (fun g q => ((rows p k).drop (q.2 + 1)).foldl (fun g r => min g (apartN q.1.2 r.2)) g) n = gapN (rows p k) n := rfl
  rw [e] at h1 h2 h3
  have pair : ∀ (i j : Nat) (c d : List Nat), i < j → (cases p.1 k)[i]? = some c → (cases p.1 k)[j]? = some d → gapN (rows p k) n ≤ apartN (view p c) (view p d) := fun i j c d hij hc hd => by
    have ri : (rows p k)[i]? = some (c, view p c) := by rw [rows_get, hc]; rfl
    have rj : (rows p k)[j]? = some (d, view p d) := by rw [rows_get, hd]; rfl
    exact h2 ((c, view p c), i) (zip_mem.mpr ri) (d, view p d) (List.mem_iff_getElem?.mpr ⟨j - (i + 1), by rw [List.getElem?_drop, show i + 1 + (j - (i + 1)) = j by omega]; exact rj⟩)
  refine ⟨h1, fun c hc d hd hn => ?_, ?_⟩
  · obtain ⟨i, hi⟩ := List.mem_iff_getElem?.mp hc
    obtain ⟨j, hj⟩ := List.mem_iff_getElem?.mp hd
    rcases Nat.lt_trichotomy i j with q | q | q
    · exact pair i j c d q hi hj
    · subst q
      rw [hi] at hj
      cases hj
      exact absurd rfl hn
    · rw [apart_comm]
      exact pair j i d c q hj hi
  · rcases h3 with h3 | ⟨q, hq, r, hr, h3⟩
    · exact .inl h3
    · right
      have q1 := zip_mem.mp hq
      obtain ⟨j, hj⟩ := List.mem_iff_getElem?.mp hr
      rw [List.getElem?_drop] at hj
      rw [rows_get] at q1 hj
      obtain ⟨c, hc, e1⟩ := Option.map_eq_some_iff.mp q1
      obtain ⟨d, hd, e2⟩ := Option.map_eq_some_iff.mp hj
      refine ⟨c, List.mem_of_getElem? hc, d, List.mem_of_getElem? hd, fun z => ?_, ?_⟩
      · subst z
        have := ndx (cases_nodup p.1 k) hc hd
        omega
      · rw [h3, ← e1, ← e2]
theorem tell_ne (p : Pl) : tellL p ≠ [] := fun e => by
  have : 0 ∈ tellL p := by
    unfold tellL
    rw [List.mem_filter, List.mem_range]
    refine ⟨by omega, ?_⟩
    have h : alk (rows p 0) = none := alk_rows.mpr fun c hc d hd hn => by
      have h1 := (cases_mem.mp hc).2
      have h2 := (cases_mem.mp hd).2
      have e1 : c = [] := List.length_eq_zero_iff.mp (by omega)
      have e2 : d = [] := List.length_eq_zero_iff.mp (by omega)
      exact absurd (e1.trans e2.symm) hn
    rw [h]; rfl
  rw [e] at this
  cases this
theorem for_eq (p : Pl) (v : List Nat) (k : Nat) : forL p v k = (cases p.1 k).filter fun c => decide (view p c = v) := by
  unfold forL rows
  rw [List.filter_map, List.map_map]
  exact List.map_id _
theorem near_fst (p : Pl) (v : List Nat) (k : Nat) : (nearR p v k).map (·.1) = (cases p.1 k).map fun c => apartN v (view p c) := by
  unfold nearR rows
  rw [List.map_map, List.map_map]
  rfl
theorem near_snd (p : Pl) (v : List Nat) (k n : Nat) : ((nearR p v k).filter fun q => decide (q.1 = n)).map (·.2) = (cases p.1 k).filter fun c => decide (apartN v (view p c) = n) := by
  unfold nearR rows
  rw [List.map_map, List.filter_map, List.map_map]
  exact List.map_id _
theorem near_ne {p : Pl} {v : List Nat} {k : Nat} : (nearR p v k).map (·.1) ≠ [] := fun e => by
  rw [near_fst, List.map_eq_nil_iff] at e
  have : [] ∈ cases p.1 k := cases_mem.mpr ⟨nil_asc, Nat.zero_le _⟩
  rw [e] at this
  cases this
end Lw
set_option Elab.async false
set_option linter.all false
set_option maxRecDepth 100000
set_option maxHeartbeats 0
namespace K12
open PySem PySem.Spec PyProof.Rows L2 Ip Lots
def top (i : Nat) : Stmt := PySem.Challenge.pw_testedlots_k12_whole_things_called_other.main.body.getD i (.Pass ⟨0, 0, 0, 0⟩)
def c_is_whole : Ip.Ctx := ⟨["value", "low", "high"], defScope (top 9), fun _ => true, 0, [], [], [], []⟩
def c_view_of : Ip.Ctx := ⟨["plan", "case", "number", "lot", "thing"], defScope (top 16), fun _ => true, 0, [], [], [], []⟩
def c_lots_of : Ip.Ctx := ⟨["plan", "thing", "number", "lot"], defScope (top 17), fun _ => true, 0, [], [], [], []⟩
def c_cases_of : Ip.Ctx := ⟨["many", "most", "found", "thing", "case"], defScope (top 18), fun _ => true, 0, [], [], [], []⟩
def c_apart : Ip.Ctx := ⟨["view", "another", "one"], defScope (top 34), fun _ => true, 0, [], [], [], []⟩
def c_law_cell : Ip.Ctx := ⟨["script", "k"], defScope (top 44), fun _ => true, 0, [], [], [], []⟩
def c_law_take : Ip.Ctx := ⟨["bag", "many", "draw"], defScope (top 47), fun _ => true, 0, [], [], [], []⟩
def c_law_known : Ip.Ctx := ⟨["some"], defScope (top 49), fun _ => true, 0, [], [], [], []⟩
def b_law_known : Es := (sCons (sSet 0 (evL (elDisp (eaCons (evTup (eaCons (evC (.int 4)) (eaCons (evTup (eaCons (evTup (eaCons (evC (.int 0)) (eaCons (evC (.int 1)) eaNil))) (eaCons (evTup (eaCons (evC (.int 0)) (eaCons (evC (.int 2)) eaNil))) (eaCons (evTup (eaCons (evC (.int 0)) (eaCons (evC (.int 3)) eaNil))) (eaCons (evTup (eaCons (evC (.int 1)) (eaCons (evC (.int 2)) eaNil))) (eaCons (evTup (eaCons (evC (.int 1)) (eaCons (evC (.int 3)) eaNil))) (eaCons (evTup (eaCons (evC (.int 2)) (eaCons (evC (.int 3)) eaNil))) eaNil))))))) eaNil))) (eaCons (evTup (eaCons (evC (.int 3)) (eaCons (evTup (eaCons (evTup (eaCons (evC (.int 0)) (eaCons (evC (.int 1)) eaNil))) (eaCons (evTup (eaCons (evC (.int 1)) (eaCons (evC (.int 2)) eaNil))) eaNil))) eaNil))) eaNil))))) (sCons (sRet (evOp oAdd (evVar 0) (evL (elDisp (eaCons (evTup (eaCons (evC (.int 2)) (eaCons (evTup eaNil) eaNil))) (eaCons (evTup (eaCons (evC (.int 3)) (eaCons (evTup (eaCons (evTup (eaCons (evC (.int 0)) eaNil)) (eaCons (evTup (eaCons (evC (.int 1)) eaNil)) (eaCons (evTup (eaCons (evC (.int 2)) eaNil)) eaNil)))) eaNil))) eaNil)))))) sNil))
def f_law_known : Fn := fnRun false 1 b_law_known
def c_law_named : Ip.Ctx := ⟨["order", "things", "thing"], defScope (top 53), fun _ => true, 0, [], [], [], []⟩
def b_law_named : Es := (sCons (sRet (evB bTuple (eaCons (evB bSorted (eaCons (evLc [2] (itVal (evVar 1)) (gN 2) ebYes (evOp oIx (evVar 0) (evVar 2))) eaNil)) eaNil))) sNil)
def f_law_named : Fn := fnRun false 3 b_law_named
def c_law_seen_there : Ip.Ctx := ⟨["lots_order", "view", "number"], defScope (top 55), fun _ => true, 0, [], [], [], []⟩
def b_law_seen_there : Es := (sCons (sRet (evB bTuple (eaCons (evB bSorted (eaCons (evLc [2] (itVal (evVar 1)) (gN 2) ebYes (evML mIdx (evVar 0) (eaCons (evVar 2) eaNil))) eaNil)) eaNil))) sNil)
def f_law_seen_there : Fn := fnRun false 3 b_law_seen_there
def c_is_rising : Ip.Ctx := ⟨["value", "many", "one", "other"], defScope (top 10), fun _ => true, 1, [("is_whole", 3, f_is_whole)], [], [], []⟩
def c_need_number : Ip.Ctx := ⟨["value", "low", "high"], defScope (top 15), fun _ => true, 1, [("is_whole", 3, f_is_whole)], [], ["InvalidNumber"], []⟩
def c_others_of : Ip.Ctx := ⟨["plan", "thing", "most", "some", "case", "size"], defScope (top 22), fun _ => true, 1, [("cases_of", 2, f_cases_of)], [], [], []⟩
def c_left_of : Ip.Ctx := ⟨["plan", "thing", "others", "view", "number"], defScope (top 23), fun _ => true, 1, [("lots_of", 2, f_lots_of), ("view_of", 2, f_view_of)], [], [], []⟩
def c_views_of : Ip.Ctx := ⟨["plan", "most", "case"], defScope (top 32), fun _ => true, 1, [("cases_of", 2, f_cases_of), ("view_of", 2, f_view_of)], [], [], []⟩
def c_law_draws : Ip.Ctx := ⟨["script", "k", "many", "base", "primes", "cell", "rest", "row", "j", "mash"], defScope (top 45), fun _ => true, 1, [("_law_cell", 2, f_law_cell)], [], [], ["row"]⟩
def c_law_choice : Ip.Ctx := ⟨["bag", "some"], defScope (top 48), fun _ => true, 1, [("_law_take", 2, f_law_take)], [], [], []⟩
def c_law_order : Ip.Ctx := ⟨["bag", "many", "left", "found"], defScope (top 52), fun _ => true, 1, [("_law_take", 2, f_law_take)], [], [], ["found", "left"]⟩
def b_law_order : Es := (sCons (sPar 2 3 (eaCons (evM (rg1' (evVar 1))) (eaCons (evM (elDisp eaNil)) eaNil))) (sCons (sWhile whN (ebOf (evOp oNe (evVar 2) (evL (elDisp eaNil)))) (sCons (sExp (evMR mApp (evVar 3) (eaCons (evMR mPop (evVar 2) (eaCons (evCall 2 f_law_take (eaCons (evVar 0) (eaCons (evB bLen (eaCons (evVar 2) eaNil)) eaNil))) eaNil)) eaNil))) sNil)) (sCons (sRet (evVar 3)) sNil)))
def f_law_order : Fn := fnRun false 4 b_law_order
def c_law_moved : Ip.Ctx := ⟨["one", "order", "lots_order", "number"], defScope (top 54), fun _ => true, 1, [("_law_named", 2, f_law_named)], [], [], []⟩
def b_law_moved : Es := (sCons (sRet (evTup (eaCons (evOp oIx (evVar 0) (evC (.int 0))) (eaCons (evB bTuple (eaCons (evLc [3] (itVal (evVar 2)) (gN 3) ebYes (evCall 2 f_law_named (eaCons (evVar 1) (eaCons (evOp oIx (evOp oIx (evVar 0) (evC (.int 1))) (evVar 3)) eaNil)))) eaNil)) eaNil)))) sNil)
def f_law_moved : Fn := fnRun false 4 b_law_moved
def c_fits_plan : Ip.Ctx := ⟨["value", "lot"], defScope (top 11), fun _ => true, 2, [("is_rising", 2, f_is_rising), ("is_whole", 3, f_is_whole)], [("LOTS", 10), ("THINGS", 10)], [], []⟩
def c_need_case : Ip.Ctx := ⟨["plan", "value"], defScope (top 13), fun _ => true, 2, [("is_rising", 2, f_is_rising)], [], ["InvalidCase"], []⟩
def c_need_view : Ip.Ctx := ⟨["many", "value"], defScope (top 14), fun _ => true, 2, [("is_rising", 2, f_is_rising)], [], ["InvalidView"], []⟩
def c_hidden_in : Ip.Ctx := ⟨["plan", "most", "best", "thing", "others"], defScope (top 24), fun _ => true, 2, [("others_of", 3, f_others_of), ("left_of", 3, f_left_of)], [], [], []⟩
def c_first_alike : Ip.Ctx := ⟨["plan", "most", "rows", "at", "one", "view", "other", "another"], defScope (top 33), fun _ => true, 2, [("views_of", 2, f_views_of)], [], [], []⟩
def c_gap_of : Ip.Ctx := ⟨["plan", "most", "rows", "found", "at", "one", "view", "other", "another"], defScope (top 35), fun _ => true, 2, [("apart", 2, f_apart), ("views_of", 2, f_views_of)], [], [], []⟩
def c_law_bag : Ip.Ctx := ⟨["script", "k"], defScope (top 46), fun _ => true, 2, [("_law_draws", 4, f_law_draws)], [], [], []⟩
def b_law_bag : Es := (sCons (sRet (evCall 4 f_law_draws (eaCons (evVar 0) (eaCons (evVar 1) (eaCons (evC (.int 150)) (eaCons (evC (.int 27720)) eaNil)))))) sNil)
def f_law_bag : Fn := fnRun true 2 b_law_bag
def c_law_plan : Ip.Ctx := ⟨["bag", "things", "lots_so", "many", "found", "few", "turn", "thing"], defScope (top 50), fun _ => true, 2, [("_law_take", 2, f_law_take), ("_law_choice", 2, f_law_choice)], [], [], []⟩
def b_law_plan : Es := (sCons (sPar 3 4 (eaCons (evOp oAdd (evC (.int 1)) (evCall 2 f_law_take (eaCons (evVar 0) (eaCons (evVar 1) eaNil)))) (eaCons (evTup eaNil) eaNil))) (sCons (sSet 5 (evCall 2 f_law_choice (eaCons (evVar 0) (eaCons (evL (elDisp (eaCons (evC (.int 2)) (eaCons (evC (.int 2)) (eaCons (evC (.int 3)) eaNil))))) eaNil)))) (sCons (sFor (itR1 (eaCons (evCall 2 f_law_take (eaCons (evVar 0) (eaCons (evOp oAdd (evVar 2) (evC (.int 1))) eaNil))) eaNil)) (gN 6) (sCons (sSet 4 (evOp oAdd (evVar 4) (evTup (eaCons (evB bTuple (eaCons (evLc [7] (itR1 (eaCons (evVar 3) eaNil)) (gN 7) (ebOf (evOp oEq (evCall 2 f_law_take (eaCons (evVar 0) (eaCons (evVar 5) eaNil))) (evC (.int 0)))) (evVar 7)) eaNil)) eaNil)))) sNil)) (sCons (sRet (evTup (eaCons (evVar 3) (eaCons (evVar 4) eaNil)))) sNil))))
def f_law_plan : Fn := fnRun false 8 b_law_plan
def c_need_plan : Ip.Ctx := ⟨["value"], defScope (top 12), fun _ => true, 3, [("fits_plan", 1, f_fits_plan)], [], ["InvalidPlan"], []⟩
def c_is_read : Ip.Ctx := ⟨["plan", "most"], defScope (top 25), fun _ => true, 3, [("hidden_in", 2, f_hidden_in)], [], [], []⟩
def c_shown : Ip.Ctx := ⟨["plan", "case"], defScope (top 19), fun _ => true, 4, [("view_of", 2, f_view_of), ("need_case", 2, f_need_case), ("need_plan", 1, f_need_plan)], [], [], []⟩
def c_suspects : Ip.Ctx := ⟨["plan", "view", "thing", "number"], defScope (top 20), fun _ => true, 4, [("lots_of", 2, f_lots_of), ("need_view", 2, f_need_view), ("need_plan", 1, f_need_plan)], [], [], []⟩
def c_need_both : Ip.Ctx := ⟨["plan", "most"], defScope (top 26), fun _ => true, 4, [("need_number", 3, f_need_number), ("need_plan", 1, f_need_plan)], [], [], []⟩
def c_most_read : Ip.Ctx := ⟨["plan", "some", "most"], defScope (top 29), fun _ => true, 4, [("is_read", 2, f_is_read), ("need_plan", 1, f_need_plan)], [], [], []⟩
def c_most_told : Ip.Ctx := ⟨["plan", "most"], defScope (top 38), fun _ => true, 4, [("first_alike", 2, f_first_alike), ("need_plan", 1, f_need_plan)], [], [], []⟩
def c_cases_for : Ip.Ctx := ⟨["plan", "view", "most", "case", "another"], defScope (top 39), fun _ => true, 4, [("views_of", 2, f_views_of), ("need_number", 3, f_need_number), ("need_view", 2, f_need_view), ("need_plan", 1, f_need_plan)], [], [], []⟩
def c_gap : Ip.Ctx := ⟨["plan", "most"], defScope (top 40), fun _ => true, 4, [("gap_of", 2, f_gap_of), ("need_number", 3, f_need_number), ("need_plan", 1, f_need_plan)], [], [], []⟩
def c_mends : Ip.Ctx := ⟨["plan", "most", "found"], defScope (top 41), fun _ => true, 4, [("gap_of", 2, f_gap_of), ("need_number", 3, f_need_number), ("need_plan", 1, f_need_plan)], [], [], []⟩
def c_nearest : Ip.Ctx := ⟨["plan", "view", "most", "rows", "least", "case", "another", "size"], defScope (top 42), fun _ => true, 4, [("views_of", 2, f_views_of), ("apart", 2, f_apart), ("need_number", 3, f_need_number), ("need_view", 2, f_need_view), ("need_plan", 1, f_need_plan)], [], [], []⟩
def c_reads : Ip.Ctx := ⟨["plan", "most"], defScope (top 27), fun _ => true, 5, [("is_read", 2, f_is_read), ("need_both", 2, f_need_both)], [], [], []⟩
def c_hidden : Ip.Ctx := ⟨["plan", "most"], defScope (top 28), fun _ => true, 5, [("hidden_in", 2, f_hidden_in), ("need_both", 2, f_need_both)], [], [], []⟩
def c_margin : Ip.Ctx := ⟨["plan", "most", "found", "thing", "others"], defScope (top 30), fun _ => true, 5, [("others_of", 3, f_others_of), ("left_of", 3, f_left_of), ("need_both", 2, f_need_both)], [], [], []⟩
def c_tells : Ip.Ctx := ⟨["plan", "most"], defScope (top 36), fun _ => true, 5, [("first_alike", 2, f_first_alike), ("need_both", 2, f_need_both)], [], [], []⟩
def c_alike_pair : Ip.Ctx := ⟨["plan", "most"], defScope (top 37), fun _ => true, 5, [("first_alike", 2, f_first_alike), ("need_both", 2, f_need_both)], [], [], []⟩
def c_law_same_right : Ip.Ctx := ⟨["bag", "one", "order", "lots_order", "other", "most", "case_so", "view", "there", "least", "rows", "mine", "yours", "thing", "number", "some"], defScope (top 56), fun _ => true, 6, [("nearest", 3, f_nearest), ("_law_named", 2, f_law_named), ("cases_for", 3, f_cases_for), ("suspects", 2, f_suspects), ("shown", 2, f_shown), ("_law_seen_there", 2, f_law_seen_there), ("_law_take", 2, f_law_take), ("mends", 2, f_mends), ("gap", 2, f_gap), ("margin", 2, f_margin), ("alike_pair", 2, f_alike_pair), ("tells", 2, f_tells), ("hidden", 2, f_hidden), ("reads", 2, f_reads), ("most_read", 1, f_most_read), ("most_told", 1, f_most_told), ("_law_moved", 3, f_law_moved)], [], [], []⟩
def b_law_same_right : Es := (sCons (sSet 4 (evCall 3 f_law_moved (eaCons (evVar 1) (eaCons (evVar 2) (eaCons (evVar 3) eaNil))))) (sCons (sIf (ebOr (ebOf (evOp oNe (evCall 1 f_most_read (eaCons (evVar 4) eaNil)) (evCall 1 f_most_read (eaCons (evVar 1) eaNil)))) (ebOf (evOp oNe (evCall 1 f_most_told (eaCons (evVar 4) eaNil)) (evCall 1 f_most_told (eaCons (evVar 1) eaNil))))) (sCons (sRet (evC (.bl false))) sNil) sNil) (sCons (sFor (itVal (evTup (eaCons (evC (.int 0)) (eaCons (evC (.int 1)) (eaCons (evC (.int 2)) eaNil))))) (gN 5) (sCons (sIf (ebOr (ebOf (evOp oNe (evCall 2 f_reads (eaCons (evVar 4) (eaCons (evVar 5) eaNil))) (evCall 2 f_reads (eaCons (evVar 1) (eaCons (evVar 5) eaNil))))) (ebOf (evOp oNe (evCall 2 f_tells (eaCons (evVar 4) (eaCons (evVar 5) eaNil))) (evCall 2 f_tells (eaCons (evVar 1) (eaCons (evVar 5) eaNil)))))) (sCons (sRet (evC (.bl false))) sNil) sNil) (sCons (sPar 11 12 (eaCons (evCall 2 f_hidden (eaCons (evVar 1) (eaCons (evVar 5) eaNil))) (eaCons (evCall 2 f_hidden (eaCons (evVar 4) (eaCons (evVar 5) eaNil))) eaNil))) (sCons (sIf (ebOr (ebOf (evOp oNe (evOp oIs (evVar 11) (evC .non)) (evOp oIs (evVar 12) (evC .non)))) (ebAnd (ebOf (evOp oIsNot (evVar 11) (evC .non))) (ebOf (evOp oNe (evB bLen (eaCons (evOp oIx (evVar 11) (evC (.int 1))) eaNil)) (evB bLen (eaCons (evOp oIx (evVar 12) (evC (.int 1))) eaNil)))))) (sCons (sRet (evC (.bl false))) sNil) sNil) (sCons (sIf (ebOr (ebOf (evOp oNe (evCall 2 f_margin (eaCons (evVar 4) (eaCons (evVar 5) eaNil))) (evCall 2 f_margin (eaCons (evVar 1) (eaCons (evVar 5) eaNil))))) (ebOf (evOp oNe (evOp oIs (evCall 2 f_alike_pair (eaCons (evVar 4) (eaCons (evVar 5) eaNil))) (evC .non)) (evCall 2 f_tells (eaCons (evVar 1) (eaCons (evVar 5) eaNil)))))) (sCons (sRet (evC (.bl false))) sNil) sNil) (sCons (sIf (ebAnd (ebOf (evOp oGt (evVar 5) (evC (.int 0)))) (ebOf (evOp oNe (evCall 2 f_gap (eaCons (evVar 4) (eaCons (evVar 5) eaNil))) (evCall 2 f_gap (eaCons (evVar 1) (eaCons (evVar 5) eaNil)))))) (sCons (sRet (evC (.bl false))) sNil) sNil) (sCons (sIf (ebAnd (ebOf (evOp oGt (evVar 5) (evC (.int 0)))) (ebOf (evOp oNe (evCall 2 f_mends (eaCons (evVar 4) (eaCons (evVar 5) eaNil))) (evCall 2 f_mends (eaCons (evVar 1) (eaCons (evVar 5) eaNil)))))) (sCons (sRet (evC (.bl false))) sNil) sNil) sNil))))))) (sCons (sSet 6 (evB bTuple (eaCons (evLc [13] (itR1 (eaCons (evOp oIx (evVar 1) (evC (.int 0))) eaNil)) (gN 13) (ebOf (evOp oEq (evCall 2 f_law_take (eaCons (evVar 0) (eaCons (evC (.int 3)) eaNil))) (evC (.int 0)))) (evVar 13)) eaNil))) (sCons (sSet 7 (evB bTuple (eaCons (evLc [14] (itR1 (eaCons (evB bLen (eaCons (evOp oIx (evVar 1) (evC (.int 1))) eaNil)) eaNil)) (gN 14) (ebOf (evOp oEq (evCall 2 f_law_take (eaCons (evVar 0) (eaCons (evC (.int 2)) eaNil))) (evC (.int 0)))) (evVar 14)) eaNil))) (sCons (sSet 8 (evCall 2 f_law_seen_there (eaCons (evVar 3) (eaCons (evVar 7) eaNil)))) (sCons (sIf (ebOf (evOp oNe (evCall 2 f_shown (eaCons (evVar 4) (eaCons (evCall 2 f_law_named (eaCons (evVar 2) (eaCons (evVar 6) eaNil))) eaNil))) (evCall 2 f_law_seen_there (eaCons (evVar 3) (eaCons (evCall 2 f_shown (eaCons (evVar 1) (eaCons (evVar 6) eaNil))) eaNil))))) (sCons (sRet (evC (.bl false))) sNil) sNil) (sCons (sIf (ebOf (evOp oNe (evCall 2 f_suspects (eaCons (evVar 4) (eaCons (evVar 8) eaNil))) (evCall 2 f_law_named (eaCons (evVar 2) (eaCons (evCall 2 f_suspects (eaCons (evVar 1) (eaCons (evVar 7) eaNil))) eaNil))))) (sCons (sRet (evC (.bl false))) sNil) sNil) (sCons (sIf (ebOf (evOp oNe (evCall 3 f_cases_for (eaCons (evVar 4) (eaCons (evVar 8) (eaCons (evC (.int 2)) eaNil)))) (evB bSorted (eaCons (evLc [15] (itVal (evCall 3 f_cases_for (eaCons (evVar 1) (eaCons (evVar 7) (eaCons (evC (.int 2)) eaNil))))) (gN 15) ebYes (evCall 2 f_law_named (eaCons (evVar 2) (eaCons (evVar 15) eaNil)))) eaNil)))) (sCons (sRet (evC (.bl false))) sNil) sNil) (sCons (sAsg (gT 2 (gsCons (gN 9) (gsCons (gN 10) gsNil))) (evCall 3 f_nearest (eaCons (evVar 1) (eaCons (evVar 7) (eaCons (evC (.int 2)) eaNil))))) (sCons (sRet (evOp oEq (evCall 3 f_nearest (eaCons (evVar 4) (eaCons (evVar 8) (eaCons (evC (.int 2)) eaNil)))) (evTup (eaCons (evVar 9) (eaCons (evB bSorted (eaCons (evLc [15] (itVal (evVar 10)) (gN 15) ebYes (evCall 2 f_law_named (eaCons (evVar 2) (eaCons (evVar 15) eaNil)))) eaNil)) eaNil))))) sNil)))))))))))
def f_law_same_right : Fn := fnRun false 16 b_law_same_right
def c_law : Ip.Ctx := ⟨["script", "k", "one", "bag"], defScope (top 57), fun _ => true, 7, [("most_told", 1, f_most_told), ("cases_for", 3, f_cases_for), ("_law_moved", 3, f_law_moved), ("hidden", 2, f_hidden), ("_law_known", 0, f_law_known), ("_law_same_right", 4, f_law_same_right), ("_law_order", 2, f_law_order), ("_law_plan", 3, f_law_plan), ("_law_bag", 2, f_law_bag)], [], [], []⟩
def b_law : Es := (sCons (sFor (itR1 (eaCons (evC (.int 6)) eaNil)) (gN 1) (sCons (sSet 3 (evCall 2 f_law_bag (eaCons (evVar 0) (eaCons (evVar 1) eaNil)))) (sCons (sSet 2 (evCall 3 f_law_plan (eaCons (evVar 3) (eaCons (evC (.int 6)) (eaCons (evC (.int 7)) eaNil))))) (sCons (sIf (ebNot (ebOf (evCall 4 f_law_same_right (eaCons (evVar 3) (eaCons (evVar 2) (eaCons (evCall 2 f_law_order (eaCons (evVar 3) (eaCons (evOp oIx (evVar 2) (evC (.int 0))) eaNil))) (eaCons (evCall 2 f_law_order (eaCons (evVar 3) (eaCons (evB bLen (eaCons (evOp oIx (evVar 2) (evC (.int 1))) eaNil)) eaNil))) eaNil))))))) (sCons (sRet (evC (.bl false))) sNil) sNil) sNil)))) (sCons (sFor (itVal (evCall 0 f_law_known eaNil)) (gN 2) (sCons (sIf (ebNot (ebOf (evCall 4 f_law_same_right (eaCons (evVar 3) (eaCons (evVar 2) (eaCons (evRevL (evL (rg1' (evOp oIx (evVar 2) (evC (.int 0)))))) (eaCons (evRevL (evL (rg1' (evB bLen (eaCons (evOp oIx (evVar 2) (evC (.int 1))) eaNil))))) eaNil))))))) (sCons (sRet (evC (.bl false))) sNil) sNil) sNil)) (sCons (sSet 2 (evTup (eaCons (evC (.int 3)) (eaCons (evTup (eaCons (evTup (eaCons (evC (.int 0)) (eaCons (evC (.int 1)) eaNil))) (eaCons (evTup (eaCons (evC (.int 1)) (eaCons (evC (.int 2)) eaNil))) eaNil))) eaNil)))) (sCons (sIf (ebOr (ebOf (evOp oNe (evCall 3 f_law_moved (eaCons (evVar 2) (eaCons (evL (elDisp (eaCons (evC (.int 1)) (eaCons (evC (.int 0)) (eaCons (evC (.int 2)) eaNil))))) (eaCons (evL (elDisp (eaCons (evC (.int 1)) (eaCons (evC (.int 0)) eaNil)))) eaNil)))) (evTup (eaCons (evC (.int 3)) (eaCons (evTup (eaCons (evTup (eaCons (evC (.int 0)) (eaCons (evC (.int 2)) eaNil))) (eaCons (evTup (eaCons (evC (.int 0)) (eaCons (evC (.int 1)) eaNil))) eaNil))) eaNil))))) (ebOf (evOp oNe (evCall 2 f_hidden (eaCons (evTup (eaCons (evC (.int 3)) (eaCons (evTup (eaCons (evTup (eaCons (evC (.int 0)) (eaCons (evC (.int 2)) eaNil))) (eaCons (evTup (eaCons (evC (.int 0)) (eaCons (evC (.int 1)) eaNil))) eaNil))) eaNil))) (eaCons (evC (.int 1)) eaNil))) (evTup (eaCons (evC (.int 1)) (eaCons (evTup (eaCons (evC (.int 0)) eaNil)) eaNil)))))) (sCons (sRet (evC (.bl false))) sNil) sNil) (sCons (sRet (evAnd (evOp oEq (evCall 1 f_most_told (eaCons (evTup (eaCons (evC (.int 3)) (eaCons (evTup (eaCons (evTup (eaCons (evC (.int 0)) (eaCons (evC (.int 2)) eaNil))) (eaCons (evTup (eaCons (evC (.int 0)) (eaCons (evC (.int 1)) eaNil))) eaNil))) eaNil))) eaNil)) (evC (.int 1))) (evOp oEq (evCall 3 f_cases_for (eaCons (evTup (eaCons (evC (.int 3)) (eaCons (evTup (eaCons (evTup (eaCons (evC (.int 0)) (eaCons (evC (.int 2)) eaNil))) (eaCons (evTup (eaCons (evC (.int 0)) (eaCons (evC (.int 1)) eaNil))) eaNil))) eaNil))) (eaCons (evTup (eaCons (evC (.int 0)) (eaCons (evC (.int 1)) eaNil))) (eaCons (evC (.int 1)) eaNil)))) (evL (elDisp (eaCons (evTup (eaCons (evC (.int 0)) eaNil)) eaNil)))))) sNil)))))
def f_law : Fn := fnRun false 4 b_law
/-! the readings are what the reader reads -/
theorem s_is_whole : semOf 60 c_is_whole (defBody (top 9)) = some b_is_whole := by kernel_rfl
theorem s_view_of : semOf 60 c_view_of (defBody (top 16)) = some b_view_of := by kernel_rfl
theorem s_lots_of : semOf 60 c_lots_of (defBody (top 17)) = some b_lots_of := by kernel_rfl
theorem s_cases_of : semOf 60 c_cases_of (defBody (top 18)) = some b_cases_of := by kernel_rfl
theorem s_apart : semOf 60 c_apart (defBody (top 34)) = some b_apart := by kernel_rfl
theorem s_law_cell : semOf 60 c_law_cell (defBody (top 44)) = some b_law_cell := by kernel_rfl
theorem s_law_take : semOf 60 c_law_take (defBody (top 47)) = some b_law_take := by kernel_rfl
theorem s_law_known : semOf 60 c_law_known (defBody (top 49)) = some b_law_known := by kernel_rfl
theorem s_law_named : semOf 60 c_law_named (defBody (top 53)) = some b_law_named := by kernel_rfl
theorem s_law_seen_there : semOf 60 c_law_seen_there (defBody (top 55)) = some b_law_seen_there := by kernel_rfl
theorem s_is_rising : semOf 60 c_is_rising (defBody (top 10)) = some b_is_rising := by kernel_rfl
theorem s_need_number : semOf 60 c_need_number (defBody (top 15)) = some b_need_number := by kernel_rfl
theorem s_others_of : semOf 60 c_others_of (defBody (top 22)) = some b_others_of := by kernel_rfl
theorem s_left_of : semOf 60 c_left_of (defBody (top 23)) = some b_left_of := by kernel_rfl
theorem s_views_of : semOf 60 c_views_of (defBody (top 32)) = some b_views_of := by kernel_rfl
theorem s_law_draws : semOf 60 c_law_draws (defBody (top 45)) = some b_law_draws := by kernel_rfl
theorem s_law_choice : semOf 60 c_law_choice (defBody (top 48)) = some b_law_choice := by kernel_rfl
theorem s_law_order : semOf 60 c_law_order (defBody (top 52)) = some b_law_order := by kernel_rfl
theorem s_law_moved : semOf 60 c_law_moved (defBody (top 54)) = some b_law_moved := by kernel_rfl
theorem s_fits_plan : semOf 60 c_fits_plan (defBody (top 11)) = some b_fits_plan := by kernel_rfl
theorem s_need_case : semOf 60 c_need_case (defBody (top 13)) = some b_need_case := by kernel_rfl
theorem s_need_view : semOf 60 c_need_view (defBody (top 14)) = some b_need_view := by kernel_rfl
theorem s_hidden_in : semOf 60 c_hidden_in (defBody (top 24)) = some b_hidden_in := by kernel_rfl
theorem s_first_alike : semOf 60 c_first_alike (defBody (top 33)) = some b_first_alike := by kernel_rfl
theorem s_gap_of : semOf 60 c_gap_of (defBody (top 35)) = some b_gap_of := by kernel_rfl
theorem s_law_bag : semOf 60 c_law_bag (defBody (top 46)) = some b_law_bag := by kernel_rfl
theorem s_law_plan : semOf 60 c_law_plan (defBody (top 50)) = some b_law_plan := by kernel_rfl
theorem s_need_plan : semOf 60 c_need_plan (defBody (top 12)) = some b_need_plan := by kernel_rfl
theorem s_is_read : semOf 60 c_is_read (defBody (top 25)) = some b_is_read := by kernel_rfl
theorem s_shown : semOf 60 c_shown (defBody (top 19)) = some b_shown := by kernel_rfl
theorem s_suspects : semOf 60 c_suspects (defBody (top 20)) = some b_suspects := by kernel_rfl
theorem s_need_both : semOf 60 c_need_both (defBody (top 26)) = some b_need_both := by kernel_rfl
theorem s_most_read : semOf 60 c_most_read (defBody (top 29)) = some b_most_read := by kernel_rfl
theorem s_most_told : semOf 60 c_most_told (defBody (top 38)) = some b_most_told := by kernel_rfl
theorem s_cases_for : semOf 60 c_cases_for (defBody (top 39)) = some b_cases_for := by kernel_rfl
theorem s_gap : semOf 60 c_gap (defBody (top 40)) = some b_gap := by kernel_rfl
theorem s_mends : semOf 60 c_mends (defBody (top 41)) = some b_mends := by kernel_rfl
theorem s_nearest : semOf 60 c_nearest (defBody (top 42)) = some b_nearest := by kernel_rfl
theorem s_reads : semOf 60 c_reads (defBody (top 27)) = some b_reads := by kernel_rfl
theorem s_hidden : semOf 60 c_hidden (defBody (top 28)) = some b_hidden := by kernel_rfl
theorem s_margin : semOf 60 c_margin (defBody (top 30)) = some b_margin := by kernel_rfl
theorem s_tells : semOf 60 c_tells (defBody (top 36)) = some b_tells := by kernel_rfl
theorem s_alike_pair : semOf 60 c_alike_pair (defBody (top 37)) = some b_alike_pair := by kernel_rfl
theorem s_law_same_right : semOf 60 c_law_same_right (defBody (top 56)) = some b_law_same_right := by kernel_rfl
theorem s_law : semOf 60 c_law (defBody (top 57)) = some b_law := by kernel_rfl
end K12
set_option Elab.async false
set_option linter.all false
set_option maxRecDepth 100000
set_option maxHeartbeats 0
namespace K12
open PySem PySem.Spec PyProof.Rows L2 Ip Lots
def mkD (x : Str) (i : Nat) : He.DefD := ⟨(x, none), x, x, defArgs (top i), defBody (top i), defScope (top i), [], []⟩
def fn0 : List He.DefD := [mkD "is_whole" 9, mkD "is_rising" 10, mkD "fits_plan" 11, mkD "need_plan" 12, mkD "need_case" 13, mkD "need_view" 14, mkD "need_number" 15, mkD "view_of" 16, mkD "lots_of" 17, mkD "cases_of" 18, mkD "shown" 19, mkD "suspects" 20, mkD "others_of" 22, mkD "left_of" 23, mkD "hidden_in" 24]
def fn1 : List He.DefD := [mkD "is_read" 25, mkD "need_both" 26, mkD "reads" 27, mkD "hidden" 28, mkD "most_read" 29, mkD "margin" 30, mkD "views_of" 32, mkD "first_alike" 33, mkD "apart" 34, mkD "gap_of" 35, mkD "tells" 36, mkD "alike_pair" 37, mkD "most_told" 38, mkD "cases_for" 39, mkD "gap" 40]
def fn2 : List He.DefD := [mkD "mends" 41, mkD "nearest" 42, mkD "_law_cell" 44, mkD "_law_draws" 45, mkD "_law_bag" 46, mkD "_law_take" 47, mkD "_law_choice" 48, mkD "_law_known" 49, mkD "_law_plan" 50, mkD "_law_order" 52, mkD "_law_named" 53, mkD "_law_moved" 54, mkD "_law_seen_there" 55, mkD "_law_same_right" 56, mkD "law" 57]
def fn : List He.DefD := fn0 ++ fn1 ++ fn2
def fa0 : List He.Fa := [.glo "is_whole", .glo "is_rising", .glo "fits_plan", .glo "need_plan", .glo "need_case", .glo "need_view", .glo "need_number", .glo "view_of", .glo "lots_of", .glo "cases_of", .glo "shown", .glo "suspects", .glo "others_of", .glo "left_of", .glo "hidden_in"]
def fa1 : List He.Fa := [.glo "is_read", .glo "need_both", .glo "reads", .glo "hidden", .glo "most_read", .glo "margin", .glo "views_of", .glo "first_alike", .glo "apart", .glo "gap_of", .glo "tells", .glo "alike_pair", .glo "most_told", .glo "cases_for", .glo "gap"]
def fa2 : List He.Fa := [.glo "mends", .glo "nearest", .glo "_law_cell", .glo "_law_draws", .glo "_law_bag", .glo "_law_take", .glo "_law_choice", .glo "_law_known", .glo "_law_plan", .glo "_law_order", .glo "_law_named", .glo "_law_moved", .glo "_law_seen_there", .glo "_law_same_right", .glo "law"]
def fa3 : List He.Fa := [.free "len", .free "all", .free "any", .free "sum", .free "max", .free "min", .free "sorted", .free "tuple", .free "list", .free "int", .free "bool", .free "range", .free "enumerate", .free "zip", .free "isinstance"]
def fa4 : List He.Fa := [.free "str", .int "LOTS" 10, .int "THINGS" 10, .exc "InvalidCase", .glo "InvalidCase", .exc "InvalidNumber", .glo "InvalidNumber", .exc "InvalidPlan", .glo "InvalidPlan", .exc "InvalidView", .glo "InvalidView"]
def fa : List He.Fa := fa0 ++ fa1 ++ fa2 ++ fa3 ++ fa4
def lo0 : List PySem.Str := ["LotError", "InvalidPlan", "InvalidCase", "InvalidView", "InvalidNumber", "THINGS", "LOTS", "is_whole", "is_rising", "fits_plan", "need_plan", "need_case", "need_view", "need_number", "view_of"]
def lo1 : List PySem.Str := ["lots_of", "cases_of", "shown", "suspects", "others_of", "left_of", "hidden_in", "is_read", "need_both", "reads", "hidden", "most_read", "margin", "views_of", "first_alike"]
def lo2 : List PySem.Str := ["apart", "gap_of", "tells", "alike_pair", "most_told", "cases_for", "gap", "mends", "nearest", "_law_cell", "_law_draws", "_law_bag", "_law_take", "_law_choice", "_law_known"]
def lo3 : List PySem.Str := ["_law_plan", "_law_bent", "_law_order", "_law_named", "_law_moved", "_law_seen_there", "_law_same_right"]
def lo : List PySem.Str := lo0 ++ lo1 ++ lo2 ++ lo3
abbrev R : PySem.W.OpenRow := PySem.W.OpenLaw.row PySem.Challenge.rw_testedlots_k12_whole_things_called_other
abbrev hk : PySem.W.Hook := He.hookD 4 fa fn
def ob (s : PySem.W.SharedT) : He.AlD := He.obsDG 4 fa fn (HandSHeadRun.getT s)
theorem ob_eq (s : PySem.W.SharedT) : ob s = hk.obs s.abs := He.obsDG_eq (HandSHeadRun.getT_eq s)
theorem run (w : World) : HandSHeadRun.RunEq R (PySem.W.view R.prog [57]) hk ob 8000 lo w := by
  intro os
  kernel_rfl
section
variable {P : Program} {w : World} {K : PySem.W.Frag} {mg : Str → Option Value} {base h : Heap}
/-- what the head tells -/
structure Md (K : PySem.W.Frag) (mg : Str → Option Value) (h : Heap) : Prop where
  x : K.In h
  g : h.Ns mainGlobals mg
  c : He.SaysD fa fn K
theorem blts (M : Md K mg h) : ∀ q ∈ bltn, mg q = none := by
  unfold bltn
  exact all_cons (He.free_ok M.x M.g (M.c.fact 45 (f := .free "len") rfl)) (all_cons (He.free_ok M.x M.g (M.c.fact 46 (f := .free "all") rfl)) (all_cons (He.free_ok M.x M.g (M.c.fact 47 (f := .free "any") rfl)) (all_cons (He.free_ok M.x M.g (M.c.fact 48 (f := .free "sum") rfl)) (all_cons (He.free_ok M.x M.g (M.c.fact 49 (f := .free "max") rfl)) (all_cons (He.free_ok M.x M.g (M.c.fact 50 (f := .free "min") rfl)) (all_cons (He.free_ok M.x M.g (M.c.fact 51 (f := .free "sorted") rfl)) (all_cons (He.free_ok M.x M.g (M.c.fact 52 (f := .free "tuple") rfl)) (all_cons (He.free_ok M.x M.g (M.c.fact 53 (f := .free "list") rfl)) (all_cons (He.free_ok M.x M.g (M.c.fact 54 (f := .free "int") rfl)) (all_cons (He.free_ok M.x M.g (M.c.fact 55 (f := .free "bool") rfl)) (all_cons (He.free_ok M.x M.g (M.c.fact 56 (f := .free "range") rfl)) (all_cons (He.free_ok M.x M.g (M.c.fact 57 (f := .free "enumerate") rfl)) (all_cons (He.free_ok M.x M.g (M.c.fact 58 (f := .free "zip") rfl)) (all_cons (He.free_ok M.x M.g (M.c.fact 59 (f := .free "isinstance") rfl)) (all_cons (He.free_ok M.x M.g (M.c.fact 60 (f := .free "str") rfl)) (all_nil))))))))))))))))
theorem fx_is_whole (M : Md K mg h) : Facts P w K mg base c_is_whole := ⟨all_nil, all_nil, all_nil, blts M⟩
theorem has_is_whole (M : Md K mg h) : Has P w K mg base "is_whole" 3 1 f_is_whole := by
  obtain ⟨fd, F⟩ := M.c.def_ 0 (d := mkD "is_whole" 9) rfl
  exact has_mk (ps := ["value", "low", "high"]) (Γ := c_is_whole) F (He.glo_ok M.x M.g (M.c.fact 0 (f := .glo "is_whole") rfl)) (by decide +kernel) rfl rfl s_is_whole rfl rfl rfl (fx_is_whole M) fun _ _ _ _ _ _ us hl => match us, hl with | [_, _, _], _ => rfl
theorem fx_view_of (M : Md K mg h) : Facts P w K mg base c_view_of := ⟨all_nil, all_nil, all_nil, blts M⟩
theorem has_view_of (M : Md K mg h) : Has P w K mg base "view_of" 2 1 f_view_of := by
  obtain ⟨fd, F⟩ := M.c.def_ 7 (d := mkD "view_of" 16) rfl
  exact has_mk (ps := ["plan", "case"]) (Γ := c_view_of) F (He.glo_ok M.x M.g (M.c.fact 7 (f := .glo "view_of") rfl)) (by decide +kernel) rfl rfl s_view_of rfl rfl rfl (fx_view_of M) fun _ _ _ _ _ _ us hl => match us, hl with | [_, _], _ => rfl
theorem fx_lots_of (M : Md K mg h) : Facts P w K mg base c_lots_of := ⟨all_nil, all_nil, all_nil, blts M⟩
theorem has_lots_of (M : Md K mg h) : Has P w K mg base "lots_of" 2 1 f_lots_of := by
  obtain ⟨fd, F⟩ := M.c.def_ 8 (d := mkD "lots_of" 17) rfl
  exact has_mk (ps := ["plan", "thing"]) (Γ := c_lots_of) F (He.glo_ok M.x M.g (M.c.fact 8 (f := .glo "lots_of") rfl)) (by decide +kernel) rfl rfl s_lots_of rfl rfl rfl (fx_lots_of M) fun _ _ _ _ _ _ us hl => match us, hl with | [_, _], _ => rfl
theorem fx_cases_of (M : Md K mg h) : Facts P w K mg base c_cases_of := ⟨all_nil, all_nil, all_nil, blts M⟩
theorem has_cases_of (M : Md K mg h) : Has P w K mg base "cases_of" 2 1 f_cases_of := by
  obtain ⟨fd, F⟩ := M.c.def_ 9 (d := mkD "cases_of" 18) rfl
  exact has_mk (ps := ["many", "most"]) (Γ := c_cases_of) F (He.glo_ok M.x M.g (M.c.fact 9 (f := .glo "cases_of") rfl)) (by decide +kernel) rfl rfl s_cases_of rfl rfl rfl (fx_cases_of M) fun _ _ _ _ _ _ us hl => match us, hl with | [_, _], _ => rfl
theorem fx_apart (M : Md K mg h) : Facts P w K mg base c_apart := ⟨all_nil, all_nil, all_nil, blts M⟩
theorem has_apart (M : Md K mg h) : Has P w K mg base "apart" 2 1 f_apart := by
  obtain ⟨fd, F⟩ := M.c.def_ 23 (d := mkD "apart" 34) rfl
  exact has_mk (ps := ["view", "another"]) (Γ := c_apart) F (He.glo_ok M.x M.g (M.c.fact 23 (f := .glo "apart") rfl)) (by decide +kernel) rfl rfl s_apart rfl rfl rfl (fx_apart M) fun _ _ _ _ _ _ us hl => match us, hl with | [_, _], _ => rfl
theorem fx_law_cell (M : Md K mg h) : Facts P w K mg base c_law_cell := ⟨all_nil, all_nil, all_nil, blts M⟩
theorem has_law_cell (M : Md K mg h) : Has P w K mg base "_law_cell" 2 1 f_law_cell := by
  obtain ⟨fd, F⟩ := M.c.def_ 32 (d := mkD "_law_cell" 44) rfl
  exact has_mk (ps := ["script", "k"]) (Γ := c_law_cell) F (He.glo_ok M.x M.g (M.c.fact 32 (f := .glo "_law_cell") rfl)) (by decide +kernel) rfl rfl s_law_cell rfl rfl rfl (fx_law_cell M) fun _ _ _ _ _ _ us hl => match us, hl with | [_, _], _ => rfl
theorem fx_law_take (M : Md K mg h) : Facts P w K mg base c_law_take := ⟨all_nil, all_nil, all_nil, blts M⟩
theorem has_law_take (M : Md K mg h) : Has P w K mg base "_law_take" 2 1 f_law_take := by
  obtain ⟨fd, F⟩ := M.c.def_ 35 (d := mkD "_law_take" 47) rfl
  exact has_mk (ps := ["bag", "many"]) (Γ := c_law_take) F (He.glo_ok M.x M.g (M.c.fact 35 (f := .glo "_law_take") rfl)) (by decide +kernel) rfl rfl s_law_take rfl rfl rfl (fx_law_take M) fun _ _ _ _ _ _ us hl => match us, hl with | [_, _], _ => rfl
theorem fx_law_known (M : Md K mg h) : Facts P w K mg base c_law_known := ⟨all_nil, all_nil, all_nil, blts M⟩
theorem has_law_known (M : Md K mg h) : Has P w K mg base "_law_known" 0 1 f_law_known := by
  obtain ⟨fd, F⟩ := M.c.def_ 37 (d := mkD "_law_known" 49) rfl
  exact has_mk (ps := []) (Γ := c_law_known) F (He.glo_ok M.x M.g (M.c.fact 37 (f := .glo "_law_known") rfl)) (by decide +kernel) rfl rfl s_law_known rfl rfl rfl (fx_law_known M) fun _ _ _ _ _ _ us hl => match us, hl with | [], _ => rfl
theorem fx_law_named (M : Md K mg h) : Facts P w K mg base c_law_named := ⟨all_nil, all_nil, all_nil, blts M⟩
theorem has_law_named (M : Md K mg h) : Has P w K mg base "_law_named" 2 1 f_law_named := by
  obtain ⟨fd, F⟩ := M.c.def_ 40 (d := mkD "_law_named" 53) rfl
  exact has_mk (ps := ["order", "things"]) (Γ := c_law_named) F (He.glo_ok M.x M.g (M.c.fact 40 (f := .glo "_law_named") rfl)) (by decide +kernel) rfl rfl s_law_named rfl rfl rfl (fx_law_named M) fun _ _ _ _ _ _ us hl => match us, hl with | [_, _], _ => rfl
theorem fx_law_seen_there (M : Md K mg h) : Facts P w K mg base c_law_seen_there := ⟨all_nil, all_nil, all_nil, blts M⟩
theorem has_law_seen_there (M : Md K mg h) : Has P w K mg base "_law_seen_there" 2 1 f_law_seen_there := by
  obtain ⟨fd, F⟩ := M.c.def_ 42 (d := mkD "_law_seen_there" 55) rfl
  exact has_mk (ps := ["lots_order", "view"]) (Γ := c_law_seen_there) F (He.glo_ok M.x M.g (M.c.fact 42 (f := .glo "_law_seen_there") rfl)) (by decide +kernel) rfl rfl s_law_seen_there rfl rfl rfl (fx_law_seen_there M) fun _ _ _ _ _ _ us hl => match us, hl with | [_, _], _ => rfl
theorem fx_is_rising (M : Md K mg h) : Facts P w K mg base c_is_rising := ⟨all_cons ((has_is_whole M).mono (by decide)) (all_nil), all_nil, all_nil, blts M⟩
theorem has_is_rising (M : Md K mg h) : Has P w K mg base "is_rising" 2 2 f_is_rising := by
  obtain ⟨fd, F⟩ := M.c.def_ 1 (d := mkD "is_rising" 10) rfl
  exact has_mk (ps := ["value", "many"]) (Γ := c_is_rising) F (He.glo_ok M.x M.g (M.c.fact 1 (f := .glo "is_rising") rfl)) (by decide +kernel) rfl rfl s_is_rising rfl rfl rfl (fx_is_rising M) fun _ _ _ _ _ _ us hl => match us, hl with | [_, _], _ => rfl
theorem fx_need_number (M : Md K mg h) : Facts P w K mg base c_need_number := ⟨all_cons ((has_is_whole M).mono (by decide)) (all_nil), all_nil, all_cons ⟨M.c.fact 65 (f := .exc "InvalidNumber") rfl, He.glo_ok M.x M.g (M.c.fact 66 (f := .glo "InvalidNumber") rfl)⟩ (all_nil), blts M⟩
theorem has_need_number (M : Md K mg h) : Has P w K mg base "need_number" 3 2 f_need_number := by
  obtain ⟨fd, F⟩ := M.c.def_ 6 (d := mkD "need_number" 15) rfl
  exact has_mk (ps := ["value", "low", "high"]) (Γ := c_need_number) F (He.glo_ok M.x M.g (M.c.fact 6 (f := .glo "need_number") rfl)) (by decide +kernel) rfl rfl s_need_number rfl rfl rfl (fx_need_number M) fun _ _ _ _ _ _ us hl => match us, hl with | [_, _, _], _ => rfl
theorem fx_others_of (M : Md K mg h) : Facts P w K mg base c_others_of := ⟨all_cons ((has_cases_of M).mono (by decide)) (all_nil), all_nil, all_nil, blts M⟩
theorem has_others_of (M : Md K mg h) : Has P w K mg base "others_of" 3 2 f_others_of := by
  obtain ⟨fd, F⟩ := M.c.def_ 12 (d := mkD "others_of" 22) rfl
  exact has_mk (ps := ["plan", "thing", "most"]) (Γ := c_others_of) F (He.glo_ok M.x M.g (M.c.fact 12 (f := .glo "others_of") rfl)) (by decide +kernel) rfl rfl s_others_of rfl rfl rfl (fx_others_of M) fun _ _ _ _ _ _ us hl => match us, hl with | [_, _, _], _ => rfl
theorem fx_left_of (M : Md K mg h) : Facts P w K mg base c_left_of := ⟨all_cons ((has_lots_of M).mono (by decide)) (all_cons ((has_view_of M).mono (by decide)) (all_nil)), all_nil, all_nil, blts M⟩
theorem has_left_of (M : Md K mg h) : Has P w K mg base "left_of" 3 2 f_left_of := by
  obtain ⟨fd, F⟩ := M.c.def_ 13 (d := mkD "left_of" 23) rfl
  exact has_mk (ps := ["plan", "thing", "others"]) (Γ := c_left_of) F (He.glo_ok M.x M.g (M.c.fact 13 (f := .glo "left_of") rfl)) (by decide +kernel) rfl rfl s_left_of rfl rfl rfl (fx_left_of M) fun _ _ _ _ _ _ us hl => match us, hl with | [_, _, _], _ => rfl
theorem fx_views_of (M : Md K mg h) : Facts P w K mg base c_views_of := ⟨all_cons ((has_cases_of M).mono (by decide)) (all_cons ((has_view_of M).mono (by decide)) (all_nil)), all_nil, all_nil, blts M⟩
theorem has_views_of (M : Md K mg h) : Has P w K mg base "views_of" 2 2 f_views_of := by
  obtain ⟨fd, F⟩ := M.c.def_ 21 (d := mkD "views_of" 32) rfl
  exact has_mk (ps := ["plan", "most"]) (Γ := c_views_of) F (He.glo_ok M.x M.g (M.c.fact 21 (f := .glo "views_of") rfl)) (by decide +kernel) rfl rfl s_views_of rfl rfl rfl (fx_views_of M) fun _ _ _ _ _ _ us hl => match us, hl with | [_, _], _ => rfl
theorem fx_law_draws (M : Md K mg h) : Facts P w K mg base c_law_draws := ⟨all_cons ((has_law_cell M).mono (by decide)) (all_nil), all_nil, all_nil, blts M⟩
theorem has_law_draws (M : Md K mg h) : Has P w K mg base "_law_draws" 4 2 f_law_draws := by
  obtain ⟨fd, F⟩ := M.c.def_ 33 (d := mkD "_law_draws" 45) rfl
  exact has_mk (ps := ["script", "k", "many", "base"]) (Γ := c_law_draws) F (He.glo_ok M.x M.g (M.c.fact 33 (f := .glo "_law_draws") rfl)) (by decide +kernel) rfl rfl s_law_draws rfl rfl rfl (fx_law_draws M) fun _ _ _ _ _ _ us hl => match us, hl with | [_, _, _, _], _ => rfl
theorem fx_law_choice (M : Md K mg h) : Facts P w K mg base c_law_choice := ⟨all_cons ((has_law_take M).mono (by decide)) (all_nil), all_nil, all_nil, blts M⟩
theorem has_law_choice (M : Md K mg h) : Has P w K mg base "_law_choice" 2 2 f_law_choice := by
  obtain ⟨fd, F⟩ := M.c.def_ 36 (d := mkD "_law_choice" 48) rfl
  exact has_mk (ps := ["bag", "some"]) (Γ := c_law_choice) F (He.glo_ok M.x M.g (M.c.fact 36 (f := .glo "_law_choice") rfl)) (by decide +kernel) rfl rfl s_law_choice rfl rfl rfl (fx_law_choice M) fun _ _ _ _ _ _ us hl => match us, hl with | [_, _], _ => rfl
theorem fx_law_order (M : Md K mg h) : Facts P w K mg base c_law_order := ⟨all_cons ((has_law_take M).mono (by decide)) (all_nil), all_nil, all_nil, blts M⟩
theorem has_law_order (M : Md K mg h) : Has P w K mg base "_law_order" 2 2 f_law_order := by
  obtain ⟨fd, F⟩ := M.c.def_ 39 (d := mkD "_law_order" 52) rfl
  exact has_mk (ps := ["bag", "many"]) (Γ := c_law_order) F (He.glo_ok M.x M.g (M.c.fact 39 (f := .glo "_law_order") rfl)) (by decide +kernel) rfl rfl s_law_order rfl rfl rfl (fx_law_order M) fun _ _ _ _ _ _ us hl => match us, hl with | [_, _], _ => rfl
theorem fx_law_moved (M : Md K mg h) : Facts P w K mg base c_law_moved := ⟨all_cons ((has_law_named M).mono (by decide)) (all_nil), all_nil, all_nil, blts M⟩
theorem has_law_moved (M : Md K mg h) : Has P w K mg base "_law_moved" 3 2 f_law_moved := by
  obtain ⟨fd, F⟩ := M.c.def_ 41 (d := mkD "_law_moved" 54) rfl
  exact has_mk (ps := ["one", "order", "lots_order"]) (Γ := c_law_moved) F (He.glo_ok M.x M.g (M.c.fact 41 (f := .glo "_law_moved") rfl)) (by decide +kernel) rfl rfl s_law_moved rfl rfl rfl (fx_law_moved M) fun _ _ _ _ _ _ us hl => match us, hl with | [_, _, _], _ => rfl
theorem fx_fits_plan (M : Md K mg h) : Facts P w K mg base c_fits_plan := ⟨all_cons ((has_is_rising M).mono (by decide)) (all_cons ((has_is_whole M).mono (by decide)) (all_nil)), all_cons (He.int_ok M.x M.g (M.c.fact 61 (f := .int "LOTS" 10) rfl)) (all_cons (He.int_ok M.x M.g (M.c.fact 62 (f := .int "THINGS" 10) rfl)) (all_nil)), all_nil, blts M⟩
theorem has_fits_plan (M : Md K mg h) : Has P w K mg base "fits_plan" 1 3 f_fits_plan := by
  obtain ⟨fd, F⟩ := M.c.def_ 2 (d := mkD "fits_plan" 11) rfl
  exact has_mk (ps := ["value"]) (Γ := c_fits_plan) F (He.glo_ok M.x M.g (M.c.fact 2 (f := .glo "fits_plan") rfl)) (by decide +kernel) rfl rfl s_fits_plan rfl rfl rfl (fx_fits_plan M) fun _ _ _ _ _ _ us hl => match us, hl with | [_], _ => rfl
theorem fx_need_case (M : Md K mg h) : Facts P w K mg base c_need_case := ⟨all_cons ((has_is_rising M).mono (by decide)) (all_nil), all_nil, all_cons ⟨M.c.fact 63 (f := .exc "InvalidCase") rfl, He.glo_ok M.x M.g (M.c.fact 64 (f := .glo "InvalidCase") rfl)⟩ (all_nil), blts M⟩
theorem has_need_case (M : Md K mg h) : Has P w K mg base "need_case" 2 3 f_need_case := by
  obtain ⟨fd, F⟩ := M.c.def_ 4 (d := mkD "need_case" 13) rfl
  exact has_mk (ps := ["plan", "value"]) (Γ := c_need_case) F (He.glo_ok M.x M.g (M.c.fact 4 (f := .glo "need_case") rfl)) (by decide +kernel) rfl rfl s_need_case rfl rfl rfl (fx_need_case M) fun _ _ _ _ _ _ us hl => match us, hl with | [_, _], _ => rfl
theorem fx_need_view (M : Md K mg h) : Facts P w K mg base c_need_view := ⟨all_cons ((has_is_rising M).mono (by decide)) (all_nil), all_nil, all_cons ⟨M.c.fact 69 (f := .exc "InvalidView") rfl, He.glo_ok M.x M.g (M.c.fact 70 (f := .glo "InvalidView") rfl)⟩ (all_nil), blts M⟩
theorem has_need_view (M : Md K mg h) : Has P w K mg base "need_view" 2 3 f_need_view := by
  obtain ⟨fd, F⟩ := M.c.def_ 5 (d := mkD "need_view" 14) rfl
  exact has_mk (ps := ["many", "value"]) (Γ := c_need_view) F (He.glo_ok M.x M.g (M.c.fact 5 (f := .glo "need_view") rfl)) (by decide +kernel) rfl rfl s_need_view rfl rfl rfl (fx_need_view M) fun _ _ _ _ _ _ us hl => match us, hl with | [_, _], _ => rfl
theorem fx_hidden_in (M : Md K mg h) : Facts P w K mg base c_hidden_in := ⟨all_cons ((has_others_of M).mono (by decide)) (all_cons ((has_left_of M).mono (by decide)) (all_nil)), all_nil, all_nil, blts M⟩
theorem has_hidden_in (M : Md K mg h) : Has P w K mg base "hidden_in" 2 3 f_hidden_in := by
  obtain ⟨fd, F⟩ := M.c.def_ 14 (d := mkD "hidden_in" 24) rfl
  exact has_mk (ps := ["plan", "most"]) (Γ := c_hidden_in) F (He.glo_ok M.x M.g (M.c.fact 14 (f := .glo "hidden_in") rfl)) (by decide +kernel) rfl rfl s_hidden_in rfl rfl rfl (fx_hidden_in M) fun _ _ _ _ _ _ us hl => match us, hl with | [_, _], _ => rfl
theorem fx_first_alike (M : Md K mg h) : Facts P w K mg base c_first_alike := ⟨all_cons ((has_views_of M).mono (by decide)) (all_nil), all_nil, all_nil, blts M⟩
theorem has_first_alike (M : Md K mg h) : Has P w K mg base "first_alike" 2 3 f_first_alike := by
  obtain ⟨fd, F⟩ := M.c.def_ 22 (d := mkD "first_alike" 33) rfl
  exact has_mk (ps := ["plan", "most"]) (Γ := c_first_alike) F (He.glo_ok M.x M.g (M.c.fact 22 (f := .glo "first_alike") rfl)) (by decide +kernel) rfl rfl s_first_alike rfl rfl rfl (fx_first_alike M) fun _ _ _ _ _ _ us hl => match us, hl with | [_, _], _ => rfl
theorem fx_gap_of (M : Md K mg h) : Facts P w K mg base c_gap_of := ⟨all_cons ((has_apart M).mono (by decide)) (all_cons ((has_views_of M).mono (by decide)) (all_nil)), all_nil, all_nil, blts M⟩
theorem has_gap_of (M : Md K mg h) : Has P w K mg base "gap_of" 2 3 f_gap_of := by
  obtain ⟨fd, F⟩ := M.c.def_ 24 (d := mkD "gap_of" 35) rfl
  exact has_mk (ps := ["plan", "most"]) (Γ := c_gap_of) F (He.glo_ok M.x M.g (M.c.fact 24 (f := .glo "gap_of") rfl)) (by decide +kernel) rfl rfl s_gap_of rfl rfl rfl (fx_gap_of M) fun _ _ _ _ _ _ us hl => match us, hl with | [_, _], _ => rfl
theorem fx_law_bag (M : Md K mg h) : Facts P w K mg base c_law_bag := ⟨all_cons ((has_law_draws M).mono (by decide)) (all_nil), all_nil, all_nil, blts M⟩
theorem has_law_bag (M : Md K mg h) : Has P w K mg base "_law_bag" 2 3 f_law_bag := by
  obtain ⟨fd, F⟩ := M.c.def_ 34 (d := mkD "_law_bag" 46) rfl
  exact has_mk (ps := ["script", "k"]) (Γ := c_law_bag) F (He.glo_ok M.x M.g (M.c.fact 34 (f := .glo "_law_bag") rfl)) (by decide +kernel) rfl rfl s_law_bag rfl rfl rfl (fx_law_bag M) fun _ _ _ _ _ _ us hl => match us, hl with | [_, _], _ => rfl
theorem fx_law_plan (M : Md K mg h) : Facts P w K mg base c_law_plan := ⟨all_cons ((has_law_take M).mono (by decide)) (all_cons ((has_law_choice M).mono (by decide)) (all_nil)), all_nil, all_nil, blts M⟩
theorem has_law_plan (M : Md K mg h) : Has P w K mg base "_law_plan" 3 3 f_law_plan := by
  obtain ⟨fd, F⟩ := M.c.def_ 38 (d := mkD "_law_plan" 50) rfl
  exact has_mk (ps := ["bag", "things", "lots_so"]) (Γ := c_law_plan) F (He.glo_ok M.x M.g (M.c.fact 38 (f := .glo "_law_plan") rfl)) (by decide +kernel) rfl rfl s_law_plan rfl rfl rfl (fx_law_plan M) fun _ _ _ _ _ _ us hl => match us, hl with | [_, _, _], _ => rfl
theorem fx_need_plan (M : Md K mg h) : Facts P w K mg base c_need_plan := ⟨all_cons ((has_fits_plan M).mono (by decide)) (all_nil), all_nil, all_cons ⟨M.c.fact 67 (f := .exc "InvalidPlan") rfl, He.glo_ok M.x M.g (M.c.fact 68 (f := .glo "InvalidPlan") rfl)⟩ (all_nil), blts M⟩
theorem has_need_plan (M : Md K mg h) : Has P w K mg base "need_plan" 1 4 f_need_plan := by
  obtain ⟨fd, F⟩ := M.c.def_ 3 (d := mkD "need_plan" 12) rfl
  exact has_mk (ps := ["value"]) (Γ := c_need_plan) F (He.glo_ok M.x M.g (M.c.fact 3 (f := .glo "need_plan") rfl)) (by decide +kernel) rfl rfl s_need_plan rfl rfl rfl (fx_need_plan M) fun _ _ _ _ _ _ us hl => match us, hl with | [_], _ => rfl
theorem fx_is_read (M : Md K mg h) : Facts P w K mg base c_is_read := ⟨all_cons ((has_hidden_in M).mono (by decide)) (all_nil), all_nil, all_nil, blts M⟩
theorem has_is_read (M : Md K mg h) : Has P w K mg base "is_read" 2 4 f_is_read := by
  obtain ⟨fd, F⟩ := M.c.def_ 15 (d := mkD "is_read" 25) rfl
  exact has_mk (ps := ["plan", "most"]) (Γ := c_is_read) F (He.glo_ok M.x M.g (M.c.fact 15 (f := .glo "is_read") rfl)) (by decide +kernel) rfl rfl s_is_read rfl rfl rfl (fx_is_read M) fun _ _ _ _ _ _ us hl => match us, hl with | [_, _], _ => rfl
theorem fx_shown (M : Md K mg h) : Facts P w K mg base c_shown := ⟨all_cons ((has_view_of M).mono (by decide)) (all_cons ((has_need_case M).mono (by decide)) (all_cons ((has_need_plan M).mono (by decide)) (all_nil))), all_nil, all_nil, blts M⟩
theorem has_shown (M : Md K mg h) : Has P w K mg base "shown" 2 5 f_shown := by
  obtain ⟨fd, F⟩ := M.c.def_ 10 (d := mkD "shown" 19) rfl
  exact has_mk (ps := ["plan", "case"]) (Γ := c_shown) F (He.glo_ok M.x M.g (M.c.fact 10 (f := .glo "shown") rfl)) (by decide +kernel) rfl rfl s_shown rfl rfl rfl (fx_shown M) fun _ _ _ _ _ _ us hl => match us, hl with | [_, _], _ => rfl
theorem fx_suspects (M : Md K mg h) : Facts P w K mg base c_suspects := ⟨all_cons ((has_lots_of M).mono (by decide)) (all_cons ((has_need_view M).mono (by decide)) (all_cons ((has_need_plan M).mono (by decide)) (all_nil))), all_nil, all_nil, blts M⟩
theorem has_suspects (M : Md K mg h) : Has P w K mg base "suspects" 2 5 f_suspects := by
  obtain ⟨fd, F⟩ := M.c.def_ 11 (d := mkD "suspects" 20) rfl
  exact has_mk (ps := ["plan", "view"]) (Γ := c_suspects) F (He.glo_ok M.x M.g (M.c.fact 11 (f := .glo "suspects") rfl)) (by decide +kernel) rfl rfl s_suspects rfl rfl rfl (fx_suspects M) fun _ _ _ _ _ _ us hl => match us, hl with | [_, _], _ => rfl
theorem fx_need_both (M : Md K mg h) : Facts P w K mg base c_need_both := ⟨all_cons ((has_need_number M).mono (by decide)) (all_cons ((has_need_plan M).mono (by decide)) (all_nil)), all_nil, all_nil, blts M⟩
theorem has_need_both (M : Md K mg h) : Has P w K mg base "need_both" 2 5 f_need_both := by
  obtain ⟨fd, F⟩ := M.c.def_ 16 (d := mkD "need_both" 26) rfl
  exact has_mk (ps := ["plan", "most"]) (Γ := c_need_both) F (He.glo_ok M.x M.g (M.c.fact 16 (f := .glo "need_both") rfl)) (by decide +kernel) rfl rfl s_need_both rfl rfl rfl (fx_need_both M) fun _ _ _ _ _ _ us hl => match us, hl with | [_, _], _ => rfl
theorem fx_most_read (M : Md K mg h) : Facts P w K mg base c_most_read := ⟨all_cons ((has_is_read M).mono (by decide)) (all_cons ((has_need_plan M).mono (by decide)) (all_nil)), all_nil, all_nil, blts M⟩
theorem has_most_read (M : Md K mg h) : Has P w K mg base "most_read" 1 5 f_most_read := by
  obtain ⟨fd, F⟩ := M.c.def_ 19 (d := mkD "most_read" 29) rfl
  exact has_mk (ps := ["plan"]) (Γ := c_most_read) F (He.glo_ok M.x M.g (M.c.fact 19 (f := .glo "most_read") rfl)) (by decide +kernel) rfl rfl s_most_read rfl rfl rfl (fx_most_read M) fun _ _ _ _ _ _ us hl => match us, hl with | [_], _ => rfl
theorem fx_most_told (M : Md K mg h) : Facts P w K mg base c_most_told := ⟨all_cons ((has_first_alike M).mono (by decide)) (all_cons ((has_need_plan M).mono (by decide)) (all_nil)), all_nil, all_nil, blts M⟩
theorem has_most_told (M : Md K mg h) : Has P w K mg base "most_told" 1 5 f_most_told := by
  obtain ⟨fd, F⟩ := M.c.def_ 27 (d := mkD "most_told" 38) rfl
  exact has_mk (ps := ["plan"]) (Γ := c_most_told) F (He.glo_ok M.x M.g (M.c.fact 27 (f := .glo "most_told") rfl)) (by decide +kernel) rfl rfl s_most_told rfl rfl rfl (fx_most_told M) fun _ _ _ _ _ _ us hl => match us, hl with | [_], _ => rfl
theorem fx_cases_for (M : Md K mg h) : Facts P w K mg base c_cases_for := ⟨all_cons ((has_views_of M).mono (by decide)) (all_cons ((has_need_number M).mono (by decide)) (all_cons ((has_need_view M).mono (by decide)) (all_cons ((has_need_plan M).mono (by decide)) (all_nil)))), all_nil, all_nil, blts M⟩
theorem has_cases_for (M : Md K mg h) : Has P w K mg base "cases_for" 3 5 f_cases_for := by
  obtain ⟨fd, F⟩ := M.c.def_ 28 (d := mkD "cases_for" 39) rfl
  exact has_mk (ps := ["plan", "view", "most"]) (Γ := c_cases_for) F (He.glo_ok M.x M.g (M.c.fact 28 (f := .glo "cases_for") rfl)) (by decide +kernel) rfl rfl s_cases_for rfl rfl rfl (fx_cases_for M) fun _ _ _ _ _ _ us hl => match us, hl with | [_, _, _], _ => rfl
theorem fx_gap (M : Md K mg h) : Facts P w K mg base c_gap := ⟨all_cons ((has_gap_of M).mono (by decide)) (all_cons ((has_need_number M).mono (by decide)) (all_cons ((has_need_plan M).mono (by decide)) (all_nil))), all_nil, all_nil, blts M⟩
theorem has_gap (M : Md K mg h) : Has P w K mg base "gap" 2 5 f_gap := by
  obtain ⟨fd, F⟩ := M.c.def_ 29 (d := mkD "gap" 40) rfl
  exact has_mk (ps := ["plan", "most"]) (Γ := c_gap) F (He.glo_ok M.x M.g (M.c.fact 29 (f := .glo "gap") rfl)) (by decide +kernel) rfl rfl s_gap rfl rfl rfl (fx_gap M) fun _ _ _ _ _ _ us hl => match us, hl with | [_, _], _ => rfl
theorem fx_mends (M : Md K mg h) : Facts P w K mg base c_mends := ⟨all_cons ((has_gap_of M).mono (by decide)) (all_cons ((has_need_number M).mono (by decide)) (all_cons ((has_need_plan M).mono (by decide)) (all_nil))), all_nil, all_nil, blts M⟩
theorem has_mends (M : Md K mg h) : Has P w K mg base "mends" 2 5 f_mends := by
  obtain ⟨fd, F⟩ := M.c.def_ 30 (d := mkD "mends" 41) rfl
  exact has_mk (ps := ["plan", "most"]) (Γ := c_mends) F (He.glo_ok M.x M.g (M.c.fact 30 (f := .glo "mends") rfl)) (by decide +kernel) rfl rfl s_mends rfl rfl rfl (fx_mends M) fun _ _ _ _ _ _ us hl => match us, hl with | [_, _], _ => rfl
theorem fx_nearest (M : Md K mg h) : Facts P w K mg base c_nearest := ⟨all_cons ((has_views_of M).mono (by decide)) (all_cons ((has_apart M).mono (by decide)) (all_cons ((has_need_number M).mono (by decide)) (all_cons ((has_need_view M).mono (by decide)) (all_cons ((has_need_plan M).mono (by decide)) (all_nil))))), all_nil, all_nil, blts M⟩
theorem has_nearest (M : Md K mg h) : Has P w K mg base "nearest" 3 5 f_nearest := by
  obtain ⟨fd, F⟩ := M.c.def_ 31 (d := mkD "nearest" 42) rfl
  exact has_mk (ps := ["plan", "view", "most"]) (Γ := c_nearest) F (He.glo_ok M.x M.g (M.c.fact 31 (f := .glo "nearest") rfl)) (by decide +kernel) rfl rfl s_nearest rfl rfl rfl (fx_nearest M) fun _ _ _ _ _ _ us hl => match us, hl with | [_, _, _], _ => rfl
theorem fx_reads (M : Md K mg h) : Facts P w K mg base c_reads := ⟨all_cons ((has_is_read M).mono (by decide)) (all_cons ((has_need_both M).mono (by decide)) (all_nil)), all_nil, all_nil, blts M⟩
theorem has_reads (M : Md K mg h) : Has P w K mg base "reads" 2 6 f_reads := by
  obtain ⟨fd, F⟩ := M.c.def_ 17 (d := mkD "reads" 27) rfl
  exact has_mk (ps := ["plan", "most"]) (Γ := c_reads) F (He.glo_ok M.x M.g (M.c.fact 17 (f := .glo "reads") rfl)) (by decide +kernel) rfl rfl s_reads rfl rfl rfl (fx_reads M) fun _ _ _ _ _ _ us hl => match us, hl with | [_, _], _ => rfl
theorem fx_hidden (M : Md K mg h) : Facts P w K mg base c_hidden := ⟨all_cons ((has_hidden_in M).mono (by decide)) (all_cons ((has_need_both M).mono (by decide)) (all_nil)), all_nil, all_nil, blts M⟩
theorem has_hidden (M : Md K mg h) : Has P w K mg base "hidden" 2 6 f_hidden := by
  obtain ⟨fd, F⟩ := M.c.def_ 18 (d := mkD "hidden" 28) rfl
  exact has_mk (ps := ["plan", "most"]) (Γ := c_hidden) F (He.glo_ok M.x M.g (M.c.fact 18 (f := .glo "hidden") rfl)) (by decide +kernel) rfl rfl s_hidden rfl rfl rfl (fx_hidden M) fun _ _ _ _ _ _ us hl => match us, hl with | [_, _], _ => rfl
theorem fx_margin (M : Md K mg h) : Facts P w K mg base c_margin := ⟨all_cons ((has_others_of M).mono (by decide)) (all_cons ((has_left_of M).mono (by decide)) (all_cons ((has_need_both M).mono (by decide)) (all_nil))), all_nil, all_nil, blts M⟩
theorem has_margin (M : Md K mg h) : Has P w K mg base "margin" 2 6 f_margin := by
  obtain ⟨fd, F⟩ := M.c.def_ 20 (d := mkD "margin" 30) rfl
  exact has_mk (ps := ["plan", "most"]) (Γ := c_margin) F (He.glo_ok M.x M.g (M.c.fact 20 (f := .glo "margin") rfl)) (by decide +kernel) rfl rfl s_margin rfl rfl rfl (fx_margin M) fun _ _ _ _ _ _ us hl => match us, hl with | [_, _], _ => rfl
theorem fx_tells (M : Md K mg h) : Facts P w K mg base c_tells := ⟨all_cons ((has_first_alike M).mono (by decide)) (all_cons ((has_need_both M).mono (by decide)) (all_nil)), all_nil, all_nil, blts M⟩
theorem has_tells (M : Md K mg h) : Has P w K mg base "tells" 2 6 f_tells := by
  obtain ⟨fd, F⟩ := M.c.def_ 25 (d := mkD "tells" 36) rfl
  exact has_mk (ps := ["plan", "most"]) (Γ := c_tells) F (He.glo_ok M.x M.g (M.c.fact 25 (f := .glo "tells") rfl)) (by decide +kernel) rfl rfl s_tells rfl rfl rfl (fx_tells M) fun _ _ _ _ _ _ us hl => match us, hl with | [_, _], _ => rfl
theorem fx_alike_pair (M : Md K mg h) : Facts P w K mg base c_alike_pair := ⟨all_cons ((has_first_alike M).mono (by decide)) (all_cons ((has_need_both M).mono (by decide)) (all_nil)), all_nil, all_nil, blts M⟩
theorem has_alike_pair (M : Md K mg h) : Has P w K mg base "alike_pair" 2 6 f_alike_pair := by
  obtain ⟨fd, F⟩ := M.c.def_ 26 (d := mkD "alike_pair" 37) rfl
  exact has_mk (ps := ["plan", "most"]) (Γ := c_alike_pair) F (He.glo_ok M.x M.g (M.c.fact 26 (f := .glo "alike_pair") rfl)) (by decide +kernel) rfl rfl s_alike_pair rfl rfl rfl (fx_alike_pair M) fun _ _ _ _ _ _ us hl => match us, hl with | [_, _], _ => rfl
theorem fx_law_same_right (M : Md K mg h) : Facts P w K mg base c_law_same_right := ⟨all_cons ((has_nearest M).mono (by decide)) (all_cons ((has_law_named M).mono (by decide)) (all_cons ((has_cases_for M).mono (by decide)) (all_cons ((has_suspects M).mono (by decide)) (all_cons ((has_shown M).mono (by decide)) (all_cons ((has_law_seen_there M).mono (by decide)) (all_cons ((has_law_take M).mono (by decide)) (all_cons ((has_mends M).mono (by decide)) (all_cons ((has_gap M).mono (by decide)) (all_cons ((has_margin M).mono (by decide)) (all_cons ((has_alike_pair M).mono (by decide)) (all_cons ((has_tells M).mono (by decide)) (all_cons ((has_hidden M).mono (by decide)) (all_cons ((has_reads M).mono (by decide)) (all_cons ((has_most_read M).mono (by decide)) (all_cons ((has_most_told M).mono (by decide)) (all_cons ((has_law_moved M).mono (by decide)) (all_nil))))))))))))))))), all_nil, all_nil, blts M⟩
theorem has_law_same_right (M : Md K mg h) : Has P w K mg base "_law_same_right" 4 7 f_law_same_right := by
  obtain ⟨fd, F⟩ := M.c.def_ 43 (d := mkD "_law_same_right" 56) rfl
  exact has_mk (ps := ["bag", "one", "order", "lots_order"]) (Γ := c_law_same_right) F (He.glo_ok M.x M.g (M.c.fact 43 (f := .glo "_law_same_right") rfl)) (by decide +kernel) rfl rfl s_law_same_right rfl rfl rfl (fx_law_same_right M) fun _ _ _ _ _ _ us hl => match us, hl with | [_, _, _, _], _ => rfl
theorem fx_law (M : Md K mg h) : Facts P w K mg base c_law := ⟨all_cons ((has_most_told M).mono (by decide)) (all_cons ((has_cases_for M).mono (by decide)) (all_cons ((has_law_moved M).mono (by decide)) (all_cons ((has_hidden M).mono (by decide)) (all_cons ((has_law_known M).mono (by decide)) (all_cons ((has_law_same_right M).mono (by decide)) (all_cons ((has_law_order M).mono (by decide)) (all_cons ((has_law_plan M).mono (by decide)) (all_cons ((has_law_bag M).mono (by decide)) (all_nil))))))))), all_nil, all_nil, blts M⟩
theorem has_law (M : Md K mg h) : Has P w K mg base "law" 1 8 f_law := by
  obtain ⟨fd, F⟩ := M.c.def_ 44 (d := mkD "law" 57) rfl
  exact has_mk (ps := ["script"]) (Γ := c_law) F (He.glo_ok M.x M.g (M.c.fact 44 (f := .glo "law") rfl)) (by decide +kernel) rfl rfl s_law rfl rfl rfl (fx_law M) fun _ _ _ _ _ _ us hl => match us, hl with | [_], _ => rfl
end
end K12
set_option Elab.async false
set_option linter.all false
set_option maxRecDepth 100000
set_option maxHeartbeats 4000000
namespace K12
open PySem Ip Lots Lw

theorem bag_ok {s : List Int} {k : Nat} (hk : k ≤ 1000) (hs : s.length ≤ 1000) (st : Sto) : ∃ ns : List Int, f_law_bag [.scr (s.map D.int), dI k] st = .ok (.ref st.length) (st ++ [dZ ns]) := by
  obtain ⟨ns, _, e⟩ := law_draws_ok (s := s) (k := k) (many := 150) (base := 27720) hk hs (by decide) (by decide) (by decide) st
  have e' : f_law_draws [.scr (s.map D.int), .int (k : Int), .int 150, .int 27720] st = .ok (.ref st.length) (st ++ [dZ ns]) := e
  exact ⟨ns, by simp [f_law_bag, b_law_bag, e']⟩
/-- small plans -/
structure Plan (a b : Nat) (p : Pl) : Prop where
  ok : OkP p
  things : p.1 ≤ a
  lots : p.2.length ≤ b
theorem asc_of_sub {m : Nat} {l : List Nat} (h : l.Sublist (List.range m)) : Asc m l :=
  ⟨List.pairwise_lt_range.sublist h, fun x hx => List.mem_range.mp (h.subset hx)⟩
theorem oAdd_lots {st : Sto} {a : List (List Nat)} {l : List Nat} (h : a.length ≤ 1000) : oAdd st (.tup (a.map dL)) (.tup [dL l]) = some (.tup ((a ++ [l]).map dL)) := by
  simp only [oAdd, List.length_map, List.length_singleton]
  rw [if_pos (by omega), List.map_append]
  rfl
theorem plan_ok {b a c : Nat} {st : Sto} (h : Bag b st) (ha : 0 < a) (ha10 : a ≤ 10) (hc : c ≤ 10) : ∃ p st', Plan a c p ∧ Drw b st st' ∧ f_law_plan [.ref b, dI a, dI c] st = .ok (dP p) st' := by
  obtain ⟨t0, st1, ht0, d1, e1⟩ := law_take_ok (m := a) h ha
  have h1 := d1.bag h
  obtain ⟨tc, st2, d, hd, d2, e2⟩ := law_choice_ok (xs := [dI 2, dI 2, dI 3]) h1 (by simp)
  have h2 := d2.bag h1
  obtain ⟨fw, hfw, rfl⟩ : ∃ fw : Nat, 0 < fw ∧ d = dI fw := by
    match tc, hd with
    | 0, hd => exact ⟨2, by decide, by simpa using hd.symm⟩
    | 1, hd => exact ⟨2, by decide, by simpa using hd.symm⟩
    | 2, hd => exact ⟨3, by decide, by simpa using hd.symm⟩
    | n + 3, hd => simp at hd
  obtain ⟨m, hm⟩ : ∃ m, m = t0 + 1 := ⟨_, rfl⟩
  obtain ⟨n, st3, hn, d3, e3⟩ := law_take_ok (m := c + 1) h2 (by omega)
  have h3 := d3.bag h2
  have loop := forGo_ix (g := gN 6) (b := sCons (sSet 4 (evOp oAdd (evVar 4) (evTup (eaCons (evB bTuple (eaCons (evLc [7] (itR1 (eaCons (evVar 3) eaNil)) (gN 7) (ebOf (evOp oEq (evCall 2 f_law_take (eaCons (evVar 0) (eaCons (evVar 5) eaNil))) (evC (.int 0)))) (evVar 7)) eaNil)) eaNil)))) sNil) dI
    (fun i ρ st' => ∃ (lots : List (List Nat)) (o6 o7 : Option D), lots.length = i ∧ (∀ l ∈ lots, Asc m l) ∧ Drw b st3 st' ∧ ρ = [some (.ref b), some (dI a), some (dI c), some (dI m), some (.tup (lots.map dL)), some (dI fw), o6, o7])
    (List.range n) 0 [some (.ref b), some (dI a), some (dI c), some (dI m), some (.tup []), some (dI fw), none, none] st3 ⟨[], none, none, rfl, (fun _ h => nomatch h), h3.refl, rfl⟩ (fun i x ρ st' hx hI => by
      obtain ⟨lots, o6, o7, hl, hasc, hdr, rfl⟩ := hI
      obtain ⟨hi, rfl⟩ := List.getElem?_eq_some_iff.mp hx
      rw [List.length_range] at hi
      rw [List.getElem_range]
      rw [Nat.zero_add] at hl ⊢
      have hb := hdr.bag h3
      obtain ⟨ys, st'', hsub, hd'', el⟩ := evLc_drw (b := b) (vs := [7]) (it := itR1 (eaCons (evVar 3) eaNil)) (g := gN 7) (t := ebOf (evOp oEq (evCall 2 f_law_take (eaCons (evVar 0) (eaCons (evVar 5) eaNil))) (evC (.int 0)))) (e := evVar 7)
        (ρ := [some (.ref b), some (dI a), some (dI c), some (dI m), some (.tup (lots.map dL)), some (dI fw), some (dI i), o7]) (st := st') dI (List.range m) (by simp [kIR1_nat (j := m) (by omega)]) (by simp; omega) hb (fun x _ st hb => by
          obtain ⟨t, st1, ht, hdr, et⟩ := law_take_ok (m := fw) hb hfw
          refine ⟨_, decide ((t : Int) = 0), st1, rfl, ?_, hdr, by simp⟩
          simp [et])
      refine ⟨_, [some (.ref b), some (dI a), some (dI c), some (dI m), some (.tup ((lots ++ [ys]).map dL)), some (dI fw), some (dI i), o7], st'', rfl, ?_, lots ++ [ys], some (dI i), o7, by simp [hl], fun l hl => ?_, hdr.trans hd'', rfl⟩
      · have dl : D.tup (ys.map dI) = dL ys := rfl
        have ap := oAdd_lots (st := st'') (a := lots) (l := ys) (by omega)
        have tl : evB bTuple (eaCons (evLc [7] (itR1 (eaCons (evVar 3) eaNil)) (gN 7) (ebOf (evOp oEq (evCall 2 f_law_take (eaCons (evVar 0) (eaCons (evVar 5) eaNil))) (evC (.int 0)))) (evVar 7)) eaNil) [some (.ref b), some (dI a), some (dI c), some (dI m), some (.tup (lots.map dL)), some (dI fw), some (dI i), o7] st' = .ok (dL ys) st'' := by
          rw [evB_ap, eaCons_ap, el]
          rfl
        generalize (lots ++ [ys]).map dL = L at ap ⊢
        simp [tl, ap]
      · rcases List.mem_append.mp hl with hl | hl
        · exact hasc l hl
        · rw [List.mem_singleton.mp hl]
          exact asc_of_sub hsub)
  obtain ⟨ρ', st', el, lots, o6, o7, hl, hasc, hdr, rfl⟩ := loop
  rw [Nat.zero_add, List.length_range] at hl
  refine ⟨(m, lots), st', ⟨⟨by show 1 ≤ m; omega, by show m ≤ 10; omega, by show lots.length ≤ 10; omega, hasc⟩, by show m ≤ a; omega, by show lots.length ≤ c; omega⟩, ((d1.trans d2).trans d3).trans hdr, ?_⟩
  have rg : kIR1 [dI n] st3 = _ := kIR1_nat (by omega)
  have e3' : f_law_take [.ref b, .int ((c : Int) + 1)] st2 = .ok (dI n) st3 := e3
  have e2' : f_law_choice [.ref b, .lst [.int 2, .int 2, .int 3]] st1 = .ok (dI fw) st2 := e2
  have a1 : (1 : Int) + (t0 : Int) = (m : Int) := by omega
  have len : st'.length = st.length := (((d1.trans d2).trans d3).trans hdr).len
  have el' : forGo (gN 6) (sCons (sSet 4 (evOp oAdd (evVar 4) (evTup (eaCons (evB bTuple (eaCons (evLc [7] (itR1 (eaCons (evVar 3) eaNil)) (gN 7) (ebOf (evOp oEq (evCall 2 f_law_take (eaCons (evVar 0) (eaCons (evVar 5) eaNil))) (evC (.int 0)))) (evVar 7)) eaNil)) eaNil)))) sNil) ((List.range n).map dI) [some (.ref b), some (dI a), some (dI c), some (.int ((1 : Int) + (t0 : Int))), some (.tup []), some (dI fw), none, none] st3 = .nx [some (.ref b), some (dI a), some (dI c), some (.int ((1 : Int) + (t0 : Int))), some (.tup (lots.map dL)), some (dI fw), o6, o7] st' := by
    rw [a1]; exact el
  simp [f_law_plan, b_law_plan, e1, e2', e3', rg, el', fnEnd_rt_of len]
  show D.tup [.int ((1 : Int) + (t0 : Int)), .tup (lots.map dL)] = dP (m, lots)
  rw [a1]
  rfl

/-! ### an order that is drawn -/
theorem dZ_nat (l : List Nat) : l.map dI = dZ (l.map fun (n : Nat) => (n : Int)) := by
  unfold dZ
  rw [List.map_map]
  rfl
theorem rfrees_ints (l : List Nat) : rfrees (l.map dI) = true := by
  induction l with
  | nil => rfl
  | cons n l ih => exact ih
theorem rfrees_dZ (l : List Int) : rfrees (dZ l) = true := by
  induction l with
  | nil => rfl
  | cons n l ih => exact ih
/-- no mutable list stands in the store's lists -/
def Fr (st : Sto) : Prop := st.all rfrees = true
theorem Drw.fr {b : Nat} {st st1 : Sto} (h : Drw b st st1) (f : Fr st) : Fr st1 := by
  obtain ⟨ns, rfl⟩ := h
  unfold Fr at *
  rw [List.all_eq_true] at *
  intro x hx
  rcases List.mem_or_eq_of_mem_set hx with h | h
  · exact f x h
  · rw [h]; exact rfrees_dZ ns
theorem map_erase {α β : Type} (f : α → β) : ∀ (l : List α) (i : Nat), (l.map f).eraseIdx i = (l.eraseIdx i).map f
  | [], _ => rfl
  | x :: l, 0 => rfl
  | x :: l, i + 1 => by simp [map_erase f l i]
theorem erase_perm : ∀ (l : List Nat) (i : Nat) (h : i < l.length), (l[i] :: l.eraseIdx i).Perm l
  | x :: l, 0, _ => .refl _
  | x :: l, i + 1, h => by
    have ih := erase_perm l i (by simpa using h)
    exact (List.Perm.swap x _ _).trans (ih.cons x)
theorem order_ok {b m : Nat} {st : Sto} (h : Bag b st) (hm : m ≤ 1000) (hf : Fr st) : ∃ (o : List Nat) (st' : Sto), o.Perm (List.range m) ∧ Drw b st st' ∧ f_law_order [.ref b, dI m] st = .ok (.lst (o.map dI)) st' := by
  obtain ⟨ms, hms⟩ := h
  have hb : b < st.length := (List.getElem?_eq_some_iff.mp hms).1
  have loop := whGo_ix (t := ebOf (evOp oNe (evVar 2) (evL (elDisp eaNil)))) (f := sCons (sExp (evMR mApp (evVar 3) (eaCons (evMR mPop (evVar 2) (eaCons (evCall 2 f_law_take (eaCons (evVar 0) (eaCons (evB bLen (eaCons (evVar 2) eaNil)) eaNil))) eaNil)) eaNil))) sNil)
    (fun i ρ st' => ∃ (lft fnd : List Nat) (ns : List Int), fnd.length = i ∧ lft.length = m - i ∧ (fnd ++ lft).Perm (List.range m) ∧ st' = (st.set b (dZ ns)) ++ [lft.map dI, fnd.map dI] ∧ ρ = [some (.ref b), some (dI m), some (.ref st.length), some (.ref (st.length + 1))])
    m 0 whN [some (.ref b), some (dI m), some (.ref st.length), some (.ref (st.length + 1))] (st ++ [(List.range m).map dI, []]) (by unfold whN; omega) ⟨List.range m, [], ms, rfl, by simp, by simp, by
      obtain ⟨hl, e⟩ := List.getElem?_eq_some_iff.mp hms
      rw [← e, List.set_getElem_self]
      rfl, rfl⟩ (fun i ρ st' hi _ hI => by
      obtain ⟨lft, fnd, ns, hfn, hlf, hp, rfl, rfl⟩ := hI
      have hs : (st.set b (dZ ns)).length = st.length := List.length_set
      have g0 : ((st.set b (dZ ns)) ++ [lft.map dI, fnd.map dI])[b]? = some (dZ ns) := by
        rw [List.getElem?_append_left (by omega), List.getElem?_set_self hb]
      have g1 : ((st.set b (dZ ns)) ++ [lft.map dI, fnd.map dI])[st.length]? = some (lft.map dI) := by
        rw [List.getElem?_append_right (by omega), hs, Nat.sub_self]
        rfl
      have ne := oNe_bag (b := st.length) (ns := lft.map fun (n : Nat) => (n : Int)) (g1.trans (by rw [dZ_nat]))
      have nn : decide ((lft.map fun (n : Nat) => (n : Int)) = []) = false := by
        rw [decide_eq_false_iff_not, List.map_eq_nil_iff]
        intro z
        rw [z] at hlf
        simp at hlf
        omega
      rw [nn] at ne
      obtain ⟨t, st2, ht, ⟨ns', rfl⟩, et⟩ := law_take_ok (m := lft.length) (st := (st.set b (dZ ns)) ++ [lft.map dI, fnd.map dI]) ⟨ns, g0⟩ (by omega)
      have s2 : ((st.set b (dZ ns)) ++ [lft.map dI, fnd.map dI]).set b (dZ ns') = (st.set b (dZ ns')) ++ [lft.map dI, fnd.map dI] := by
        rw [List.set_append_left _ _ (by omega), List.set_set]
      rw [s2] at et
      have hs' : (st.set b (dZ ns')).length = st.length := List.length_set
      have ln : bLen ((st.set b (dZ ns)) ++ [lft.map dI, fnd.map dI]) [.ref st.length] = some (.int (lft.length : Int)) := by
        show (items _ (.ref st.length)).map _ = _
        rw [items_ref, g1]
        simp
      have pp : mPop ((st.set b (dZ ns')) ++ [lft.map dI, fnd.map dI]) st.length [.int (t : Int)] = .ok (dI lft[t]) ((st.set b (dZ ns')) ++ [(lft.eraseIdx t).map dI, fnd.map dI]) := by
        have g : ((st.set b (dZ ns')) ++ [lft.map dI, fnd.map dI])[st.length]? = some (lft.map dI) := by
          rw [List.getElem?_append_right (by omega), hs', Nat.sub_self]
          rfl
        unfold mPop
        rw [g]
        dsimp only
        rw [if_pos (by omega)]
        have e1 : (lft.map dI)[(t : Int).toNat]? = some (dI lft[t]) := by
          rw [Int.toNat_natCast, List.getElem?_map, List.getElem?_eq_getElem ht]
          rfl
        rw [e1]
        dsimp only
        rw [List.set_append_right _ _ (by omega), hs', Nat.sub_self, Int.toNat_natCast, map_erase]
        rfl
      have ap : mApp ((st.set b (dZ ns')) ++ [(lft.eraseIdx t).map dI, fnd.map dI]) (st.length + 1) [dI lft[t]] = .ok .non ((st.set b (dZ ns')) ++ [(lft.eraseIdx t).map dI, (fnd ++ [lft[t]]).map dI]) := by
        have g : ((st.set b (dZ ns')) ++ [(lft.eraseIdx t).map dI, fnd.map dI])[st.length + 1]? = some (fnd.map dI) := by
          rw [List.getElem?_append_right (by omega), hs', show st.length + 1 - st.length = 1 by omega]
          rfl
        unfold mApp
        rw [g]
        dsimp only
        rw [if_pos (by rw [List.length_map]; omega), List.set_append_right _ _ (by omega), hs', show st.length + 1 - st.length = 1 by omega, List.map_append]
        rfl
      have et' : f_law_take [.ref b, .int (lft.length : Int)] ((st.set b (dZ ns)) ++ [lft.map dI, fnd.map dI]) = _ := et
      refine ⟨(st.set b (dZ ns)) ++ [lft.map dI, fnd.map dI], [some (.ref b), some (dI m), some (.ref st.length), some (.ref (st.length + 1))], (st.set b (dZ ns')) ++ [(lft.eraseIdx t).map dI, (fnd ++ [lft[t]]).map dI], ?_, ?_, lft.eraseIdx t, fnd ++ [lft[t]], ns', by simp [hfn], by rw [List.length_eraseIdx_of_lt ht]; omega, ?_, rfl, rfl⟩
      · generalize (st.set b (dZ ns)) ++ [lft.map dI, fnd.map dI] = sA at ne ⊢
        simp [ne]
      · generalize (st.set b (dZ ns)) ++ [lft.map dI, fnd.map dI] = sA at et' ln
        generalize (fnd ++ [lft[t]]).map dI = L at ap ⊢
        simp [ln, et', pp, ap]
      · refine List.Perm.trans ?_ hp
        rw [List.append_assoc]
        refine List.Perm.append_left fnd ?_
        exact erase_perm lft t ht)
    (fun ρ st' hI => by
      obtain ⟨lft, fnd, ns, hfn, hlf, hp, rfl, rfl⟩ := hI
      have hs : (st.set b (dZ ns)).length = st.length := List.length_set
      have z : lft = [] := List.length_eq_zero_iff.mp (by omega)
      subst z
      have g1 : ((st.set b (dZ ns)) ++ [([] : List Nat).map dI, fnd.map dI])[st.length]? = some (dZ []) := by
        rw [List.getElem?_append_right (by omega), hs, Nat.sub_self]
        rfl
      have ne := oNe_bag (b := st.length) (ns := []) g1
      refine ⟨_, ?_, rfl⟩
      have nn : decide (([] : List Int) = []) = true := rfl
      rw [nn] at ne
      generalize (st.set b (dZ ns)) ++ [([] : List Nat).map dI, fnd.map dI] = sA at ne ⊢
      simp [ne])
  obtain ⟨ρ', st', e1, lft, fnd, ns, hfn, hlf, hp, rfl, rfl⟩ := loop
  have hs : (st.set b (dZ ns)).length = st.length := List.length_set
  have z : lft = [] := List.length_eq_zero_iff.mp (by omega)
  subst z
  rw [List.append_nil] at hp
  refine ⟨fnd, st.set b (dZ ns), hp, ⟨ns, rfl⟩, ?_⟩
  have rg : kRg (dI m) st = .ok ((List.range m).map dI) st := by
    rw [kRg_0, if_pos (by omega), rng0]
    simp
  have fin : fnEnd false st.length (.rt (.ref (st.length + 1)) ((st.set b (dZ ns)) ++ [([] : List Nat).map dI, fnd.map dI])) = .ok (.lst (fnd.map dI)) (st.set b (dZ ns)) := by
    have hl : ((st.set b (dZ ns)) ++ [([] : List Nat).map dI, fnd.map dI]).length = st.length + 2 := by
      rw [List.length_append, hs]; rfl
    have cs : cutSt st.length ((st.set b (dZ ns)) ++ [([] : List Nat).map dI, fnd.map dI]) = some (st.set b (dZ ns)) := by
      unfold cutSt
      have tk : ((st.set b (dZ ns)) ++ [([] : List Nat).map dI, fnd.map dI]).take st.length = st.set b (dZ ns) := by
        rw [List.take_append_of_le_length (by omega), List.take_of_length_le (by omega)]
      have fr : (st.set b (dZ ns)).all rfrees = true := Drw.fr (b := b) ⟨ns, rfl⟩ hf
      rw [if_neg (by omega), tk, if_pos ⟨by omega, fr⟩]
    have cv : cutVal st.length ((st.set b (dZ ns)) ++ [([] : List Nat).map dI, fnd.map dI]) (.ref (st.length + 1)) = some (.lst (fnd.map dI)) := by
      unfold cutVal
      rw [if_neg (by omega)]
      dsimp only
      rw [if_neg (by omega), List.getElem?_append_right (by omega), hs, show st.length + 1 - st.length = 1 by omega]
      show (if rfrees (fnd.map dI) = true then some (D.lst (fnd.map dI)) else none) = _
      rw [rfrees_ints, if_pos rfl]
    unfold fnEnd
    dsimp only
    rw [cv, cs]
    rfl
  have s0 : sPar 2 3 (eaCons (evM (rg1' (evVar 1))) (eaCons (evM (elDisp eaNil)) eaNil)) [some (.ref b), some (dI m), none, none] st = .nx [some (.ref b), some (dI m), some (.ref st.length), some (.ref (st.length + 1))] (st ++ [(List.range m).map dI, []]) := by
    simp [rg]
  have e0 : sWhile whN (ebOf (evOp oNe (evVar 2) (evL (elDisp eaNil)))) (sCons (sExp (evMR mApp (evVar 3) (eaCons (evMR mPop (evVar 2) (eaCons (evCall 2 f_law_take (eaCons (evVar 0) (eaCons (evB bLen (eaCons (evVar 2) eaNil)) eaNil))) eaNil)) eaNil))) sNil) [some (.ref b), some (dI m), some (.ref st.length), some (.ref (st.length + 1))] (st ++ [(List.range m).map dI, []]) = _ := e1
  simp only [f_law_order, b_law_order, fnRun_ap, slots0_ap, sCons_ap, List.map_cons, List.map_nil, List.length_cons, List.length_nil, Nat.reduceAdd, Nat.reduceSub, List.replicate, List.cons_append, List.nil_append, s0, RS.seq_nx, e0, sRet_ap, evVar_ap, List.getElem?_cons_zero, List.getElem?_cons_succ, Ip.R.stm_ok, kRet_0, RS.seq_rt]
  exact fin
end K12
set_option Elab.async false
set_option linter.all false
set_option maxRecDepth 100000
set_option maxHeartbeats 4000000
namespace K12
open PySem Ip Lots Lw

/-! ### things called otherwise, lots in another order -/
def named (o c : List Nat) : List Nat := sortN (c.map fun t => o.getD t 0)
def moved (p : Pl) (o lo : List Nat) : Pl := (p.1, lo.map fun n => named o (p.2.getD n []))
def there (lo v : List Nat) : List Nat := sortN (v.map fun n => lo.idxOf n)
theorem named_ok {o c : List Nat} (hc : ∀ t ∈ c, t < o.length) (hl : c.length ≤ 1000) (st : Sto) : f_law_named [.lst (o.map dI), dL c] st = .ok (dL (named o c)) st := by
  have c1 : evLc [2] (itVal (evVar 1)) (gN 2) ebYes (evOp oIx (evVar 0) (evVar 2)) [some (.lst (o.map dI)), some (dL c), none] st = .ok (.lst ((c.map fun t => o.getD t 0).map dI)) st := by
    have := evLc_map (st := st) (vs := [2]) (it := itVal (evVar 1)) (g := gN 2) (e := evOp oIx (evVar 0) (evVar 2)) (ρ := [some (.lst (o.map dI)), some (dL c), none]) dI (fun t => dI (o.getD t 0)) c (by simp) (by omega) fun t ht => ⟨_, rfl, by
      have h := hc t ht
      have e : oIx st (.lst (o.map dI)) (.int (t : Int)) = some (dI (o.getD t 0)) := by
        show (some (o.map dI)).bind (fun xs => L2.atI xs (t : Int)) = _
        rw [Option.bind_some, atI_nat, List.getElem?_map, List.getElem?_eq_getElem h, List.getD_eq_getElem?_getD, List.getElem?_eq_getElem h]
        rfl
      simp [e]⟩
    rw [this, List.map_map]; rfl
  have d1 : evB bSorted (eaCons (evLc [2] (itVal (evVar 1)) (gN 2) ebYes (evOp oIx (evVar 0) (evVar 2))) eaNil) [some (.lst (o.map dI)), some (dL c), none] st = .ok (.lst ((named o c).map dI)) st := by
    rw [evB_ap, eaCons_ap, c1, Ip.R.bind_ok, kC2_0, eaNil_ap, Ip.R.bind_ok, kC3_0, Ip.R.bind_ok, kBf_0, bSorted_ints, Ip.R.lift_some]
    rfl
  have d2 := tupLc d1
  have e : D.tup ((named o c).map dI) = dL (named o c) := rfl
  rw [e] at d2
  simp [f_law_named, b_law_named, d2]
theorem named_len {o c : List Nat} : (named o c).length = c.length := by
  unfold named
  rw [(sortN_perm _).length_eq, List.length_map]
theorem moved_ok {p : Pl} {o lo : List Nat} (hp : OkP p) (ho : o.Perm (List.range p.1)) (hlo : lo.Perm (List.range p.2.length)) (st : Sto) : f_law_moved [dP p, .lst (o.map dI), .lst (lo.map dI)] st = .ok (dP (moved p o lo)) st := by
  have h10 := hp.lots
  have ht := hp.ten
  have hol : o.length = p.1 := by rw [ho.length_eq, List.length_range]
  have hll : lo.length = p.2.length := by rw [hlo.length_eq, List.length_range]
  have c1 : evLc [3] (itVal (evVar 2)) (gN 3) ebYes (evCall 2 f_law_named (eaCons (evVar 1) (eaCons (evOp oIx (evOp oIx (evVar 0) (evC (.int 1))) (evVar 3)) eaNil))) [some (dP p), some (.lst (o.map dI)), some (.lst (lo.map dI)), none] st = .ok (.lst ((lo.map fun n => named o (p.2.getD n [])).map dL)) st := by
    have := evLc_map (st := st) (vs := [3]) (it := itVal (evVar 2)) (g := gN 3) (e := evCall 2 f_law_named (eaCons (evVar 1) (eaCons (evOp oIx (evOp oIx (evVar 0) (evC (.int 1))) (evVar 3)) eaNil))) (ρ := [some (dP p), some (.lst (o.map dI)), some (.lst (lo.map dI)), none]) dI (fun n => dL (named o (p.2.getD n []))) lo (by simp) (by omega) fun n hn => ⟨_, rfl, by
      have hn : n < p.2.length := List.mem_range.mp (hlo.subset hn)
      have g : p.2.getD n [] = p.2[n] := by rw [List.getD_eq_getElem?_getD, List.getElem?_eq_getElem hn]; rfl
      have e : oIx st (.tup (p.2.map dL)) (.int (n : Int)) = some (dL (p.2.getD n [])) := by
        show (some (p.2.map dL)).bind (fun xs => L2.atI xs (n : Int)) = _
        rw [Option.bind_some, atI_nat, List.getElem?_map, List.getElem?_eq_getElem hn, g]
        rfl
      have ha := hp.asc p.2[n] (List.getElem_mem hn)
      have hl := ha.len
      have nm := named_ok (o := o) (c := p.2.getD n []) (by rw [g, hol]; exact ha.2) (by rw [g]; omega) st
      generalize p.2.getD n [] = q at e nm ⊢
      simp [e, nm]⟩
    rw [this, List.map_map]; rfl
  have d1 := tupLc c1
  have e : D.tup [dI p.1, .tup ((lo.map fun n => named o (p.2.getD n [])).map dL)] = dP (moved p o lo) := rfl
  generalize (lo.map fun n => named o (p.2.getD n [])).map dL = L at d1 e
  simp [f_law_moved, b_law_moved, d1]
  exact e
theorem findIdx_idxOf {n : Nat} : ∀ (l : List Nat), n ∈ l → (l.map dI).findIdx? (fun z => eqD z (dI n)) = some (l.idxOf n)
  | [], h => nomatch h
  | x :: l, h => by
    rw [List.map_cons, List.findIdx?_cons, List.idxOf_cons]
    by_cases hx : x = n
    · subst hx
      simp
    · have e1 : eqD (dI x) (dI n) = false := by
        rw [eqD_int, decide_eq_false_iff_not]
        omega
      have e2 : (x == n) = false := by simpa using hx
      rw [e1, e2]
      have ih := findIdx_idxOf l ((List.mem_cons.mp h).resolve_left fun z => hx z.symm)
      simp [ih]
theorem there_ok {lo v : List Nat} (hv : ∀ n ∈ v, n ∈ lo) (hl : v.length ≤ 1000) (st : Sto) : f_law_seen_there [.lst (lo.map dI), dL v] st = .ok (dL (there lo v)) st := by
  have c1 : evLc [2] (itVal (evVar 1)) (gN 2) ebYes (evML mIdx (evVar 0) (eaCons (evVar 2) eaNil)) [some (.lst (lo.map dI)), some (dL v), none] st = .ok (.lst ((v.map fun n => lo.idxOf n).map dI)) st := by
    have := evLc_map (st := st) (vs := [2]) (it := itVal (evVar 1)) (g := gN 2) (e := evML mIdx (evVar 0) (eaCons (evVar 2) eaNil)) (ρ := [some (.lst (lo.map dI)), some (dL v), none]) dI (fun n => dI (lo.idxOf n)) v (by simp) (by omega) fun n hn => ⟨_, rfl, by
      have e : mIdx st (lo.map dI) [.int (n : Int)] = .ok (dI (lo.idxOf n)) st := by
        unfold mIdx
        dsimp only
        rw [if_pos ⟨okD_intsL, rfl⟩]
        have := findIdx_idxOf lo (hv n hn)
        rw [this]
      simp [e]⟩
    rw [this, List.map_map]; rfl
  have d1 : evB bSorted (eaCons (evLc [2] (itVal (evVar 1)) (gN 2) ebYes (evML mIdx (evVar 0) (eaCons (evVar 2) eaNil))) eaNil) [some (.lst (lo.map dI)), some (dL v), none] st = .ok (.lst ((there lo v).map dI)) st := by
    rw [evB_ap, eaCons_ap, c1, Ip.R.bind_ok, kC2_0, eaNil_ap, Ip.R.bind_ok, kC3_0, Ip.R.bind_ok, kBf_0, bSorted_ints, Ip.R.lift_some]
    rfl
  have d2 := tupLc d1
  have e : D.tup ((there lo v).map dI) = dL (there lo v) := rfl
  rw [e] at d2
  simp [f_law_seen_there, b_law_seen_there, d2]
end K12
set_option Elab.async false
set_option linter.all false
set_option maxRecDepth 100000
set_option maxHeartbeats 4000000
namespace K12
open PySem Ip Lots Lw

structure Mv (p : Pl) (o lo : List Nat) : Prop where
  hp : OkP p
  ho : o.Perm (List.range p.1)
  hlo : lo.Perm (List.range p.2.length)
section
variable {p : Pl} {o lo : List Nat}
/-- an order's numbers -/
theorem perm_len {m : Nat} (h : o.Perm (List.range m)) : o.length = m := by rw [h.length_eq, List.length_range]
theorem perm_nd {m : Nat} (h : o.Perm (List.range m)) : o.Nodup := h.nodup_iff.mpr List.nodup_range
theorem perm_mem {m x : Nat} (h : o.Perm (List.range m)) : x ∈ o ↔ x < m := by rw [h.mem_iff, List.mem_range]
theorem getD_eq {m t : Nat} (h : o.Perm (List.range m)) (ht : t < m) : ∃ hl : t < o.length, o.getD t 0 = o[t] := by
  have hl : t < o.length := by rw [perm_len h]; exact ht
  exact ⟨hl, by rw [List.getD_eq_getElem?_getD, List.getElem?_eq_getElem hl]; rfl⟩
theorem getD_lt {m t : Nat} (h : o.Perm (List.range m)) (ht : t < m) : o.getD t 0 < m := by
  obtain ⟨hl, e⟩ := getD_eq h ht
  rw [e]
  exact (perm_mem h).mp (List.getElem_mem hl)
theorem getD_inj {m t u : Nat} (h : o.Perm (List.range m)) (ht : t < m) (hu : u < m) (e : o.getD t 0 = o.getD u 0) : t = u := by
  obtain ⟨h1, e1⟩ := getD_eq h ht
  obtain ⟨h2, e2⟩ := getD_eq h hu
  rw [e1, e2] at e
  exact (List.getElem_inj (perm_nd h)).mp e
theorem getD_sur {m x : Nat} (h : o.Perm (List.range m)) (hx : x < m) : ∃ t, t < m ∧ o.getD t 0 = x := by
  obtain ⟨t, ht, e⟩ := List.mem_iff_getElem.mp ((perm_mem h).mpr hx)
  have : t < m := by rw [← perm_len h]; exact ht
  obtain ⟨_, e2⟩ := getD_eq h this
  exact ⟨t, this, e2.trans e⟩
theorem named_mem {c : List Nat} {x : Nat} : x ∈ named o c ↔ ∃ t ∈ c, o.getD t 0 = x := by
  unfold named
  rw [sortN_mem, List.mem_map]
theorem named_asc {m : Nat} {c : List Nat} (h : o.Perm (List.range m)) (hc : Asc m c) : Asc m (named o c) := by
  refine ⟨sortN_asc ?_, fun x hx => ?_⟩
  · rw [List.nodup_iff_pairwise_ne, List.pairwise_map]
    exact hc.1.imp_of_mem fun {a b} ha hb hab e => by
      have := getD_inj h (hc.2 a ha) (hc.2 b hb) e
      omega
  · obtain ⟨t, ht, rfl⟩ := named_mem.mp hx
    exact getD_lt h (hc.2 t ht)
theorem named_in {m t : Nat} {c : List Nat} (h : o.Perm (List.range m)) (hc : Asc m c) (ht : t < m) : o.getD t 0 ∈ named o c ↔ t ∈ c := by
  rw [named_mem]
  constructor
  · rintro ⟨u, hu, e⟩
    rw [← getD_inj h (hc.2 u hu) ht e]
    exact hu
  · exact fun h => ⟨t, h, rfl⟩
theorem named_inj {m : Nat} {c d : List Nat} (h : o.Perm (List.range m)) (hc : Asc m c) (hd : Asc m d) (e : named o c = named o d) : c = d :=
  hc.ext hd fun x => by
    constructor
    · intro hx
      have := (named_in h hc (hc.2 x hx)).mpr hx
      rw [e] at this
      exact (named_in h hd (hc.2 x hx)).mp this
    · intro hx
      have := (named_in h hd (hd.2 x hx)).mpr hx
      rw [← e] at this
      exact (named_in h hc (hd.2 x hx)).mp this
theorem named_sur {m : Nat} {d : List Nat} (h : o.Perm (List.range m)) (hd : Asc m d) : ∃ c, Asc m c ∧ c.length = d.length ∧ named o c = d := by
  let c := (List.range m).filter fun t => decide (o.getD t 0 ∈ d)
  have hs : c.Sublist (List.range m) := List.filter_sublist
  have hc : Asc m c := ⟨List.pairwise_lt_range.sublist hs, fun x hx => List.mem_range.mp (hs.subset hx)⟩
  have e : named o c = d := (named_asc h hc).ext hd fun x => by
    rw [named_mem]
    constructor
    · rintro ⟨t, ht, rfl⟩
      exact of_decide_eq_true (List.mem_filter.mp ht).2
    · intro hx
      obtain ⟨t, ht, rfl⟩ := getD_sur h (hd.2 x hx)
      exact ⟨t, List.mem_filter.mpr ⟨List.mem_range.mpr ht, decide_eq_true hx⟩, rfl⟩
  exact ⟨c, hc, by rw [← e, named_len], e⟩
theorem there_mem {L j : Nat} {v : List Nat} (h : lo.Perm (List.range L)) (hv : ∀ n ∈ v, n < L) : j ∈ there lo v ↔ ∃ n ∈ v, lo[j]? = some n := by
  unfold there
  rw [sortN_mem, List.mem_map]
  constructor
  · rintro ⟨n, hn, rfl⟩
    refine ⟨n, hn, ?_⟩
    have : n ∈ lo := (perm_mem h).mpr (hv n hn)
    rw [List.getElem?_eq_getElem (List.idxOf_lt_length_of_mem this), List.getElem_idxOf]
  · rintro ⟨n, hn, e⟩
    obtain ⟨hj, e⟩ := List.getElem?_eq_some_iff.mp e
    refine ⟨n, hn, ?_⟩
    rw [← e]
    exact (perm_nd h).idxOf_getElem j hj
theorem there_asc {L : Nat} {v : List Nat} (h : lo.Perm (List.range L)) (hv : Asc L v) : Asc L (there lo v) := by
  refine ⟨sortN_asc ?_, fun x hx => ?_⟩
  · rw [List.nodup_iff_pairwise_ne, List.pairwise_map]
    refine hv.1.imp_of_mem fun {a b} ha hb hab e => ?_
    have h1 : a ∈ lo := (perm_mem h).mpr (hv.2 a ha)
    have h2 : b ∈ lo := (perm_mem h).mpr (hv.2 b hb)
    have e1 := List.getElem_idxOf (List.idxOf_lt_length_of_mem h1)
    have e2 := List.getElem_idxOf (List.idxOf_lt_length_of_mem h2)
    have : a = b := by
      rw [← e1, ← e2]
      congr 1
    omega
  · obtain ⟨n, _, e⟩ := (there_mem h hv.2).mp hx
    have := (List.getElem?_eq_some_iff.mp e).1
    rw [perm_len h] at this
    exact this
theorem there_len {v : List Nat} : (there lo v).length = v.length := by
  unfold there
  rw [(sortN_perm _).length_eq, List.length_map]
theorem there_inj {L : Nat} {v w : List Nat} (h : lo.Perm (List.range L)) (hv : Asc L v) (hw : Asc L w) (e : there lo v = there lo w) : v = w :=
  hv.ext hw fun n => by
    constructor
    · intro hn
      obtain ⟨j, hj⟩ := List.mem_iff_getElem?.mp ((perm_mem h).mpr (hv.2 n hn))
      have : j ∈ there lo w := e ▸ (there_mem h hv.2).mpr ⟨n, hn, hj⟩
      obtain ⟨n', h1, h2⟩ := (there_mem h hw.2).mp this
      rw [hj] at h2; cases h2
      exact h1
    · intro hn
      obtain ⟨j, hj⟩ := List.mem_iff_getElem?.mp ((perm_mem h).mpr (hw.2 n hn))
      have : j ∈ there lo v := e ▸ (there_mem h hw.2).mpr ⟨n, hn, hj⟩
      obtain ⟨n', h1, h2⟩ := (there_mem h hv.2).mp this
      rw [hj] at h2; cases h2
      exact h1
/-- what is in v alone goes along -/
theorem there_filter {L : Nat} {v w : List Nat} (h : lo.Perm (List.range L)) (hv : Asc L v) (hw : Asc L w) : ((there lo v).filter fun n => !decide (n ∈ there lo w)) = there lo (v.filter fun n => !decide (n ∈ w)) := by
  refine ((there_asc h hv).filter _).ext (there_asc h (hv.filter _)) fun j => ?_
  rw [List.mem_filter, there_mem h hv.2, there_mem h (hv.filter _).2, Bool.not_eq_true', decide_eq_false_iff_not, there_mem h hw.2]
  constructor
  · rintro ⟨⟨n, h1, h2⟩, h3⟩
    refine ⟨n, List.mem_filter.mpr ⟨h1, ?_⟩, h2⟩
    rw [Bool.not_eq_true', decide_eq_false_iff_not]
    exact fun z => h3 ⟨n, z, h2⟩
  · rintro ⟨n, h1, h2⟩
    obtain ⟨h1, h3⟩ := List.mem_filter.mp h1
    rw [Bool.not_eq_true', decide_eq_false_iff_not] at h3
    refine ⟨⟨n, h1, h2⟩, ?_⟩
    rintro ⟨n', h4, h5⟩
    rw [h2] at h5; cases h5
    exact h3 h4
theorem there_apart {L : Nat} {v w : List Nat} (h : lo.Perm (List.range L)) (hv : Asc L v) (hw : Asc L w) : apartN (there lo v) (there lo w) = apartN v w := by
  unfold apartN
  rw [there_filter h hv hw, there_filter h hw hv, there_len, there_len]
end
section
variable {p : Pl} {o lo : List Nat} (M : Mv p o lo)
include M
theorem mv_get {j : Nat} : (moved p o lo).2[j]? = (lo[j]?).map fun n => named o (p.2.getD n []) := List.getElem?_map ..
theorem mv_len : (moved p o lo).2.length = p.2.length := by
  unfold moved
  rw [List.length_map, perm_len M.hlo]
theorem lot_at {n : Nat} {l : List Nat} (h : p.2[n]? = some l) : p.2.getD n [] = l := by rw [List.getD_eq_getElem?_getD, h]; rfl
theorem mv_ok : OkP (moved p o lo) where
  one := M.hp.one
  ten := M.hp.ten
  lots := by rw [mv_len M]; exact M.hp.lots
  asc := fun l hl => by
    obtain ⟨n, hn, rfl⟩ := List.mem_map.mp hl
    have hn : n < p.2.length := (perm_mem M.hlo).mp hn
    have e : p.2[n]? = some p.2[n] := List.getElem?_eq_getElem hn
    rw [lot_at M e]
    exact named_asc M.ho (M.hp.asc _ (List.getElem_mem hn))
theorem mv_view {c : List Nat} (hc : Asc p.1 c) : view (moved p o lo) (named o c) = there lo (view p c) := by
  have va := view_asc (moved p o lo) (named o c)
  rw [mv_len M] at va
  refine va.ext (there_asc M.hlo (view_asc p c)) fun j => ?_
  rw [view_mem, there_mem M.hlo (view_asc p c).2]
  constructor
  · rintro ⟨l, h1, x, h2, h3⟩
    rw [mv_get M] at h1
    obtain ⟨n, hn, rfl⟩ := Option.map_eq_some_iff.mp h1
    have hl : n < p.2.length := (perm_mem M.hlo).mp (List.mem_of_getElem? hn)
    have e : p.2[n]? = some p.2[n] := List.getElem?_eq_getElem hl
    rw [lot_at M e] at h2
    obtain ⟨t, ht, rfl⟩ := named_mem.mp h2
    have ha := (M.hp.asc _ (List.getElem_mem hl)).2 t ht
    exact ⟨n, view_mem.mpr ⟨_, e, t, ht, (named_in M.ho hc ha).mp h3⟩, hn⟩
  · rintro ⟨n, h1, hn⟩
    obtain ⟨l, e, t, ht, htc⟩ := view_mem.mp h1
    refine ⟨named o l, by rw [mv_get M, hn, Option.map_some, lot_at M e], o.getD t 0, named_mem.mpr ⟨t, ht, rfl⟩, named_mem.mpr ⟨t, htc, rfl⟩⟩
theorem mv_lots {t : Nat} (ht : t < p.1) : lotsOf (moved p o lo) (o.getD t 0) = there lo (lotsOf p t) := by
  have va := lots_asc (moved p o lo) (o.getD t 0)
  rw [mv_len M] at va
  refine va.ext (there_asc M.hlo (lots_asc p t)) fun j => ?_
  rw [lots_mem, there_mem M.hlo (lots_asc p t).2]
  constructor
  · rintro ⟨l, h1, h2⟩
    rw [mv_get M] at h1
    obtain ⟨n, hn, rfl⟩ := Option.map_eq_some_iff.mp h1
    have hl : n < p.2.length := (perm_mem M.hlo).mp (List.mem_of_getElem? hn)
    have e : p.2[n]? = some p.2[n] := List.getElem?_eq_getElem hl
    rw [lot_at M e] at h2
    exact ⟨n, lots_mem.mpr ⟨_, e, (named_in M.ho (M.hp.asc _ (List.getElem_mem hl)) ht).mp h2⟩, hn⟩
  · rintro ⟨n, h1, hn⟩
    obtain ⟨l, e, htl⟩ := lots_mem.mp h1
    exact ⟨named o l, by rw [mv_get M, hn, Option.map_some, lot_at M e], named_mem.mpr ⟨t, htl, rfl⟩⟩
theorem mv_left {t : Nat} {c : List Nat} (ht : t < p.1) (hc : Asc p.1 c) : left (moved p o lo) (o.getD t 0) (named o c) = left p t c := by
  unfold left
  rw [mv_lots M ht, mv_view M hc, there_filter M.hlo (lots_asc p t) (view_asc p c), there_len]
theorem mv_others {t : Nat} {c : List Nat} {k : Nat} (ht : t < p.1) (hc : Asc p.1 c) : named o c ∈ others (moved p o lo) (o.getD t 0) k ↔ c ∈ others p t k := by
  rw [others_mem, others_mem, named_len, named_in M.ho hc ht]
  exact ⟨fun ⟨_, b, d⟩ => ⟨hc, b, d⟩, fun ⟨_, b, d⟩ => ⟨named_asc M.ho hc, b, d⟩⟩
theorem mv_cases {c : List Nat} {k : Nat} (hc : Asc p.1 c) : named o c ∈ cases (moved p o lo).1 k ↔ c ∈ cases p.1 k := by
  rw [cases_mem, cases_mem, named_len]
  exact ⟨fun ⟨_, b⟩ => ⟨hc, b⟩, fun ⟨_, b⟩ => ⟨named_asc M.ho hc, b⟩⟩
theorem mv_case {d : List Nat} {k : Nat} (hd : d ∈ cases (moved p o lo).1 k) : ∃ c ∈ cases p.1 k, Asc p.1 c ∧ named o c = d := by
  obtain ⟨h1, h2⟩ := cases_mem.mp hd
  obtain ⟨c, hc, hl, rfl⟩ := named_sur M.ho h1
  exact ⟨c, cases_mem.mpr ⟨hc, by omega⟩, hc, rfl⟩
theorem mv_Hid {k t : Nat} {c : List Nat} (h : Hid p k t c) : Hid (moved p o lo) k (o.getD t 0) (named o c) := by
  obtain ⟨h1, h2, h3⟩ := h
  have hc := (others_mem.mp h2).1
  exact ⟨getD_lt M.ho h1, (mv_others M h1 hc).mpr h2, by rw [mv_left M h1 hc, h3]⟩
theorem mv_Hid' {k t : Nat} {d : List Nat} (h : Hid (moved p o lo) k t d) : ∃ u c, Hid p k u c ∧ c.length = d.length := by
  obtain ⟨h1, h2, h3⟩ := h
  obtain ⟨u, hu, rfl⟩ := getD_sur M.ho h1
  obtain ⟨c, hc, hl, rfl⟩ := named_sur M.ho (others_mem.mp h2).1
  exact ⟨u, c, ⟨hu, (mv_others M hu hc).mp h2, by rw [← mv_left M hu hc]; exact h3⟩, hl⟩
theorem mv_hid (k : Nat) : isN (hid (moved p o lo) k) = isN (hid p k) ∧ ∀ q r, hid p k = some q → hid (moved p o lo) k = some r → q.2.length = r.2.length := by
  constructor
  · cases h1 : hid p k with
    | none =>
      have : hid (moved p o lo) k = none := hid_none.mpr fun t d h => by
        obtain ⟨u, c, h2, _⟩ := mv_Hid' M h
        exact hid_none.mp h1 u c h2
      rw [this]
    | some q =>
      cases h2 : hid (moved p o lo) k with
      | none => exact absurd (mv_Hid M (hid_some h1).1) (hid_none.mp h2 _ _)
      | some r => rfl
  · intro q r h1 h2
    obtain ⟨a1, a2⟩ := hid_some h1
    obtain ⟨b1, b2⟩ := hid_some h2
    obtain ⟨u, c, h3, h4⟩ := mv_Hid' M b1
    have l1 := a2 u c h3
    have l2 := b2 _ _ (mv_Hid M a1)
    rw [named_len] at l2
    omega
theorem mv_readL : readL (moved p o lo) = readL p := by
  unfold readL
  have e : (moved p o lo).1 = p.1 := rfl
  rw [e]
  congr 1
  funext k
  exact (mv_hid M k).1
theorem mv_mar (k : Nat) : minN (marL (moved p o lo) k) = minN (marL p k) := minN_eq fun n => by
  rw [mar_mem, mar_mem]
  constructor
  · rintro ⟨t, d, h1, h2, rfl⟩
    obtain ⟨u, hu, rfl⟩ := getD_sur M.ho h1
    obtain ⟨c, hc, _, rfl⟩ := named_sur M.ho (others_mem.mp h2).1
    exact ⟨u, c, hu, (mv_others M hu hc).mp h2, (mv_left M hu hc).symm⟩
  · rintro ⟨t, c, h1, h2, rfl⟩
    have hc := (others_mem.mp h2).1
    exact ⟨_, _, getD_lt M.ho h1, (mv_others M h1 hc).mpr h2, mv_left M h1 hc⟩
theorem mv_alk (k : Nat) : isN (alk (rows (moved p o lo) k)) = isN (alk (rows p k)) := by
  have e : alk (rows (moved p o lo) k) = none ↔ alk (rows p k) = none := by
    rw [alk_rows, alk_rows]
    constructor
    · intro h c hc d hd hn z
      have ac := (cases_mem.mp hc).1
      have ad := (cases_mem.mp hd).1
      refine h _ ((mv_cases M ac).mpr hc) _ ((mv_cases M ad).mpr hd) (fun z => hn (named_inj M.ho ac ad z)) ?_
      rw [mv_view M ac, mv_view M ad, z]
    · intro h c hc d hd hn z
      obtain ⟨c, hc', ac, rfl⟩ := mv_case M hc
      obtain ⟨d, hd', ad, rfl⟩ := mv_case M hd
      rw [mv_view M ac, mv_view M ad] at z
      exact h c hc' d hd' (fun z => hn (by rw [z])) (there_inj M.hlo (view_asc p c) (view_asc p d) z)
  cases h1 : alk (rows p k) with
  | none => rw [e.mpr h1]
  | some q =>
    cases h2 : alk (rows (moved p o lo) k) with
    | none => rw [e.mp h2] at h1; cases h1
    | some r => rfl
theorem mv_tellL : tellL (moved p o lo) = tellL p := by
  unfold tellL
  have e : (moved p o lo).1 = p.1 := rfl
  rw [e]
  congr 1
  funext k
  exact mv_alk M k
theorem mv_apart {c d : List Nat} (hc : Asc p.1 c) (hd : Asc p.1 d) : apartN (view (moved p o lo) (named o c)) (view (moved p o lo) (named o d)) = apartN (view p c) (view p d) := by
  rw [mv_view M hc, mv_view M hd, there_apart M.hlo (view_asc p c) (view_asc p d)]
theorem mv_gap (k : Nat) : gapN (rows (moved p o lo) k) (moved p o lo).2.length = gapN (rows p k) p.2.length := by
  rw [mv_len M]
  refine GapIs.unique (p := moved p o lo) (gapN_is _ _ _) ?_
  obtain ⟨h1, h2, h3⟩ := gapN_is p k p.2.length
  refine ⟨h1, fun c hc d hd hn => ?_, ?_⟩
  · obtain ⟨c, hc', ac, rfl⟩ := mv_case M hc
    obtain ⟨d, hd', ad, rfl⟩ := mv_case M hd
    rw [mv_apart M ac ad]
    exact h2 c hc' d hd' fun z => hn (by rw [z])
  · rcases h3 with h3 | ⟨c, hc, d, hd, hn, h3⟩
    · exact .inl h3
    · have ac := (cases_mem.mp hc).1
      have ad := (cases_mem.mp hd).1
      exact .inr ⟨_, (mv_cases M ac).mpr hc, _, (mv_cases M ad).mpr hd, fun z => hn (named_inj M.ho ac ad z), by rw [mv_apart M ac ad]; exact h3⟩
theorem mv_susp {v : List Nat} (hv : Asc p.2.length v) : susp (moved p o lo) (there lo v) = named o (susp p v) := by
  refine (susp_asc (moved p o lo) _).ext (named_asc M.ho (susp_asc p v)) fun x => ?_
  rw [susp_mem]
  constructor
  · rintro ⟨h1, h2⟩
    obtain ⟨t, ht, rfl⟩ := getD_sur M.ho h1
    refine named_mem.mpr ⟨t, susp_mem.mpr ⟨ht, fun n hn => ?_⟩, rfl⟩
    obtain ⟨j, hj⟩ := List.mem_iff_getElem?.mp ((perm_mem M.hlo).mpr ((lots_asc p t).2 n hn))
    have : j ∈ lotsOf (moved p o lo) (o.getD t 0) := by
      rw [mv_lots M ht]
      exact (there_mem M.hlo (lots_asc p t).2).mpr ⟨n, hn, hj⟩
    obtain ⟨n', h3, h4⟩ := (there_mem M.hlo hv.2).mp (h2 j this)
    rw [hj] at h4; cases h4
    exact h3
  · intro h
    obtain ⟨t, ht, rfl⟩ := named_mem.mp h
    obtain ⟨h1, h2⟩ := susp_mem.mp ht
    refine ⟨getD_lt M.ho h1, fun j hj => ?_⟩
    rw [mv_lots M h1] at hj
    obtain ⟨n, h3, h4⟩ := (there_mem M.hlo (lots_asc p t).2).mp hj
    exact (there_mem M.hlo hv.2).mpr ⟨n, h2 n h3, h4⟩
/-- a choice of cases goes along -/
theorem mv_filter {k : Nat} (f g : List Nat → Bool) (h : ∀ c, Asc p.1 c → g (named o c) = f c) : (cases (moved p o lo).1 k).filter g = sortL (((cases p.1 k).filter f).map (named o)) := by
  have nd : (((cases p.1 k).filter f).map (named o)).Nodup := by
    rw [List.nodup_iff_pairwise_ne, List.pairwise_map]
    refine List.Pairwise.imp_of_mem (R := fun a b => a ≠ b) (fun {a b} ha hb hab e => hab ?_) ((cases_nodup p.1 k).filter f)
    exact named_inj M.ho (cases_mem.mp (List.mem_filter.mp ha).1).1 (cases_mem.mp (List.mem_filter.mp hb).1).1 e
  refine srtL_unique ((cases_sorted _ _).filter g) (sortL_sorted _) ((cases_nodup _ _).filter g) ((sortL_perm _).nodup_iff.mpr nd) fun d => ?_
  rw [(sortL_perm _).mem_iff, List.mem_map, List.mem_filter]
  constructor
  · rintro ⟨h1, h2⟩
    obtain ⟨c, hc, ac, rfl⟩ := mv_case M h1
    exact ⟨c, List.mem_filter.mpr ⟨hc, by rw [← h c ac]; exact h2⟩, rfl⟩
  · rintro ⟨c, hc, rfl⟩
    obtain ⟨h1, h2⟩ := List.mem_filter.mp hc
    have ac := (cases_mem.mp h1).1
    exact ⟨(mv_cases M ac).mpr h1, by rw [h c ac]; exact h2⟩
theorem mv_for {v : List Nat} (hv : Asc p.2.length v) (k : Nat) : forL (moved p o lo) (there lo v) k = sortL ((forL p v k).map (named o)) := by
  rw [for_eq, for_eq]
  refine mv_filter M _ _ fun c hc => ?_
  rw [mv_view M hc, Bool.eq_iff_iff, decide_eq_true_eq, decide_eq_true_eq]
  exact ⟨fun z => there_inj M.hlo (view_asc p c) hv z, fun z => by rw [z]⟩
theorem mv_near1 {v : List Nat} (hv : Asc p.2.length v) (k : Nat) : minN ((nearR (moved p o lo) (there lo v) k).map (·.1)) = minN ((nearR p v k).map (·.1)) := minN_eq fun n => by
  rw [near_fst, near_fst, List.mem_map, List.mem_map]
  constructor
  · rintro ⟨d, hd, rfl⟩
    obtain ⟨c, hc, ac, rfl⟩ := mv_case M hd
    exact ⟨c, hc, by rw [mv_view M ac, there_apart M.hlo hv (view_asc p c)]⟩
  · rintro ⟨c, hc, rfl⟩
    have ac := (cases_mem.mp hc).1
    exact ⟨_, (mv_cases M ac).mpr hc, by rw [mv_view M ac, there_apart M.hlo hv (view_asc p c)]⟩
theorem mv_near2 {v : List Nat} (hv : Asc p.2.length v) (k n : Nat) : ((nearR (moved p o lo) (there lo v) k).filter fun q => decide (q.1 = n)).map (·.2) = sortL ((((nearR p v k).filter fun q => decide (q.1 = n)).map (·.2)).map (named o)) := by
  rw [near_snd, near_snd]
  exact mv_filter M _ _ fun c hc => by rw [mv_view M hc, there_apart M.hlo hv (view_asc p c)]
end
end K12
set_option Elab.async false
set_option linter.all false
set_option maxRecDepth 100000
set_option maxHeartbeats 4000000

namespace Lw
open PySem Ip Lots
/-! ### equal data -/
mutual
theorem eqv_py : ∀ d : D, okS d = true → PyData.eqv (py d) (py d) = true
  | .non, _ => by simp [py, PyData.eqv]
  | .bl b, _ => by simp [py, PyData.eqv]
  | .int i, _ => by simp [py, PyData.eqv]
  | .str x, _ => by simp [py, PyData.eqv]
  | .tup xs, h => by
    show PyData.eqv (.tuple (pys xs)) (.tuple (pys xs)) = true
    rw [PyData.eqv]
    exact eqv_pys xs h
  | .lst xs, h => by
    show PyData.eqv (.list (pys xs)) (.list (pys xs)) = true
    rw [PyData.eqv]
    exact eqv_pys xs h
  | .scr xs, h => by
    show PyData.eqv (.list (pys xs)) (.list (pys xs)) = true
    rw [PyData.eqv]
    exact eqv_pys xs h
  | .ref _, h => by cases h
  | .glo _, h => by cases h
theorem eqv_pys : ∀ xs : List D, okSs xs = true → PyData.eqvAll (pys xs) (pys xs) = true
  | [], _ => by simp [pys, PyData.eqvAll]
  | x :: xs, h => by
    have h' : (okS x && okSs xs) = true := h
    rw [Bool.and_eq_true] at h'
    show PyData.eqvAll (py x :: pys xs) (py x :: pys xs) = true
    rw [PyData.eqvAll, eqv_py x h'.1, eqv_pys xs h'.2]
    rfl
end
/-- no mutable list itself -/
def notRef : D → Bool
  | .ref _ => false
  | _ => true
theorem deref_of {d : D} (h : notRef d = true) (st : Sto) : deref st d = d := by cases d <;> first | rfl | cases h
theorem okD_notRef {d : D} (h : okD d = true) : notRef d = true := by
  cases d with
  | ref _ => cases h
  | _ => rfl
theorem oEq_self {d : D} (h : okD d = true) (st : Sto) : oEq st d d = some (.bl true) := by
  unfold oEq
  rw [deref_of (okD_notRef h), if_pos ⟨h, h⟩]
  show some (D.bl (PyData.eqv (py d) (py d))) = _
  rw [eqv_py d (okD_s h)]
theorem oNe_self {d : D} (h : okD d = true) (st : Sto) : oNe st d d = some (.bl false) := by
  unfold oNe
  rw [deref_of (okD_notRef h), if_pos ⟨h, h⟩]
  show some (D.bl (!PyData.eqv (py d) (py d))) = _
  rw [eqv_py d (okD_s h)]
  rfl
theorem okD_encM {m : Option Nat} : okD (encM m) = true := by cases m <;> rfl
theorem depth_lstL {xs : List (List Nat)} : (py (.lst (xs.map dL))).depth ≤ 2 := by
  show (PyData.list (pys (xs.map dL))).depth ≤ 2
  rw [depth_lst, pys_map]
  have : PyData.depthAll ((xs.map dL).map py) ≤ 1 := depthAll_le fun x hx => by
    obtain ⟨d, hd, rfl⟩ := List.mem_map.mp hx
    obtain ⟨n, _, rfl⟩ := List.mem_map.mp hd
    exact depth_dL
  omega
theorem okD_lstL {xs : List (List Nat)} : okD (.lst (xs.map dL)) = true := by
  unfold okD
  have h : okS (.lst (xs.map dL)) = true := okSs_map fun _ _ => okS_dL
  rw [h, Bool.true_and, decide_eq_true_eq]
  exact Nat.le_trans depth_lstL (by decide)
theorem okD_pairL {n : Nat} {xs : List (List Nat)} : okD (.tup [dI n, .lst (xs.map dL)]) = true := by
  unfold okD
  have h : okS (.tup [dI n, .lst (xs.map dL)]) = true := by
    show (okS (dI n) && (okS (.lst (xs.map dL)) && true)) = true
    have : okS (.lst (xs.map dL)) = true := okSs_map fun _ _ => okS_dL
    rw [this]; rfl
  rw [h, Bool.true_and, decide_eq_true_eq]
  show (PyData.tuple [py (dI n), py (.lst (xs.map dL))]).depth ≤ 64
  rw [depth_tup]
  have : PyData.depthAll [py (dI n), py (.lst (xs.map dL))] ≤ 2 := depthAll_le fun x hx => by
    rcases List.mem_cons.mp hx with rfl | hx
    · simp [py, PyData.depth]
    · rw [List.mem_singleton.mp hx]
      exact depth_lstL
  omega
@[simp] theorem oNe_bl {st : Sto} {a b : Bool} : oNe st (.bl a) (.bl b) = some (.bl (!decide (a = b))) := by
  unfold oNe
  have e : eqD (.bl a) (.bl b) = decide (a = b) := by
    show PyData.eqv (.bool a) (.bool b) = _
    simp [PyData.eqv]
    cases a <;> cases b <;> rfl
  have d1 : deref st (.bl a) = .bl a := rfl
  have d2 : deref st (.bl b) = .bl b := rfl
  rw [d1, d2, e]
  exact if_pos ⟨rfl, rfl⟩
@[simp] theorem oIsNot_encB {st : Sto} {b : Option (Nat × List Nat)} : oIsNot st (encB b) .non = some (.bl (!isN b)) := by cases b <;> rfl
theorem oIx_encB {st : Sto} {q : Nat × List Nat} : oIx st (encB (some q)) (.int 1) = some (dL q.2) := by
  simp [oIx, encB]
end Lw
namespace K12
open PySem Ip Lots Lw
def sr0 : Es := (sSet 4 (evCall 3 f_law_moved (eaCons (evVar 1) (eaCons (evVar 2) (eaCons (evVar 3) eaNil)))))
def sr1 : Es := (sIf (ebOr (ebOf (evOp oNe (evCall 1 f_most_read (eaCons (evVar 4) eaNil)) (evCall 1 f_most_read (eaCons (evVar 1) eaNil)))) (ebOf (evOp oNe (evCall 1 f_most_told (eaCons (evVar 4) eaNil)) (evCall 1 f_most_told (eaCons (evVar 1) eaNil))))) (sCons (sRet (evC (.bl false))) sNil) sNil)
def sr2_0 : Es := (sIf (ebOr (ebOf (evOp oNe (evCall 2 f_reads (eaCons (evVar 4) (eaCons (evVar 5) eaNil))) (evCall 2 f_reads (eaCons (evVar 1) (eaCons (evVar 5) eaNil))))) (ebOf (evOp oNe (evCall 2 f_tells (eaCons (evVar 4) (eaCons (evVar 5) eaNil))) (evCall 2 f_tells (eaCons (evVar 1) (eaCons (evVar 5) eaNil)))))) (sCons (sRet (evC (.bl false))) sNil) sNil)
def sr2_1 : Es := (sPar 11 12 (eaCons (evCall 2 f_hidden (eaCons (evVar 1) (eaCons (evVar 5) eaNil))) (eaCons (evCall 2 f_hidden (eaCons (evVar 4) (eaCons (evVar 5) eaNil))) eaNil)))
def sr2_2 : Es := (sIf (ebOr (ebOf (evOp oNe (evOp oIs (evVar 11) (evC .non)) (evOp oIs (evVar 12) (evC .non)))) (ebAnd (ebOf (evOp oIsNot (evVar 11) (evC .non))) (ebOf (evOp oNe (evB bLen (eaCons (evOp oIx (evVar 11) (evC (.int 1))) eaNil)) (evB bLen (eaCons (evOp oIx (evVar 12) (evC (.int 1))) eaNil)))))) (sCons (sRet (evC (.bl false))) sNil) sNil)
def sr2_3 : Es := (sIf (ebOr (ebOf (evOp oNe (evCall 2 f_margin (eaCons (evVar 4) (eaCons (evVar 5) eaNil))) (evCall 2 f_margin (eaCons (evVar 1) (eaCons (evVar 5) eaNil))))) (ebOf (evOp oNe (evOp oIs (evCall 2 f_alike_pair (eaCons (evVar 4) (eaCons (evVar 5) eaNil))) (evC .non)) (evCall 2 f_tells (eaCons (evVar 1) (eaCons (evVar 5) eaNil)))))) (sCons (sRet (evC (.bl false))) sNil) sNil)
def sr2_4 : Es := (sIf (ebAnd (ebOf (evOp oGt (evVar 5) (evC (.int 0)))) (ebOf (evOp oNe (evCall 2 f_gap (eaCons (evVar 4) (eaCons (evVar 5) eaNil))) (evCall 2 f_gap (eaCons (evVar 1) (eaCons (evVar 5) eaNil)))))) (sCons (sRet (evC (.bl false))) sNil) sNil)
def sr2_5 : Es := (sIf (ebAnd (ebOf (evOp oGt (evVar 5) (evC (.int 0)))) (ebOf (evOp oNe (evCall 2 f_mends (eaCons (evVar 4) (eaCons (evVar 5) eaNil))) (evCall 2 f_mends (eaCons (evVar 1) (eaCons (evVar 5) eaNil)))))) (sCons (sRet (evC (.bl false))) sNil) sNil)
def sr2_b : Es := (sCons sr2_0 (sCons sr2_1 (sCons sr2_2 (sCons sr2_3 (sCons sr2_4 (sCons sr2_5 sNil))))))
def sr2 : Es := sFor (itVal (evTup (eaCons (evC (.int 0)) (eaCons (evC (.int 1)) (eaCons (evC (.int 2)) eaNil))))) (gN 5) sr2_b
def sr3 : Es := (sSet 6 (evB bTuple (eaCons (evLc [13] (itR1 (eaCons (evOp oIx (evVar 1) (evC (.int 0))) eaNil)) (gN 13) (ebOf (evOp oEq (evCall 2 f_law_take (eaCons (evVar 0) (eaCons (evC (.int 3)) eaNil))) (evC (.int 0)))) (evVar 13)) eaNil)))
def sr4 : Es := (sSet 7 (evB bTuple (eaCons (evLc [14] (itR1 (eaCons (evB bLen (eaCons (evOp oIx (evVar 1) (evC (.int 1))) eaNil)) eaNil)) (gN 14) (ebOf (evOp oEq (evCall 2 f_law_take (eaCons (evVar 0) (eaCons (evC (.int 2)) eaNil))) (evC (.int 0)))) (evVar 14)) eaNil)))
def sr5 : Es := (sSet 8 (evCall 2 f_law_seen_there (eaCons (evVar 3) (eaCons (evVar 7) eaNil))))
def sr6 : Es := (sIf (ebOf (evOp oNe (evCall 2 f_shown (eaCons (evVar 4) (eaCons (evCall 2 f_law_named (eaCons (evVar 2) (eaCons (evVar 6) eaNil))) eaNil))) (evCall 2 f_law_seen_there (eaCons (evVar 3) (eaCons (evCall 2 f_shown (eaCons (evVar 1) (eaCons (evVar 6) eaNil))) eaNil))))) (sCons (sRet (evC (.bl false))) sNil) sNil)
def sr7 : Es := (sIf (ebOf (evOp oNe (evCall 2 f_suspects (eaCons (evVar 4) (eaCons (evVar 8) eaNil))) (evCall 2 f_law_named (eaCons (evVar 2) (eaCons (evCall 2 f_suspects (eaCons (evVar 1) (eaCons (evVar 7) eaNil))) eaNil))))) (sCons (sRet (evC (.bl false))) sNil) sNil)
def sr8 : Es := (sIf (ebOf (evOp oNe (evCall 3 f_cases_for (eaCons (evVar 4) (eaCons (evVar 8) (eaCons (evC (.int 2)) eaNil)))) (evB bSorted (eaCons (evLc [15] (itVal (evCall 3 f_cases_for (eaCons (evVar 1) (eaCons (evVar 7) (eaCons (evC (.int 2)) eaNil))))) (gN 15) ebYes (evCall 2 f_law_named (eaCons (evVar 2) (eaCons (evVar 15) eaNil)))) eaNil)))) (sCons (sRet (evC (.bl false))) sNil) sNil)
def sr9 : Es := (sAsg (gT 2 (gsCons (gN 9) (gsCons (gN 10) gsNil))) (evCall 3 f_nearest (eaCons (evVar 1) (eaCons (evVar 7) (eaCons (evC (.int 2)) eaNil)))))
def sr10 : Es := (sRet (evOp oEq (evCall 3 f_nearest (eaCons (evVar 4) (eaCons (evVar 8) (eaCons (evC (.int 2)) eaNil)))) (evTup (eaCons (evVar 9) (eaCons (evB bSorted (eaCons (evLc [15] (itVal (evVar 10)) (gN 15) ebYes (evCall 2 f_law_named (eaCons (evVar 2) (eaCons (evVar 15) eaNil)))) eaNil)) eaNil)))))
def srb : Es := (sCons sr0 (sCons sr1 (sCons sr2 (sCons sr3 (sCons sr4 (sCons sr5 (sCons sr6 (sCons sr7 (sCons sr8 (sCons sr9 (sCons sr10 sNil)))))))))))
theorem sreq : b_law_same_right = srb := rfl

section
variable {p : Pl} {o lo : List Nat} (M : Mv p o lo)
include M
/-- the loop's turn: what is read and told goes along -/
theorem turn_ok {b : Nat} {k : Nat} (hk : k ≤ 2) (st : Sto) (x6 x7 x8 x9 x10 x11 x12 x13 x14 x15 : Option D) :
    ∃ y11 y12, sr2_b [some (.ref b), some (dP p), some (.lst (o.map dI)), some (.lst (lo.map dI)), some (dP (moved p o lo)), some (dI k), x6, x7, x8, x9, x10, x11, x12, x13, x14, x15] st
      = .nx [some (.ref b), some (dP p), some (.lst (o.map dI)), some (.lst (lo.map dI)), some (dP (moved p o lo)), some (dI k), x6, x7, x8, x9, x10, y11, y12, x13, x14, x15] st := by
  have hp := M.hp
  have hq := mv_ok M
  have k10 : k ≤ 10 := by omega
  have r1 := reads_ok hq k10 st
  have r2 := reads_ok hp k10 st
  have t1 := tells_ok hq k10 st
  have t2 := tells_ok hp k10 st
  have h1 := hidden_ok hp k10 st
  have h2 := hidden_ok hq k10 st
  obtain ⟨mh, ml⟩ := mv_hid M k
  rw [mh] at r1
  rw [mv_alk M k] at t1
  obtain ⟨n, hn⟩ := minN_ex (mar_ne (k := k) hp)
  have m1 := margin_ok (n := n) hp k10 hn st
  have m2 := margin_ok (n := n) hq k10 (by rw [mv_mar M k]; exact hn) st
  have a1 := alike_pair_ok hq k10 st
  have ea := mv_alk M k
  generalize hm : moved p o lo = q at *
  have s0 : sr2_0 [some (.ref b), some (dP p), some (.lst (o.map dI)), some (.lst (lo.map dI)), some (dP q), some (dI k), x6, x7, x8, x9, x10, x11, x12, x13, x14, x15] st = .nx [some (.ref b), some (dP p), some (.lst (o.map dI)), some (.lst (lo.map dI)), some (dP q), some (dI k), x6, x7, x8, x9, x10, x11, x12, x13, x14, x15] st := by
    simp [sr2_0, r1, r2, t1, t2]
  have s1 : sr2_1 [some (.ref b), some (dP p), some (.lst (o.map dI)), some (.lst (lo.map dI)), some (dP q), some (dI k), x6, x7, x8, x9, x10, x11, x12, x13, x14, x15] st = .nx [some (.ref b), some (dP p), some (.lst (o.map dI)), some (.lst (lo.map dI)), some (dP q), some (dI k), x6, x7, x8, x9, x10, some (encB (hid p k)), some (encB (hid q k)), x13, x14, x15] st := by
    simp [sr2_1, h1, h2]
  have s2 : sr2_2 [some (.ref b), some (dP p), some (.lst (o.map dI)), some (.lst (lo.map dI)), some (dP q), some (dI k), x6, x7, x8, x9, x10, some (encB (hid p k)), some (encB (hid q k)), x13, x14, x15] st = .nx [some (.ref b), some (dP p), some (.lst (o.map dI)), some (.lst (lo.map dI)), some (dP q), some (dI k), x6, x7, x8, x9, x10, some (encB (hid p k)), some (encB (hid q k)), x13, x14, x15] st := by
    cases e1 : hid p k with
    | none =>
      cases e2 : hid q k with
      | none => simp [sr2_2, isN]
      | some r => rw [e1, e2] at mh; cases mh
    | some u =>
      cases e2 : hid q k with
      | none => rw [e1, e2] at mh; cases mh
      | some r =>
        have el := ml u r e1 e2
        simp [sr2_2, isN, oIx_encB, el]
  have s3 : sr2_3 [some (.ref b), some (dP p), some (.lst (o.map dI)), some (.lst (lo.map dI)), some (dP q), some (dI k), x6, x7, x8, x9, x10, some (encB (hid p k)), some (encB (hid q k)), x13, x14, x15] st = .nx [some (.ref b), some (dP p), some (.lst (o.map dI)), some (.lst (lo.map dI)), some (dP q), some (dI k), x6, x7, x8, x9, x10, some (encB (hid p k)), some (encB (hid q k)), x13, x14, x15] st := by
    simp [sr2_3, m1, m2, a1, ea, t2]
  have s4 : sr2_4 [some (.ref b), some (dP p), some (.lst (o.map dI)), some (.lst (lo.map dI)), some (dP q), some (dI k), x6, x7, x8, x9, x10, some (encB (hid p k)), some (encB (hid q k)), x13, x14, x15] st = .nx [some (.ref b), some (dP p), some (.lst (o.map dI)), some (.lst (lo.map dI)), some (dP q), some (dI k), x6, x7, x8, x9, x10, some (encB (hid p k)), some (encB (hid q k)), x13, x14, x15] st := by
    by_cases h0 : k = 0
    · subst h0
      simp [sr2_4]
    · have g1 := gap_ok hp (by omega : 1 ≤ k) k10 st
      have g2 := gap_ok hq (by omega : 1 ≤ k) k10 st
      have eg := mv_gap M k
      rw [hm] at eg
      rw [eg] at g2
      have pos : 0 < k := by omega
      simp [sr2_4, g1, g2, pos]
  have s5 : sr2_5 [some (.ref b), some (dP p), some (.lst (o.map dI)), some (.lst (lo.map dI)), some (dP q), some (dI k), x6, x7, x8, x9, x10, some (encB (hid p k)), some (encB (hid q k)), x13, x14, x15] st = .nx [some (.ref b), some (dP p), some (.lst (o.map dI)), some (.lst (lo.map dI)), some (dP q), some (dI k), x6, x7, x8, x9, x10, some (encB (hid p k)), some (encB (hid q k)), x13, x14, x15] st := by
    by_cases h0 : k = 0
    · subst h0
      simp [sr2_5]
    · have g1 := mends_ok hp (by omega : 1 ≤ k) k10 st
      have g2 := mends_ok hq (by omega : 1 ≤ k) k10 st
      have eg := mv_gap M k
      rw [hm] at eg
      rw [eg] at g2
      have pos : 0 < k := by omega
      have ne := oNe_self (d := encM (mendN (gapN (rows p k) p.2.length))) okD_encM st
      simp [sr2_5, g1, g2, pos, ne]
  exact ⟨some (encB (hid p k)), some (encB (hid q k)), by simp only [sr2_b, sCons_ap, s0, s1, s2, s3, s4, s5, RS.seq_nx, sNil_ap]⟩
/-- a choice that is drawn -/
theorem same_ok {b : Nat} {st : Sto} (hb : Bag b st) : ∃ st', Drw b st st' ∧ f_law_same_right [.ref b, dP p, .lst (o.map dI), .lst (lo.map dI)] st = .ok (.bl true) st' := by
  have hp := M.hp
  have hq := mv_ok M
  have hl := hp.lots
  have h10 := hp.ten
  have mv := moved_ok hp M.ho M.hlo
  -- ahead of the loop
  obtain ⟨tn, htn⟩ := maxN_ex (tell_ne p)
  have mr1 := most_read_ok hq st
  have mr2 := most_read_ok hp st
  rw [mv_readL M] at mr1
  have mt1 := most_told_ok (n := tn) hq (by rw [mv_tellL M]; exact htn) st
  have mt2 := most_told_ok (n := tn) hp htn st
  -- the loop
  obtain ⟨ρ', el, x5, x11, x12, rfl⟩ := forGo_fold (st := st) (g := gN 5) (b := sr2_b) dI
    (fun (_ : Unit) ρ => ∃ x5 x11 x12, ρ = [some (.ref b), some (dP p), some (.lst (o.map dI)), some (.lst (lo.map dI)), some (dP (moved p o lo)), x5, none, none, none, none, none, x11, x12, none, none, none]) (fun _ _ => ()) [0, 1, 2] () [some (.ref b), some (dP p), some (.lst (o.map dI)), some (.lst (lo.map dI)), some (dP (moved p o lo)), none, none, none, none, none, none, none, none, none, none, none] ⟨none, none, none, rfl⟩ (fun k _ ρ hk hρ => by
      obtain ⟨x5, x11, x12, rfl⟩ := hρ
      have k2 : k ≤ 2 := by
        simp only [List.mem_cons, List.not_mem_nil, or_false] at hk
        omega
      obtain ⟨y11, y12, e⟩ := turn_ok M (b := b) k2 st none none none none none x11 x12 none none none
      exact ⟨_, _, rfl, e, some (dI k), y11, y12, rfl⟩)
  -- the drawn case and view
  obtain ⟨cs, st1, hcs, d1, ec⟩ := evLc_drw (b := b) (vs := [13]) (it := itR1 (eaCons (evOp oIx (evVar 1) (evC (.int 0))) eaNil)) (g := gN 13) (t := ebOf (evOp oEq (evCall 2 f_law_take (eaCons (evVar 0) (eaCons (evC (.int 3)) eaNil))) (evC (.int 0)))) (e := evVar 13)
    (ρ := [some (.ref b), some (dP p), some (.lst (o.map dI)), some (.lst (lo.map dI)), some (dP (moved p o lo)), x5, none, none, none, none, none, x11, x12, none, none, none]) (st := st) dI (List.range p.1) (by simp [kIR1_nat (j := p.1) (by omega)]) (by simp; omega) hb (fun x _ st hb => by
      obtain ⟨t, st1, ht, hdr, et⟩ := law_take_ok (m := 3) hb (by decide)
      have et : f_law_take [.ref b, .int 3] st = .ok (dI t) st1 := et
      refine ⟨_, decide ((t : Int) = 0), st1, rfl, ?_, hdr, by simp⟩
      simp [et])
  have ac := asc_of_sub hcs
  have hb1 := d1.bag hb
  obtain ⟨v, st2, hv, d2, ev⟩ := evLc_drw (b := b) (vs := [14]) (it := itR1 (eaCons (evB bLen (eaCons (evOp oIx (evVar 1) (evC (.int 1))) eaNil)) eaNil)) (g := gN 14) (t := ebOf (evOp oEq (evCall 2 f_law_take (eaCons (evVar 0) (eaCons (evC (.int 2)) eaNil))) (evC (.int 0)))) (e := evVar 14)
    (ρ := [some (.ref b), some (dP p), some (.lst (o.map dI)), some (.lst (lo.map dI)), some (dP (moved p o lo)), x5, some (dL cs), none, none, none, none, x11, x12, none, none, none]) (st := st1) dI (List.range p.2.length) (by simp [kIR1_nat (j := p.2.length) (by omega)]) (by simp; omega) hb1 (fun x _ st hb => by
      obtain ⟨t, st1, ht, hdr, et⟩ := law_take_ok (m := 2) hb (by decide)
      have et : f_law_take [.ref b, .int 2] st = .ok (dI t) st1 := et
      refine ⟨_, decide ((t : Int) = 0), st1, rfl, ?_, hdr, by simp⟩
      simp [et])
  have av := asc_of_sub hv
  have cl := ac.len
  have vl := av.len
  have vin : ∀ n ∈ v, n ∈ lo := fun n hn => (perm_mem M.hlo).mpr (av.2 n hn)
  have th := there_ok (lo := lo) vin (by omega) st2
  have ath : Asc (moved p o lo).2.length (there lo v) := by
    rw [mv_len M]
    exact there_asc M.hlo av
  -- what is shown
  have nc := named_ok (o := o) (c := cs) (fun t ht => by rw [perm_len M.ho]; exact ac.2 t ht) (by omega) st2
  have sh1 := shown_ok hp ac st2
  have sh2 := shown_ok hq (named_asc M.ho ac) st2
  have vwl := view_len (p := p) (c := cs)
  have thc := there_ok (lo := lo) (v := view p cs) (fun n hn => (perm_mem M.hlo).mpr ((view_asc p cs).2 n hn)) (by omega) st2
  rw [mv_view M ac] at sh2
  -- suspects
  have su1 := suspects_ok hp av st2
  have su2 := suspects_ok hq ath st2
  rw [mv_susp M av] at su2
  have asu := susp_asc p v
  have sul := asu.len
  have nsu := named_ok (o := o) (c := susp p v) (fun t ht => by rw [perm_len M.ho]; exact asu.2 t ht) (by omega) st2
  -- cases for the view
  have nmc : ∀ c ∈ cases p.1 2, f_law_named [.lst (o.map dI), dL c] st2 = .ok (dL (named o c)) st2 := fun c hc => by
    have a := (cases_mem.mp hc).1
    have := a.len
    exact named_ok (fun t ht => by rw [perm_len M.ho]; exact a.2 t ht) (by omega) st2
  have cf1 := cases_for_ok (k := 2) hp av (by decide) st2
  have cf2 := cases_for_ok (k := 2) hq ath (by decide) st2
  rw [mv_for M av] at cf2
  have fl : (forL p v 2).length ≤ 1024 := by
    rw [for_eq]
    exact Nat.le_trans (List.length_filter_le _ _) (cases_len hp.ten)
  have fm : ∀ c ∈ forL p v 2, c ∈ cases p.1 2 := fun c hc => by
    rw [for_eq] at hc
    exact (List.mem_filter.mp hc).1
  -- the nearest
  obtain ⟨nn, hnn⟩ := minN_ex (near_ne (p := p) (v := v) (k := 2))
  have nr1 := nearest_ok (k := 2) (n := nn) hp av (by decide) hnn st2
  have nr2 := nearest_ok (k := 2) (n := nn) hq ath (by decide) (by rw [mv_near1 M av]; exact hnn) st2
  rw [mv_near2 M av] at nr2
  have rl : (((nearR p v 2).filter fun q => decide (q.1 = nn)).map (·.2)).length ≤ 1024 := by
    rw [near_snd]
    exact Nat.le_trans (List.length_filter_le _ _) (cases_len hp.ten)
  have rm : ∀ c ∈ ((nearR p v 2).filter fun q => decide (q.1 = nn)).map (·.2), c ∈ cases p.1 2 := fun c hc => by
    rw [near_snd] at hc
    exact (List.mem_filter.mp hc).1
  generalize ((nearR p v 2).filter fun q => decide (q.1 = nn)).map (·.2) = rws at nr1 nr2 rl rm
  generalize forL p v 2 = fr at cf1 cf2 fl fm
  generalize hm : moved p o lo = q at *
  -- the steps
  have sorted : ∀ (ρ : Sl) (it : Ea) (xs : List (List Nat)), it ρ st2 = .ok (xs.map dL) st2 → xs.length ≤ 1024 → (∀ c ∈ xs, c ∈ cases p.1 2) → ρ.length = 16 → ρ[2]? = some (some (.lst (o.map dI))) →
      evB bSorted (eaCons (evLc [15] it (gN 15) ebYes (evCall 2 f_law_named (eaCons (evVar 2) (eaCons (evVar 15) eaNil)))) eaNil) ρ st2 = .ok (.lst ((sortL (xs.map (named o))).map dL)) st2 := fun ρ it xs hi hx hc hρ h2 => by
    have c1 : evLc [15] it (gN 15) ebYes (evCall 2 f_law_named (eaCons (evVar 2) (eaCons (evVar 15) eaNil))) ρ st2 = .ok (.lst ((xs.map (named o)).map dL)) st2 := by
      have := evLc_map (st := st2) (vs := [15]) (it := it) (g := gN 15) (e := evCall 2 f_law_named (eaCons (evVar 2) (eaCons (evVar 15) eaNil))) (ρ := ρ) dL (fun c => dL (named o c)) xs hi (by omega) fun c hcx => ⟨_, rfl, by
        have n1 := nmc c (hc c hcx)
        have g1 : (((wipeS ρ [15]).set 15 (some (dL c))))[15]? = some (some (dL c)) := by
          rw [List.getElem?_set_self (by rw [wipeS_length]; omega)]
        have g2 : (((wipeS ρ [15]).set 15 (some (dL c))))[2]? = some (some (.lst (o.map dI))) := by
          rw [List.getElem?_set_ne (by decide)]
          show (ρ.set 15 none)[2]? = _
          rw [List.getElem?_set_ne (by decide), h2]
        rw [evCall_ap, eaCons_ap, evVar_ap, g2]
        simp only [Ip.R.bind_ok, kC2_0, eaCons_ap, evVar_ap, g1, eaNil_ap, kC3_0]
        exact (if_pos rfl).trans n1⟩
      rw [this, List.map_map]; rfl
    rw [evB_ap, eaCons_ap, c1, Ip.R.bind_ok, kC2_0, eaNil_ap, Ip.R.bind_ok, kC3_0, Ip.R.bind_ok, kBf_0, bSorted_dL, Ip.R.lift_some]
    rfl
  have s0 : sr0 [some (.ref b), some (dP p), some (.lst (o.map dI)), some (.lst (lo.map dI)), none, none, none, none, none, none, none, none, none, none, none, none] st = .nx [some (.ref b), some (dP p), some (.lst (o.map dI)), some (.lst (lo.map dI)), some (dP q), none, none, none, none, none, none, none, none, none, none, none] st := by
    simp [sr0, mv]
  have s1 : sr1 [some (.ref b), some (dP p), some (.lst (o.map dI)), some (.lst (lo.map dI)), some (dP q), none, none, none, none, none, none, none, none, none, none, none] st = .nx [some (.ref b), some (dP p), some (.lst (o.map dI)), some (.lst (lo.map dI)), some (dP q), none, none, none, none, none, none, none, none, none, none, none] st := by
    have ne := oNe_self (d := encM (readL p).getLast?) okD_encM st
    simp [sr1, mr1, mr2, mt1, mt2, ne]
  have s2 : sr2 [some (.ref b), some (dP p), some (.lst (o.map dI)), some (.lst (lo.map dI)), some (dP q), none, none, none, none, none, none, none, none, none, none, none] st = .nx [some (.ref b), some (dP p), some (.lst (o.map dI)), some (.lst (lo.map dI)), some (dP q), x5, none, none, none, none, none, x11, x12, none, none, none] st := by
    have el' : forGo (gN 5) sr2_b [.int 0, .int 1, .int 2] [some (.ref b), some (dP p), some (.lst (o.map dI)), some (.lst (lo.map dI)), some (dP q), none, none, none, none, none, none, none, none, none, none, none] st = _ := el
    simp [sr2, el']
  have s3 : sr3 [some (.ref b), some (dP p), some (.lst (o.map dI)), some (.lst (lo.map dI)), some (dP q), x5, none, none, none, none, none, x11, x12, none, none, none] st = .nx [some (.ref b), some (dP p), some (.lst (o.map dI)), some (.lst (lo.map dI)), some (dP q), x5, some (dL cs), none, none, none, none, x11, x12, none, none, none] st1 := by
    have t : evB bTuple (eaCons (evLc [13] (itR1 (eaCons (evOp oIx (evVar 1) (evC (.int 0))) eaNil)) (gN 13) (ebOf (evOp oEq (evCall 2 f_law_take (eaCons (evVar 0) (eaCons (evC (.int 3)) eaNil))) (evC (.int 0)))) (evVar 13)) eaNil) [some (.ref b), some (dP p), some (.lst (o.map dI)), some (.lst (lo.map dI)), some (dP q), x5, none, none, none, none, none, x11, x12, none, none, none] st = .ok (dL cs) st1 := by
      rw [evB_ap, eaCons_ap, ec]; rfl
    simp [sr3, t]
  have s4 : sr4 [some (.ref b), some (dP p), some (.lst (o.map dI)), some (.lst (lo.map dI)), some (dP q), x5, some (dL cs), none, none, none, none, x11, x12, none, none, none] st1 = .nx [some (.ref b), some (dP p), some (.lst (o.map dI)), some (.lst (lo.map dI)), some (dP q), x5, some (dL cs), some (dL v), none, none, none, x11, x12, none, none, none] st2 := by
    have t : evB bTuple (eaCons (evLc [14] (itR1 (eaCons (evB bLen (eaCons (evOp oIx (evVar 1) (evC (.int 1))) eaNil)) eaNil)) (gN 14) (ebOf (evOp oEq (evCall 2 f_law_take (eaCons (evVar 0) (eaCons (evC (.int 2)) eaNil))) (evC (.int 0)))) (evVar 14)) eaNil) [some (.ref b), some (dP p), some (.lst (o.map dI)), some (.lst (lo.map dI)), some (dP q), x5, some (dL cs), none, none, none, none, x11, x12, none, none, none] st1 = .ok (dL v) st2 := by
      rw [evB_ap, eaCons_ap, ev]; rfl
    simp [sr4, t]
  have s5 : sr5 [some (.ref b), some (dP p), some (.lst (o.map dI)), some (.lst (lo.map dI)), some (dP q), x5, some (dL cs), some (dL v), none, none, none, x11, x12, none, none, none] st2 = .nx [some (.ref b), some (dP p), some (.lst (o.map dI)), some (.lst (lo.map dI)), some (dP q), x5, some (dL cs), some (dL v), some (dL (there lo v)), none, none, x11, x12, none, none, none] st2 := by
    simp [sr5, th]
  have s6 : sr6 [some (.ref b), some (dP p), some (.lst (o.map dI)), some (.lst (lo.map dI)), some (dP q), x5, some (dL cs), some (dL v), some (dL (there lo v)), none, none, x11, x12, none, none, none] st2 = .nx [some (.ref b), some (dP p), some (.lst (o.map dI)), some (.lst (lo.map dI)), some (dP q), x5, some (dL cs), some (dL v), some (dL (there lo v)), none, none, x11, x12, none, none, none] st2 := by
    simp [sr6, nc, sh1, sh2, thc]
  have s7 : sr7 [some (.ref b), some (dP p), some (.lst (o.map dI)), some (.lst (lo.map dI)), some (dP q), x5, some (dL cs), some (dL v), some (dL (there lo v)), none, none, x11, x12, none, none, none] st2 = .nx [some (.ref b), some (dP p), some (.lst (o.map dI)), some (.lst (lo.map dI)), some (dP q), x5, some (dL cs), some (dL v), some (dL (there lo v)), none, none, x11, x12, none, none, none] st2 := by
    simp [sr7, su1, su2, nsu]
  have cf1' : f_cases_for [dP p, dL v, .int 2] st2 = _ := cf1
  have cf2' : f_cases_for [dP q, dL (there lo v), .int 2] st2 = _ := cf2
  have nr1' : f_nearest [dP p, dL v, .int 2] st2 = _ := nr1
  have nr2' : f_nearest [dP q, dL (there lo v), .int 2] st2 = _ := nr2
  have s8 : sr8 [some (.ref b), some (dP p), some (.lst (o.map dI)), some (.lst (lo.map dI)), some (dP q), x5, some (dL cs), some (dL v), some (dL (there lo v)), none, none, x11, x12, none, none, none] st2 = .nx [some (.ref b), some (dP p), some (.lst (o.map dI)), some (.lst (lo.map dI)), some (dP q), x5, some (dL cs), some (dL v), some (dL (there lo v)), none, none, x11, x12, none, none, none] st2 := by
    have so := sorted [some (.ref b), some (dP p), some (.lst (o.map dI)), some (.lst (lo.map dI)), some (dP q), x5, some (dL cs), some (dL v), some (dL (there lo v)), none, none, x11, x12, none, none, none] (itVal (evCall 3 f_cases_for (eaCons (evVar 1) (eaCons (evVar 7) (eaCons (evC (.int 2)) eaNil))))) fr (by simp [cf1']) fl fm rfl rfl
    have ne := oNe_self (d := .lst ((sortL (fr.map (named o))).map dL)) okD_lstL st2
    generalize (sortL (fr.map (named o))).map dL = L at so cf2' ne
    simp [sr8, so, cf2', ne]
  have s9 : sr9 [some (.ref b), some (dP p), some (.lst (o.map dI)), some (.lst (lo.map dI)), some (dP q), x5, some (dL cs), some (dL v), some (dL (there lo v)), none, none, x11, x12, none, none, none] st2 = .nx [some (.ref b), some (dP p), some (.lst (o.map dI)), some (.lst (lo.map dI)), some (dP q), x5, some (dL cs), some (dL v), some (dL (there lo v)), some (dI nn), some (.lst (rws.map dL)), x11, x12, none, none, none] st2 := by
    generalize rws.map dL = L at nr1'
    simp [sr9, nr1']
  have s10 : sr10 [some (.ref b), some (dP p), some (.lst (o.map dI)), some (.lst (lo.map dI)), some (dP q), x5, some (dL cs), some (dL v), some (dL (there lo v)), some (dI nn), some (.lst (rws.map dL)), x11, x12, none, none, none] st2 = .rt (.bl true) st2 := by
    have so := sorted [some (.ref b), some (dP p), some (.lst (o.map dI)), some (.lst (lo.map dI)), some (dP q), x5, some (dL cs), some (dL v), some (dL (there lo v)), some (dI nn), some (.lst (rws.map dL)), x11, x12, none, none, none] (itVal (evVar 10)) rws (by simp) rl rm rfl rfl
    have eq := oEq_self (d := .tup [dI nn, .lst ((sortL (rws.map (named o))).map dL)]) okD_pairL st2
    generalize (sortL (rws.map (named o))).map dL = L at so nr2' eq
    simp [sr10, so, nr2', eq]
  refine ⟨st2, d1.trans d2, ?_⟩
  have len : st2.length = st.length := (d1.trans d2).len
  show fnRun false 16 b_law_same_right _ st = _
  rw [sreq, fnRun_ap]
  have z : slots0 16 [.ref b, dP p, .lst (o.map dI), .lst (lo.map dI)] = [some (.ref b), some (dP p), some (.lst (o.map dI)), some (.lst (lo.map dI)), none, none, none, none, none, none, none, none, none, none, none, none] := rfl
  rw [z]
  simp only [srb, sCons_ap, s0, s1, s2, s3, s4, s5, s6, s7, s8, s9, s10, RS.seq_nx, RS.seq_rt]
  exact fnEnd_rt_of len
end
end K12
set_option Elab.async false
set_option linter.all false
set_option maxRecDepth 100000
set_option maxHeartbeats 4000000

namespace K12
open PySem Ip Lots Lw
def lw0_0 : Es := (sSet 3 (evCall 2 f_law_bag (eaCons (evVar 0) (eaCons (evVar 1) eaNil))))
def lw0_1 : Es := (sSet 2 (evCall 3 f_law_plan (eaCons (evVar 3) (eaCons (evC (.int 6)) (eaCons (evC (.int 7)) eaNil)))))
def lw0_2 : Es := (sIf (ebNot (ebOf (evCall 4 f_law_same_right (eaCons (evVar 3) (eaCons (evVar 2) (eaCons (evCall 2 f_law_order (eaCons (evVar 3) (eaCons (evOp oIx (evVar 2) (evC (.int 0))) eaNil))) (eaCons (evCall 2 f_law_order (eaCons (evVar 3) (eaCons (evB bLen (eaCons (evOp oIx (evVar 2) (evC (.int 1))) eaNil)) eaNil))) eaNil))))))) (sCons (sRet (evC (.bl false))) sNil) sNil)
def lw0_b : Es := (sCons lw0_0 (sCons lw0_1 (sCons lw0_2 sNil)))
def lw0 : Es := sFor (itR1 (eaCons (evC (.int 6)) eaNil)) (gN 1) lw0_b
def lw1_0 : Es := (sIf (ebNot (ebOf (evCall 4 f_law_same_right (eaCons (evVar 3) (eaCons (evVar 2) (eaCons (evRevL (evL (rg1' (evOp oIx (evVar 2) (evC (.int 0)))))) (eaCons (evRevL (evL (rg1' (evB bLen (eaCons (evOp oIx (evVar 2) (evC (.int 1))) eaNil))))) eaNil))))))) (sCons (sRet (evC (.bl false))) sNil) sNil)
def lw1_b : Es := (sCons lw1_0 sNil)
def lw1 : Es := sFor (itVal (evCall 0 f_law_known eaNil)) (gN 2) lw1_b
def lw2 : Es := (sSet 2 (evTup (eaCons (evC (.int 3)) (eaCons (evTup (eaCons (evTup (eaCons (evC (.int 0)) (eaCons (evC (.int 1)) eaNil))) (eaCons (evTup (eaCons (evC (.int 1)) (eaCons (evC (.int 2)) eaNil))) eaNil))) eaNil))))
def lw3 : Es := (sIf (ebOr (ebOf (evOp oNe (evCall 3 f_law_moved (eaCons (evVar 2) (eaCons (evL (elDisp (eaCons (evC (.int 1)) (eaCons (evC (.int 0)) (eaCons (evC (.int 2)) eaNil))))) (eaCons (evL (elDisp (eaCons (evC (.int 1)) (eaCons (evC (.int 0)) eaNil)))) eaNil)))) (evTup (eaCons (evC (.int 3)) (eaCons (evTup (eaCons (evTup (eaCons (evC (.int 0)) (eaCons (evC (.int 2)) eaNil))) (eaCons (evTup (eaCons (evC (.int 0)) (eaCons (evC (.int 1)) eaNil))) eaNil))) eaNil))))) (ebOf (evOp oNe (evCall 2 f_hidden (eaCons (evTup (eaCons (evC (.int 3)) (eaCons (evTup (eaCons (evTup (eaCons (evC (.int 0)) (eaCons (evC (.int 2)) eaNil))) (eaCons (evTup (eaCons (evC (.int 0)) (eaCons (evC (.int 1)) eaNil))) eaNil))) eaNil))) (eaCons (evC (.int 1)) eaNil))) (evTup (eaCons (evC (.int 1)) (eaCons (evTup (eaCons (evC (.int 0)) eaNil)) eaNil)))))) (sCons (sRet (evC (.bl false))) sNil) sNil)
def lw4 : Es := (sRet (evAnd (evOp oEq (evCall 1 f_most_told (eaCons (evTup (eaCons (evC (.int 3)) (eaCons (evTup (eaCons (evTup (eaCons (evC (.int 0)) (eaCons (evC (.int 2)) eaNil))) (eaCons (evTup (eaCons (evC (.int 0)) (eaCons (evC (.int 1)) eaNil))) eaNil))) eaNil))) eaNil)) (evC (.int 1))) (evOp oEq (evCall 3 f_cases_for (eaCons (evTup (eaCons (evC (.int 3)) (eaCons (evTup (eaCons (evTup (eaCons (evC (.int 0)) (eaCons (evC (.int 2)) eaNil))) (eaCons (evTup (eaCons (evC (.int 0)) (eaCons (evC (.int 1)) eaNil))) eaNil))) eaNil))) (eaCons (evTup (eaCons (evC (.int 0)) (eaCons (evC (.int 1)) eaNil))) (eaCons (evC (.int 1)) eaNil)))) (evL (elDisp (eaCons (evTup (eaCons (evC (.int 0)) eaNil)) eaNil))))))
def lwb : Es := (sCons lw0 (sCons lw1 (sCons lw2 (sCons lw3 (sCons lw4 sNil)))))
theorem lweq : b_law = lwb := rfl
theorem Fr.app {st : Sto} {ns : List Int} (h : Fr st) : Fr (st ++ [dZ ns]) := by
  unfold Fr at *
  rw [List.all_append, h, List.all_cons, rfrees_dZ]
  rfl
theorem bag_app {st : Sto} {ns : List Int} : Bag st.length (st ++ [dZ ns]) := ⟨ns, by simp⟩
theorem itR1_6 {ρ : Sl} {st : Sto} : itR1 (eaCons (evC (.int 6)) eaNil) ρ st = .ok ((List.range 6).map dI) st := rfl
/-- one turn of the first loop -/
theorem first_ok {s : List Int} (hs : s.length ≤ 63) {i : Nat} (hi : i < 6) {st : Sto} (hl : st.length = i) (hf : Fr st) (x2 x3 : Option D) :
    ∃ (x2' : Option D) (st' : Sto), lw0_b [some (.scr (s.map D.int)), some (dI i), x2, x3] st = .nx [some (.scr (s.map D.int)), some (dI i), x2', some (.ref i)] st' ∧ st'.length = i + 1 ∧ Fr st' ∧ Bag i st' := by
  obtain ⟨ns, e1⟩ := bag_ok (s := s) (k := i) (by omega) (by omega) st
  have hb : Bag i (st ++ [dZ ns]) := by rw [← hl]; exact bag_app
  have hf1 : Fr (st ++ [dZ ns]) := hf.app
  obtain ⟨p, st2, hp, d2, e2⟩ := plan_ok (a := 6) (c := 7) hb (by decide) (by decide) (by decide)
  have e2' : f_law_plan [.ref i, .int 6, .int 7] (st ++ [dZ ns]) = .ok (dP p) st2 := e2
  have hb2 := d2.bag hb
  have hf2 := Drw.fr d2 hf1
  have := hp.things
  have := hp.lots
  obtain ⟨o, st3, ho, d3, e3⟩ := order_ok (m := p.1) hb2 (by omega) hf2
  have hb3 := d3.bag hb2
  have hf3 := Drw.fr d3 hf2
  obtain ⟨lo, st4, hlo, d4, e4⟩ := order_ok (m := p.2.length) hb3 (by omega) hf3
  have hb4 := d4.bag hb3
  have hf4 := Drw.fr d4 hf3
  have M : Mv p o lo := ⟨hp.ok, ho, hlo⟩
  obtain ⟨st5, d5, e5⟩ := same_ok M hb4
  have ln : st5.length = i + 1 := by
    rw [d5.len, d4.len, d3.len, d2.len, List.length_append, hl]
    rfl
  rw [hl] at e1
  refine ⟨some (dP p), st5, ?_, ln, Drw.fr d5 hf4, d5.bag hb4⟩
  have s0 : lw0_0 [some (.scr (s.map D.int)), some (dI i), x2, x3] st = .nx [some (.scr (s.map D.int)), some (dI i), x2, some (.ref i)] (st ++ [dZ ns]) := by
    simp only [lw0_0, sSet_ap, evCall_ap, eaCons_ap, evVar_ap, List.getElem?_cons_zero, List.getElem?_cons_succ, Ip.R.bind_ok, kC2_0, eaNil_ap, kC3_0]
    have : kCall 2 f_law_bag [.scr (s.map D.int), dI i] st = .ok (.ref i) (st ++ [dZ ns]) := (if_pos rfl).trans e1
    rw [this]
    rfl
  have s1 : lw0_1 [some (.scr (s.map D.int)), some (dI i), x2, some (.ref i)] (st ++ [dZ ns]) = .nx [some (.scr (s.map D.int)), some (dI i), some (dP p), some (.ref i)] st2 := by
    have : evCall 3 f_law_plan (eaCons (evVar 3) (eaCons (evC (.int 6)) (eaCons (evC (.int 7)) eaNil))) [some (.scr (s.map D.int)), some (dI i), x2, some (.ref i)] (st ++ [dZ ns]) = .ok (dP p) st2 := by
      simp only [evCall_ap, eaCons_ap, evVar_ap, evC_ap, List.getElem?_cons_zero, List.getElem?_cons_succ, Ip.R.bind_ok, kC2_0, eaNil_ap, kC3_0]
      exact (if_pos rfl).trans e2'
    rw [lw0_1, sSet_ap, this]
    rfl
  have s2 : lw0_2 [some (.scr (s.map D.int)), some (dI i), some (dP p), some (.ref i)] st2 = .nx [some (.scr (s.map D.int)), some (dI i), some (dP p), some (.ref i)] st5 := by
    simp [lw0_2, e3, e4, e5]
  rw [lw0_b, sCons_ap, s0, RS.seq_nx, sCons_ap, s1, RS.seq_nx, sCons_ap, s2, RS.seq_nx, sNil_ap]
/-- the plans that are known -/
def known : List Pl := [(4, [[0, 1], [0, 2], [0, 3], [1, 2], [1, 3], [2, 3]]), (3, [[0, 1], [1, 2]]), (2, []), (3, [[0], [1], [2]])]
theorem known_ok (st : Sto) : f_law_known [] st = .ok (.lst (known.map dP)) st := by
  have a : oAdd st (.lst (known.take 2 |>.map dP)) (.lst (known.drop 2 |>.map dP)) = some (.lst (known.map dP)) := by
    simp only [oAdd, itemsR]
    rfl
  have a' : oAdd st (.lst [.tup [.int 4, .tup [.tup [.int 0, .int 1], .tup [.int 0, .int 2], .tup [.int 0, .int 3], .tup [.int 1, .int 2], .tup [.int 1, .int 3], .tup [.int 2, .int 3]]], .tup [.int 3, .tup [.tup [.int 0, .int 1], .tup [.int 1, .int 2]]]]) (.lst [.tup [.int 2, .tup []], .tup [.int 3, .tup [.tup [.int 0], .tup [.int 1], .tup [.int 2]]]]) = some (.lst (known.map dP)) := a
  simp [f_law_known, b_law_known, a']
theorem known_ap (ρ : Sl) (st : Sto) : itVal (evCall 0 f_law_known eaNil) ρ st = .ok (known.map dP) st := by
  have : evCall 0 f_law_known eaNil ρ st = .ok (.lst (known.map dP)) st := by
    rw [evCall_ap, eaNil_ap, Ip.R.bind_ok]
    exact (if_pos rfl).trans (known_ok st)
  rw [itVal_ap, this]
  rfl
theorem known_plan : ∀ p ∈ known, OkP p ∧ p.1 ≤ 4 ∧ p.2.length ≤ 6 := by
  have h : ∀ p ∈ known, (1 ≤ p.1 ∧ p.1 ≤ 4 ∧ p.2.length ≤ 6) ∧ ∀ l ∈ p.2, l.Pairwise (· < ·) ∧ ∀ x ∈ l, x < p.1 := by decide
  intro p hp
  obtain ⟨⟨a, b, c⟩, d⟩ := h p hp
  exact ⟨⟨a, by omega, by omega, d⟩, b, c⟩
theorem rev_ap {f : Ev} {ρ : Sl} {st : Sto} {n : Nat} (h : f ρ st = .ok (dI n) st) (hn : n ≤ 10) : evRevL (evL (rg1' f)) ρ st = .ok (.lst ((List.range n).reverse.map dI)) st := by
  have e : rng 0 n = (List.range n).map dI := rng0 n
  have c : (0 : Int) ≤ (n : Int) ∧ (n : Int) ≤ 1000000 := by omega
  rw [evRevL_ap, evL_ap, rg1__ap, h, Ip.R.bind_ok]
  have k : kRg (dI n) st = .ok ((List.range n).map dI) st := by
    rw [← e]
    exact if_pos c
  rw [k, Ip.R.bind_ok, kL_0, Ip.R.bind_ok, kRv_0, List.map_reverse]
  rfl
/-- one turn of the second loop -/
theorem second_ok {p : Pl} (hp : p ∈ known) {b : Nat} {st : Sto} (hb : Bag b st) (hf : Fr st) (x0 x1 : Option D) :
    ∃ st' : Sto, lw1_b [x0, x1, some (dP p), some (.ref b)] st = .nx [x0, x1, some (dP p), some (.ref b)] st' ∧ Bag b st' ∧ Fr st' := by
  obtain ⟨ok, a4, b6⟩ := known_plan p hp
  have M : Mv p (List.range p.1).reverse (List.range p.2.length).reverse := ⟨ok, List.reverse_perm _, List.reverse_perm _⟩
  obtain ⟨st5, d5, e5⟩ := same_ok M hb
  have r1 : evRevL (evL (rg1' (evOp oIx (evVar 2) (evC (.int 0))))) [x0, x1, some (dP p), some (.ref b)] st = _ := rev_ap (n := p.1) (by simp) (by omega)
  have r2 : evRevL (evL (rg1' (evB bLen (eaCons (evOp oIx (evVar 2) (evC (.int 1))) eaNil)))) [x0, x1, some (dP p), some (.ref b)] st = _ := rev_ap (n := p.2.length) (by simp) (by omega)
  refine ⟨st5, ?_, d5.bag hb, Drw.fr d5 hf⟩
  have c : evCall 4 f_law_same_right (eaCons (evVar 3) (eaCons (evVar 2) (eaCons (evRevL (evL (rg1' (evOp oIx (evVar 2) (evC (.int 0)))))) (eaCons (evRevL (evL (rg1' (evB bLen (eaCons (evOp oIx (evVar 2) (evC (.int 1))) eaNil))))) eaNil)))) [x0, x1, some (dP p), some (.ref b)] st = .ok (.bl true) st5 := by
    rw [evCall_ap, eaCons_ap, evVar_ap]
    simp only [List.getElem?_cons_zero, List.getElem?_cons_succ, Ip.R.bind_ok, kC2_0, eaCons_ap, evVar_ap, r1, r2, eaNil_ap, kC3_0]
    exact (if_pos rfl).trans e5
  simp [lw1_b, lw1_0, c]
/-! ### the plan that is told -/
def pA : Pl := (3, [[0, 1], [1, 2]])
def pB : Pl := (3, [[0, 2], [0, 1]])
theorem pA_ok : OkP pA := ⟨by decide, by decide, by decide, by
  have : ∀ l ∈ pA.2, l.Pairwise (· < ·) ∧ ∀ x ∈ l, x < pA.1 := by decide
  exact this⟩
theorem pB_ok : OkP pB := ⟨by decide, by decide, by decide, by
  have : ∀ l ∈ pB.2, l.Pairwise (· < ·) ∧ ∀ x ∈ l, x < pB.1 := by decide
  exact this⟩
theorem sortN_eq {l xs : List Nat} (h : l.Perm xs) (hs : xs.Pairwise (· < ·)) : sortN l = xs := by
  have nd : xs.Nodup := List.nodup_iff_pairwise_ne.mpr (hs.imp fun h => Nat.ne_of_lt h)
  exact asc_unique (sortN_asc (h.nodup_iff.mpr nd)) hs fun x => by rw [sortN_mem, h.mem_iff]
theorem cases_eq {m k : Nat} {xs : List (List Nat)} (h : (genC k m).Perm xs) (hs : xs.Pairwise fun a b => leL a b = true) (nd : xs.Nodup) : cases m k = xs := by
  have p : (cases m k).Perm (genC k m) := sortL_perm _
  exact srtL_unique (cases_sorted m k) hs ((p.trans h).nodup_iff.mpr nd) nd fun x => (p.trans h).mem_iff
theorem c30 : cases 3 0 = [[]] := cases_eq (by decide) (by decide) (by decide)
theorem c31 : cases 3 1 = [[], [0], [1], [2]] := cases_eq (by decide) (by decide) (by decide)
theorem c32 : cases 3 2 = [[], [0], [0, 1], [0, 2], [1], [1, 2], [2]] := cases_eq (by decide) (by decide) (by decide)
theorem c33 : cases 3 3 = [[], [0], [0, 1], [0, 1, 2], [0, 2], [1], [1, 2], [2]] := cases_eq (by decide) (by decide) (by decide)
theorem t_moved (st : Sto) : f_law_moved [dP pA, .lst [dI 1, dI 0, dI 2], .lst [dI 1, dI 0]] st = .ok (dP pB) st := by
  have := moved_ok (p := pA) (o := [1, 0, 2]) (lo := [1, 0]) pA_ok (by decide) (by decide) st
  have e1 : named [1, 0, 2] [1, 2] = [0, 2] := sortN_eq (by decide) (by decide)
  have e2 : named [1, 0, 2] [0, 1] = [0, 1] := sortN_eq (by decide) (by decide)
  have e : moved pA [1, 0, 2] [1, 0] = pB := by
    show (3, [named [1, 0, 2] [1, 2], named [1, 0, 2] [0, 1]]) = pB
    rw [e1, e2]
    rfl
  rw [e] at this
  exact this
theorem t_hidden (st : Sto) : f_hidden [dP pB, dI 1] st = .ok (.tup [dI 1, .tup [dI 0]]) st := by
  have := hidden_ok (p := pB) (k := 1) pB_ok (by decide) st
  have e : hid pB 1 = some (1, [0]) := by
    simp only [hid, others, pB, c31]
    decide
  rw [e] at this
  exact this
theorem t_told (st : Sto) : f_most_told [dP pB] st = .ok (dI 1) st :=
  most_told_ok (p := pB) (n := 1) pB_ok (by
    have e : tellL pB = [0, 1] := by
      show ([0, 1, 2, 3] : List Nat).filter _ = _
      simp only [List.filter_cons, List.filter_nil, rows, pB, c30, c31, c32, c33]
      decide
    rw [e]
    rfl) st
theorem t_for (st : Sto) : f_cases_for [dP pB, .tup [dI 0, dI 1], dI 1] st = .ok (.lst [.tup [dI 0]]) st := by
  have := cases_for_ok (p := pB) (v := [0, 1]) (k := 1) pB_ok ⟨by decide, by decide⟩ (by decide) st
  have e : forL pB [0, 1] 1 = [[0]] := by
    simp only [forL, rows, pB, c31]
    decide
  rw [e] at this
  exact this
theorem last_ok (x0 x1 x2 x3 : Option D) (st : Sto) : (sCons lw2 (sCons lw3 (sCons lw4 sNil))) [x0, x1, x2, x3] st = .rt (.bl true) st := by
  have a1 : f_law_moved [.tup [.int 3, .tup [.tup [.int 0, .int 1], .tup [.int 1, .int 2]]], .lst [.int 1, .int 0, .int 2], .lst [.int 1, .int 0]] st = .ok (.tup [.int 3, .tup [.tup [.int 0, .int 2], .tup [.int 0, .int 1]]]) st := t_moved st
  have a2 : f_hidden [.tup [.int 3, .tup [.tup [.int 0, .int 2], .tup [.int 0, .int 1]]], .int 1] st = .ok (.tup [.int 1, .tup [.int 0]]) st := t_hidden st
  have a3 : f_most_told [.tup [.int 3, .tup [.tup [.int 0, .int 2], .tup [.int 0, .int 1]]]] st = .ok (.int 1) st := t_told st
  have a4 : f_cases_for [.tup [.int 3, .tup [.tup [.int 0, .int 2], .tup [.int 0, .int 1]]], .tup [.int 0, .int 1], .int 1] st = .ok (.lst [.tup [.int 0]]) st := t_for st
  have n1 := oNe_self (d := .tup [.int 3, .tup [.tup [.int 0, .int 2], .tup [.int 0, .int 1]]]) (by decide) st
  have n2 := oNe_self (d := .tup [.int 1, .tup [.int 0]]) (by decide) st
  have n3 := oEq_self (d := .lst [.tup [.int 0]]) (by decide) st
  simp [lw2, lw3, lw4, a1, a2, a3, a4, n1, n2, n3]
/-- the law's own function -/
theorem law_ok {s : List Int} (hs : s.length ≤ 63) : f_law [.scr (s.map D.int)] [] = .ok (.bl true) [] := by
  obtain ⟨ρ1, st1, e1, hI⟩ := forGo_ix (g := gN 1) (b := lw0_b) dI
    (fun i ρ st => ∃ x1 x2 x3, ρ = [some (.scr (s.map D.int)), x1, x2, x3] ∧ st.length = i ∧ Fr st ∧ (0 < i → x3 = some (.ref (i - 1)) ∧ Bag (i - 1) st))
    (List.range 6) 0 [some (.scr (s.map D.int)), none, none, none] [] ⟨none, none, none, rfl, rfl, rfl, fun h => absurd h (by decide)⟩ (fun i x ρ st hx hI => by
      obtain ⟨x1, x2, x3, rfl, hl, hf, _⟩ := hI
      obtain ⟨hi, rfl⟩ := List.getElem?_eq_some_iff.mp hx
      rw [List.getElem_range]
      rw [Nat.zero_add] at hl
      have h6 : i < 6 := by simpa using hi
      obtain ⟨x2', st', e, l', f', b'⟩ := first_ok hs h6 hl hf x2 x3
      exact ⟨_, _, st', rfl, e, some (dI i), x2', some (.ref i), rfl, by omega, f', fun _ => by
        rw [show 0 + i + 1 - 1 = i by omega]
        exact ⟨rfl, b'⟩⟩)
  obtain ⟨x1, x2, x3, rfl, hl, hf, hb⟩ := hI
  obtain ⟨rfl, hb5⟩ := hb (by simp)
  have hb : Bag 5 st1 := hb5
  obtain ⟨ρ2, st2, e2, hI⟩ := forGo_ix (g := gN 2) (b := lw1_b) dP
    (fun _ ρ st => ∃ x2, ρ = [some (.scr (s.map D.int)), x1, x2, some (.ref 5)] ∧ Bag 5 st ∧ Fr st)
    known 0 [some (.scr (s.map D.int)), x1, x2, some (.ref 5)] st1 ⟨x2, rfl, hb, hf⟩ (fun i p ρ st hx hI => by
      obtain ⟨x2, rfl, hb, hf⟩ := hI
      obtain ⟨st', e, b', f'⟩ := second_ok (List.mem_of_getElem? hx) hb hf (some (.scr (s.map D.int))) x1
      exact ⟨_, _, st', rfl, e, some (dP p), rfl, b', f'⟩)
  obtain ⟨x2', rfl, _, _⟩ := hI
  show fnRun false 4 b_law _ [] = _
  rw [lweq, fnRun_ap]
  have z : slots0 4 [.scr (s.map D.int)] = [some (.scr (s.map D.int)), none, none, none] := rfl
  have s0 : lw0 [some (.scr (s.map D.int)), none, none, none] [] = .nx [some (.scr (s.map D.int)), x1, x2, some (.ref 5)] st1 := by
    rw [lw0, sFor_ap, itR1_6]
    exact e1
  have s1 : lw1 [some (.scr (s.map D.int)), x1, x2, some (.ref 5)] st1 = .nx [some (.scr (s.map D.int)), x1, x2', some (.ref 5)] st2 := by
    rw [lw1, sFor_ap, known_ap]
    exact e2
  rw [z, lwb, sCons_ap, s0, RS.seq_nx, sCons_ap, s1, RS.seq_nx, last_ok]
  show fnEnd false 0 (.rt (.bl true) st2) = _
  unfold fnEnd cutVal cutSt
  cases st2 <;> rfl
end K12
set_option Elab.async false
set_option linter.all false
set_option maxRecDepth 100000
set_option maxHeartbeats 0
namespace K12
open PySem PySem.Spec PyProof.Rows L2 Ip Lots
theorem reps_ints {K : PySem.W.Frag} {m : MX} {H : Hp} : ∀ ns : List Int, Reps K m H (ns.map D.int) (ns.map V.int)
  | [] => rfl
  | n :: ns => ⟨_, _, rfl, rfl, reps_ints ns⟩
/-- the law's promise -/
theorem law_sp {K : PySem.W.Frag} {H : Hp} {a : Addr} {ns : List Int} (hl : ns.length ≤ 63) (hS : SqL K H a (ns.map V.int)) :
    spF K 1 f_law [.ref a] H (fun v _ => v = .bl true) fun _ _ _ => False := by
  refine ⟨⟨[], []⟩, [.scr (ns.map D.int)], [], ⟨_, _, rfl, ⟨a, _, rfl, ?_, reps_ints ns⟩, rfl⟩, rfl, ⟨rfl, List.nodup_nil, fun n xs e => (nomatch e), fun a h => (nomatch h)⟩, ?_⟩
  · rcases hS with h | ⟨o, its, n, h⟩
    · exact .inl ⟨h, fun h => by rcases h with h | h <;> cases h⟩
    · exact .inr fun _ => .inr ⟨o, its, n, h⟩
  · rw [law_ok hl]
    intro m' H' _ _ v r
    exact r
section
variable {P : Program} {w : World} {K : PySem.W.Frag} {mg : Str → Option Value} {h : Heap} {f : Addr}
theorem facts (X : K.In h) (G : h.Ns mainGlobals mg) (hfa : mg ("law" : Str) = some (.ref f)) (c : He.SaysD fa fn K) :
    ∃ fd : FuncData, (∀ (s : Shared) (v : Value), BindsTo s fd ⟨[v], []⟩ [("script", v)]) ∧ ∀ base : Heap, K.In base → base.Ns mainGlobals mg → FnOk P w K mg base (L2N.CX P w) 8 f fd ["script"] (spF K 1 f_law) := by
  obtain ⟨fd, F⟩ := c.def_ 44 (d := mkD "law" 57) rfl
  have M : Md K mg h := ⟨X, G, c⟩
  have e := hfa.symm.trans (He.glo_ok X G (c.fact 44 (f := .glo "law") rfl))
  cases e
  have b := FunD.bindsA (ps := ["script"]) F fun _ _ _ _ _ _ us hl => match us, hl with | [_], _ => rfl
  exact ⟨fd, fun s v => b s [v] rfl, fun base _ _ => fn_ok F (C8.fnScope_by (by decide +kernel)) rfl rfl s_law rfl rfl (fx_law M)⟩
end
/-- the law's end, with an exception's air that knows the world -/
theorem law_end {l : PySem.W.OpenLaw} {k : Nat} {q : Program} {loose : List Str} {XP : (Str → Option Value) → Heap → Prop} {YP : World → Heap → Prop} {d : DefRec} {f : Fn}
    (lm : l.most = some 63) (ld : d.params.defaults = []) (room : Room k callerA)
    (T : ∀ (w : World) (mg : Str → Option Value) (fa : Addr) (h : Heap), YP w h → h.Ns mainGlobals mg → mg d.name = some (.ref fa) → ∃ (K : PySem.W.Frag) (fd : FuncData), K.In h ∧ (∀ (s : Shared) (u : Value), BindsTo s fd ⟨[u], []⟩ [("script", u)]) ∧ ∀ base : Heap, K.In base → base.Ns mainGlobals mg → FnOk l.prog w K mg base (L2N.CX l.prog w) k fa fd ["script"] (spF K 1 f))
    (S : ∀ (K : PySem.W.Frag) (H : Hp) (a : Addr) (ns : List Int), ns.length ≤ 63 → SqL K H a (ns.map V.int) → spF K 1 f [.ref a] H (fun v _ => v = .bl true) fun _ _ _ => False) :
    PySem.W.WalkO q loose XP YP l.row.toRowW d [] (fun f vs => PySem.call f vs) := by
  refine Att.attach_call lm ld fun w s0 s1 mg mb fa o pm cd doc a vs ns G Y ho hd hcd em eo hi hl eg => ?_
  obtain ⟨K, fd, kx, bi, fo⟩ := T w mg fa _ Y G.T.g em
  have l63 : ns.length ≤ sizeLine := Nat.le_trans hl (by decide)
  exact law_call kx G.T.g G.T.b G.T.builtins G.T.nolimit eg eo hi l63 room fo bi (fun H _ hs => S K H a ns hl hs) fun H e s' c => by
    obtain ⟨_, _, _, _, _, _, _, _, _, _, _, _, z⟩ := c
    exact z
end K12
open PySem PySem.W PySem.Calls PyProof.Rows
theorem PySem.Challenge.cw_testedlots_k12_whole_things_called_other_holds : PySem.Challenge.rw_testedlots_k12_whole_things_called_other.Holds := by
  w_on; o_law
  refine HandSHeadRun.head_any (r := OpenLaw.row PySem.Challenge.rw_testedlots_k12_whole_things_called_other) (q := view (OpenLaw.row PySem.Challenge.rw_testedlots_k12_whole_things_called_other).prog [57]) (H := K12.hk) (ob := K12.ob) (M := 8000) (loose := K12.lo) (d := HandSHeadRun.topDef (OpenLaw.row PySem.Challenge.rw_testedlots_k12_whole_things_called_other).prog 57) (kwd := []) K12.ob_eq
    (by kernel_rfl) (fun s => by kernel_rfl) K12.run (by kernel_rfl) (by kernel_rfl) (by kernel_rfl) (by rfl) (by first | assumption | decide +kernel) (by decide +kernel) ⟨rfl, rfl, rfl, rfl, rfl, by decide +kernel⟩ ?hw ?hc
  case hw => w_witness2
  case hc =>
    refine K12.law_end (l := PySem.Challenge.rw_testedlots_k12_whole_things_called_other) (k := 8) (f := K12.f_law) rfl (by kernel_rfl) ⟨rfl, by decide, by decide⟩ ?T fun K H a ns hl hS => K12.law_sp hl hS
    intro w mg fa h Y G hmg0
    obtain ⟨K, KX, c⟩ := Y
    have hmg : mg ("law" : PySem.Str) = some (.ref fa) := by
      have e : (HandSHeadRun.topDef (OpenLaw.row PySem.Challenge.rw_testedlots_k12_whole_things_called_other).prog 57).name = ("law" : PySem.Str) := by kernel_rfl
      rw [← e]
      exact hmg0
    obtain ⟨fd, hb, hF⟩ := K12.facts (P := (PySem.Challenge.rw_testedlots_k12_whole_things_called_other).prog) (w := w) KX G hmg c
    exact ⟨K, fd, KX, hb, hF⟩
